/- Part. -/
import Derived.Calls
import Derived.LoopN
import Derived.Orders
import Derived.Laws.AppendOwn
import Derived.Laws.StructEq
import Derived.ChangeKeysEq
import Derived.Laws.Slices
import Derived.Laws.RangeString
import Derived.Laws.MakeOwn
import Derived.Lib.Bytealg
import Derived.Laws.IdiomStrings
set_option maxRecDepth 100000
set_option maxHeartbeats 8000000
set_option linter.all false
namespace Go.Pv
def za:=@_root_.if_neg
def zb:=@_root_.if_pos
def zc:=@_root_.if_false
def zd:=@_root_.if_true
def ze:=@_root_.decide_eq_true_eq
def zf:=@_root_.absurd
def zg:=@_root_.congrArg
def zh:=@_root_.beq_iff_eq
def zi:=@_root_.decide_eq_true
def zj:=@_root_.propext
def zk:=@_root_.beq_eq_false_iff_ne
def aa:=@List.getElem?_eq_getElem
def ab:=@Bool.and_eq_true
def ae:=@Option.some.injEq
def ag:=@List.mem_singleton
def ah:=@Bool.false_eq_true
def ai:=@List.length_take
def aj:=@List.getElem?_eq_some_iff
def ak:=@Go.Result.andThen_ok
def am:=@List.getD_eq_getElem?_getD
def ap:=@Option.bind_some
def au:=@List.getElem_mem
def av:=@List.all_eq_true
def aw:=@List.length_append
def ay:=@List.take_succ_eq_append_getElem
def aA:=@Array.getElem?_eq_getElem
def aB:=@Go.Sem.run_bind
def aC:=@Option.ite_none_right_eq_some
def aD:=@List.getElem?_cons_zero
def aE:=@List.mem_map
def aG:=@Go.Sem.run_pure
def aH:=@List.mem_of_getElem?
def aI:=@Nat.add_assoc
def aJ:=@List.take_of_length_le
def aK:=@List.mem_cons_self
def aL:=@Array.length_toList
def aM:=@List.mem_range
def aO:=@Array.getElem?_eq_some_iff
def aP:=@List.append_nil
def aQ:=@List.mem_append
def aR:=@List.drop_eq_getElem_cons
def aS:=@List.mem_cons_of_mem
def aU:=@Option.map_some
def aV:=@List.getElem?_map
def aW:=@Nat.lt_of_lt_of_le
def aX:=@Int.toNat_natCast
def aY:=@List.length_drop
def aZ:=@List.flatMap_cons
def ba:=@List.getElem_of_mem
def bc:=@List.map_cons
def bf:=@Nat.mul_le_mul_right
def bg:=@Nat.lt_succ_iff_lt_or_eq
def bh:=@List.length_cons
def bi:=@List.getElem?_take_of_lt
def bj:=@List.append_assoc
def bk:=@List.take_length
def bl:=@List.getElem?_append_left
def bm:=@List.length_map
def bn:=@Option.map_eq_some_iff
def bo:=@Nat.eq_of_beq_eq_true
def bp:=@Nat.add_zero
def bq:=@Bool.or_eq_true
def br:=@Array.getElem?_toList
def bt:=@List.mem_cons
def bu:=@List.mem_filter
def bw:=@List.getElem?_append_right
def bx:=@List.contains_iff_mem
def bz:=@Bool.eq_iff_iff
def bA:=@List.map_append
def bB:=@Nat.mul_one
def bC:=@List.getElem?_drop
def bD:=@List.any_eq_true
def bE:=@Bool.false_and
def bF:=@Bool.true_and
def bG:=@Bool.not_eq_true'
def bH:=@List.all_cons
def bI:=@Bool.or_false
def bJ:=@List.any_cons
def bK:=@Nat.zero_add
def bL:=@Nat.le_trans
def bM:=@List.drop_of_length_le
def bN:=@Bool.not_true
def bO:=@List.getElem?_toArray
def bP:=@List.mapM_cons
def bQ:=@Bool.false_or
def bR:=@Iff.rfl
def bS:=@List.getElem?_cons_succ
def bT:=@Go.World.block_lt_of_cell?
def bU:=@List.mem_append_right
def bV:=@Option.bind_assoc
def bW:=@List.pairwise_cons
def bY:=@Nat.ble_eq
def bZ:=@Prod.mk.injEq
def ce:=@List.any_nil
def cg:=@List.length_filter_le
def ch:=@Nat.zero_le
def ci:=@List.mem_flatMap
def cl:=@List.filter_append
def cm:=@Option.some.inj
def cn:=@List.flatMap_append
def co:=@List.map_nil
def cp:=@Bool.not_false
def cq:=@Array.getElem?_append_left
def ct:=@List.length_nil
def cu:=@Nat.pow_le_pow_right
def cw:=@List.mem_iff_getElem
def cy:=@Option.getD_some
def cz:=@List.length_eq_zero_iff
def cB:=@List.pairwise_iff_getElem
def cC:=@Nat.min_eq_left
def cD:=@Nat.lt_or_ge
def cE:=@List.filter_cons
def cG:=@List.mem_append_left
def cH:=@Option.filter_eq_some_iff
def cI:=@Nat.eq_zero_or_pos
def cJ:=@Nat.succ_mul
def cL:=@Nat.beq_refl
def cM:=@Option.isSome_none
def cN:=@List.getElem?_take
def cP:=@List.getElem?_set_ne
def cQ:=@List.cons_ne_nil
def cR:=@List.size_toArray
def cU:=@List.nodup_append
def cV:=@Bool.and_eq_false_iff
def cW:=@Array.getElem?_modify
def cX:=@List.nodup_cons
def cY:=@Nat.lt_succ_self
def cZ:=@List.not_mem_nil
def da:=@List.mem_of_mem_take
def db:=@List.map_toArray
def dc:=@List.drop_length
def de:=@List.cons_append
def dg:=@Array.mem_toList_iff
def dh:=@Array.getD_eq_getD_getElem?
def di:=@Bool.and_self
def dj:=@Nat.one_shiftLeft
def dk:=@Nat.blt_eq
def dl:=@List.map_map
def dm:=@List.map_congr_left
def dp:=@List.getElem?_range
def dq:=@List.nil_append
def dr:=@Int.le_refl
def dt:=@Classical.byContradiction
def du:=@List.take_append_drop
def dv:=@List.map_set
def dw:=@List.getElem_append_left
def dx:=@Nat.le_refl
def dy:=@List.drop_zero
def dz:=@Bool.and_false
def dA:=@Ne.symm
def dB:=@List.getElem_take
def dC:=@List.ext_getElem?
def dD:=@List.take_left'
def dE:=@Nat.zero_mul
def dF:=@List.getElem?_set_self
def dG:=@List.all_map
def dH:=@List.nodup_nil
def dI:=@List.drop_drop
def dJ:=@List.getElem?_eq_none
def dK:=@List.set_eq_take_append_cons_drop
def dL:=@List.getElem_append_right
def dM:=@List.getElem?_zip_eq_some
def dN:=@List.range_succ
def dO:=@List.length_set
def dP:=@Nat.or_lt_two_pow
def dQ:=@Nat.lt_trichotomy
def dR:=@BitVec.ofInt_natCast
def dS:=@Array.getElem?_setIfInBounds_ne
def dT:=@List.length_pos_iff
def dU:=@Option.bind_eq_some_iff
def dV:=@List.isEmpty_iff
def dW:=@List.Perm.refl
def dX:=@List.take_append_of_le_length
def dY:=@List.eq_nil_of_length_eq_zero
def dZ:=@Nat.testBit_lt_two_pow
def ec:=@List.contains_cons
def ee:=@List.length_singleton
def ek:=@Array.getElem?_append_right
def em:=@Nat.pow_lt_pow_right
def ep:=@Array.toList_setIfInBounds
def eu:=@Nat.mod_eq_of_lt
def ew:=@Go.World.cell?_of_block
def ey:=@Nat.lt_irrefl
def eA:=@Bool.and_true
def eC:=@Option.map_none
def eD:=@List.cons.injEq
def eE:=@Nat.mul_div_cancel
def eF:=@List.count_pos_iff
def eG:=@Bool.true_eq_false
def eH:=@List.findIdx?_eq_some_iff_getElem
def eI:=@Nat.testBit_or
def eJ:=@Nat.ne_of_lt
def eK:=@List.take_zero
def eL:=@List.pairwise_map
def eM:=@List.getElem_cons_succ
def eN:=@Bool.eq_false_iff
def eO:=@List.mem_iff_getElem?
def eP:=@List.Perm.append_left
def eQ:=@Array.mem_of_getElem?
def eR:=@Nat.mul_eq_zero
def eS:=@Nat.min_le_left
def eU:=@List.foldl_cons
def eV:=@List.filter_nil
def eW:=@List.any_append
def eX:=@List.all_append
def eY:=@Nat.testBit_two_pow
def eZ:=@List.take_succ_cons
def fe:=@List.replicate_zero
def fg:=@List.filter_eq_self
def fh:=@Nat.le_of_eq
def fl:=@Nat.add_comm
def fm:=@List.take_length_add_append
def fo:=@List.drop_length_add_append
def fq:=@Nat.add_sub_cancel
def ft:=@List.count_set
def fw:=@Bool.and_assoc
def fy:=@BitVec.toNat_ofNat
def fB:=@Array.empty_append
def fC:=@Array.append_empty
def fD:=@List.mem_of_find?_eq_some
def fE:=@List.findIdx?_eq_none_iff
def fF:=@List.all_eq_false
def fG:=@List.Sublist.refl
def fH:=@Option.isSome_iff_exists
def fI:=@List.map_take
def fJ:=@Array.size_setIfInBounds
def fK:=@Nat.min_eq_right
def fL:=@Nat.le_mul_of_pos_right
def fM:=@Nat.add_sub_cancel_left
def fN:=@List.pairwise_singleton
def fO:=@List.nil_sublist
def fP:=@List.modify_cons
def fQ:=@List.flatMap_eq_nil_iff
def fR:=@List.ext_getElem
def fS:=@List.all_flatMap
def fT:=@Array.toList_map
def fU:=@Nat.sub_self
def fV:=@Nat.le_of_lt
def fX:=@List.filter_eq_nil_iff
def fY:=@List.append_eq_nil_iff
def fZ:=@Int.natCast_mul
def ga:=@Nat.le_of_ble_eq_true
def ge:=@Array.toList_eraseIdx
def gg:=@Nat.eq_of_testBit_eq
def gh:=@List.map_id
def gi:=@List.length_eraseIdx
def gj:=@List.getElem?_of_mem
def gm:=@List.getElem?_append
def gp:=@List.drop_take
def gq:=@Bool.or_eq_false_iff
def gt:=@List.map_eq_nil_iff
def gu:=@Array.getElem?_push
def gx:=@List.mapM_nil
def gy:=@Bool.beq_comm
def gz:=@Bool.and_comm
def gC:=@Nat.lt_or_eq_of_le
def gD:=@List.zip_cons_cons
def gE:=@Nat.lt_succ_of_lt
def gF:=@Nat.lt_of_succ_lt
def gH:=@Nat.div_self
def gN:=@List.take_add_one
def gP:=@List.foldl_append
def gQ:=@List.filter_congr
def gU:=@List.any_eq_false
def gV:=@Int.ofNat_le
def gW:=@Bool.true_or
def gY:=@Array.size_append
def gZ:=@Array.all_eq_true_iff_forall_mem
def ib:=@List.nodup_range
def ic:=@List.getElem_zip
def ie:=@List.flatMap_map
def ig:=@Array.isEmpty_iff_size_eq_zero
def ii:=@Array.ext
def ij:=@Array.eq_empty_of_size_eq_zero
def ik:=@Int.mul_le_mul_of_nonneg_left
def il:=@List.length_zip
def im:=@Option.map_map
def io:=@Nat.mod_two_eq_zero_or_one
def ip:=@Nat.mod_lt
def iq:=@List.take_take
def ir:=@List.length_eraseIdx_of_lt
def iu:=@Int.fdiv_eq_ediv_of_nonneg
def iv:=@Nat.shiftRight_eq_div_pow
def iw:=@List.pairwise_mergeSort
def iy:=@List.getElem?_replicate
def iz:=@List.eraseIdx_cons_succ
def iA:=@Nat.le_total
def iB:=@List.pairwise_lt_range
def iC:=@Int.ofNat_lt
def iD:=@Int.lt_or_le
def iE:=@Array.getElem?_extract
def iF:=@Array.getElem?_eq_none
def zD {p:Prop}(h:p:=by first|(simp;done)|omega):p:=h
def zU {p q:Prop}(h:p)(e:p=q:=by simp):q:=e▸h
def zP {p:Prop}(h:p:=by simp;omega):p:=h
def zA {p:Prop}(h:p:=by assumption):p:=h
def zS {p:Prop} (h:p:=by simp):p:=h
def zO {p:Prop} (h:p:=by omega):p:=h
def zL {p:Prop} (h:p:=by first|omega|(simp;done)|(simp;omega)):p:=h
def zQ {p:Prop} (h:p:=by first|decide|decide +kernel):p:=h
def zK {n:Nat}:n<=n:=dx n
open Go
inductive V where
 |undef
 |bool (b:Bool)
 |int (k:IntKind) (n:Int)
 |str (s:List UInt8)
 |nilptr
 |nilmap
 |nilfn
 |nilif
 |sl (tok:Option (Nat×Nat)) (nil:Bool) (n:Nat) (cs:List V)
 |agg (cs:List V)
 |tup (vs:List V)
 |eptr (cs:List V) (off:Nat)
 |ptr (l u off:Nat)
 |osl (l u off n sz:Nat)
 |map (l u:Nat)
 |iter (l u:Nat)
 |fn (f:Fn) (first captured:List V)
 |iface (t:TypeId) (v:V)
 |yld (l u:Nat)
 deriving Inhabited
inductive Ex where
 |nrm
 |exit (id:Nat)
 |ret
 deriving Inhabited,DecidableEq
inductive LS where
 |ready|busy|done
 deriving Inhabited,DecidableEq
def V.leaf:V->Bool
 | .agg _|.tup _|.undef=>false
 |_=>true
def V.cells:V->List V
 | .agg cs=>cs
 |v=>[v]
mutual
def V.eqb:V->V->Bool
 | .undef,.undef=>true
 | .bool a,.bool b=>a==b
 | .int k a,.int k' b=>decide (k=k')&&decide (a=b)
 | .str a,.str b=>decide (a=b)
 | .nilptr,.nilptr=>true
 | .nilmap,.nilmap=>true
 | .nilfn,.nilfn=>true
 | .nilif,.nilif=>true
 | .sl t nl n cs,.sl t' nl' n' cs'=>decide (t=t')&&decide (nl=nl')&&decide (n=n')&&V.eqbs cs cs'
 | .agg cs,.agg cs'=>V.eqbs cs cs'
 | .tup cs,.tup cs'=>V.eqbs cs cs'
 | .eptr cs o,.eptr cs' o'=>V.eqbs cs cs'&&decide (o=o')
 | .fn f a b,.fn f' a' b'=>decide (f=f')&&V.eqbs a a'&&V.eqbs b b'
 | .iface t v,.iface t' v'=>decide (t=t')&&V.eqb v v'
 | .ptr a b c,.ptr a' b' c'=>decide (a=a')&&decide (b=b')&&decide (c=c')
 | .osl a b c d e,.osl a' b' c' d' e'=>decide (a=a')&&decide (b=b')&&decide (c=c')&&decide (d=d')&&decide (e=e')
 | .map a b,.map a' b'=>decide (a=a')&&decide (b=b')
 | .iter a b,.iter a' b'=>decide (a=a')&&decide (b=b')
 | .yld a b,.yld a' b'=>decide (a=a')&&decide (b=b')
 |_,_=>false
def V.eqbs:List V->List V->Bool
 |[],[]=>true
 |a::l,b::m=>V.eqb a b&&V.eqbs l m
 |_,_=>false
end
inductive OBody where
 |cells (cs:List V)
 |mp (ver:Nat) (es:List (V×V))
 |siter (s:List UInt8) (pos:Nat)
 |miter (l u ver:Nat) (left:List (V×V)) (last:Option (V×V))
 |nomap
 |loop (s:LS) (pend:Option Ex)
 |dfr
 deriving Inhabited
structure Obj' where
 uid:Nat
 body:OBody
 deriving Inhabited
inductive A where
 |t (n:Nat)
 |c (v:V)
 |g (n:Nat)
 deriving Inhabited
inductive LK where
 |bool|int|str
 deriving Inhabited,DecidableEq
inductive EqK where
 |bool|ptr|sl|map|fn|iface
 |struct (l:List LK)
 deriving Inhabited,DecidableEq
inductive ExtK where
 |count|indexByte
 deriving Inhabited,DecidableEq
inductive AOp where
 |mov (x:A)
 |pick (c a b:A)
 |bin (op:BinOp) (x y:A)
 |eq (neg:Bool) (k:EqK) (x y:A)
 |un (op:UnOp) (x:A)
 |alloc (zero:List V)
 |box (sz:Nat) (x:A)
 |build (zero:List V) (parts:List (Nat×Nat×A))
 |buildSl (o:Bool) (sz:Nat) (zero:List V) (parts:List (Nat×Nat×A)) (n:Nat)
 |load (g:Option Nat) (x:A)
 |store (sz:Nat) (a x:A)
 |nilCheck (x:A)
 |fieldAddr (off:Nat) (x:A)
 |idxSl (sz:Nat) (x i:A)
 |idxArr (len sz:Nat) (x i:A)
 |part (g:Option Nat) (off:Nat) (x:A)
 |idxStr (x i:A)
 |idxVal (g:Option Nat) (len sz:Nat) (x i:A)
 |slStr (x:A) (lo hi:Option A)
 |slSl (sz:Nat) (x:A) (lo hi:Option A)
 |slArr (len sz:Nat) (x:A) (lo hi:Option A)
 |lenStr (x:A)
 |lenSl (x:A)
 |lenMap (x:A)
 |append (o:Bool) (sz bytes:Nat) (s x:A)
 |extract (x:A) (i:Nat)
 |mkFn (f:Fn) (first captured:List A)
 |mkMap
 |lookup (q:LK) (zero:V) (ok:Bool) (m k:A)
 |mapSet (q:LK) (m k v:A)
 |mapDel (q:LK) (m k:A)
 |mapEnt (q:LK) (zero:V) (m k:A)
 |entSt (m i x:A)
 |range (isStr:Bool) (x:A)
 |nextStr (x:A)
 |nextMap (x:A)
 |entry (x:A)
 |iface (t:TypeId) (x:A)
 |assert (t:TypeId) (zero:V) (ok:Bool) (x:A)
 |conv (k:IntKind) (x:A)
 |convId (x:A)
 |strOfBytes (x:A)
 |strOfInt (x:A)
 |runesOfStr (x:A)
 |bytesOfStr (x:A)
 |mkSl (o:Bool) (sz bytes:Nat) (zero:List V) (l c:A)
 |minmax (isMax:Bool) (xs:List A)
 |copy (sz:Nat) (d s:A)
 |clear (sz:Nat) (zero:List V) (x:A)
 |ext (k:ExtK) (xs:List A)
 |call (f:FuncId) (xs:List A)
 |callV (f:A) (xs:List A)
 |stuck
 deriving Inhabited
def AOp.isCall:AOp->Bool
 | .call ..|.callV ..=>true
 |_=>false
def AOp.isNext:AOp->Bool
 | .nextMap _=>true
 |_=>false
structure AOpr where
 dst:Option Nat
 op:AOp
 guard:Option (Nat×Bool)
 nm:Bool
 deriving Inhabited
inductive C where
 |skip
 |region (ops:List AOpr)
 |draw (ops:List AOpr) (free:List (Nat×Nat))
 |pin (o:AOpr) (fs:List AOpr)
 |seq (a b:C)
 |cond (c:A) (a b:C)
 |block (id:Nat) (a:C)
 |loop (a:C)
 |exit (id:Nat)
 |ret
 |rangeFunc (f:A) (ps:List Nat) (asg bd:C)
 |stuck
 deriving Inhabited
inductive ARes where
 |t (n:Nat)
 |cell (n:Nat) (g:Option Nat)
 deriving Inhabited
structure AF where
 body:C
 res:List ARes
 deriving Inhabited
structure Env where
 fc:FuncId->Option AF
 fs:FuncId->Option AF
 sh:Bool->FuncId->Bool
 fz:FuncId->Bool
 tw:FuncId->Bool
 gl:Nat->Option (List V)
 srt:FuncId->Option (Option FuncId):=λ_=>none
 mn:FuncId->Bool:=λ_=>false
 nw:FuncId->Option (List V):=λ_=>none
def upd {α:Type}(f:Nat->α) (k:Nat) (v:α):Nat->α:=λn=>cond (Nat.beq n k) v (f n)
@[simp] theorem WL {a:Type}(f:Nat->a) (k:Nat) (v:a):upd f k v k=v:=by simp[upd,cL]
def JQ {a:Type}(f:Nat->a) {k n:Nat}(v:a) (h:n≠k):upd f k v n=f n:=by
 have:Nat.beq n k=false:=by
  cases b:Nat.beq n k with
  |false=>rfl
  |true=>exact zf (bo b) h
 simp[upd,this]
def yg {a:Type}(f:Nat->a) (k:Nat) (v:a) (n:Nat):upd f k v n=if n=k then v else f n:=by by_cases h:n=k;subst h;simp;rw[JQ f v h,za h]
abbrev ZO:=Nat->Option Obj'
structure St where
 tm:Nat->V
 ob:ZO
 tk:Nat->Bool
 ro:Nat
 nx:Nat
 fb:Nat
 df:List (Nat×Nat)
def js:V:=.tup []
def ye (E:Env) (tm:Nat->V):A->V
 | .t n=>tm n
 | .c v=>v
 | .g n=>match E.gl n with
  |some cs=>.eptr cs 0
  |none=>.undef
structure Delta where
 v:V
 obs:List (Nat×Obj'):=[]
 del:Option Nat:=none
 add:List Nat:=[]
 kill:List Nat:=[]
def one (v:V):Option Delta:=some { v }
def Xb (op:BinOp) (k:IntKind) (x y:Int):Option V :=
 match op with
 | .add=>some (.int k (k.wrap (x+y)))
 | .sub=>some (.int k (k.wrap (x-y)))
 | .mul=>some (.int k (k.wrap (x*y)))
 | .quo=>if y=0 then none else some (.int k (k.wrap (x.tdiv y)))
 | .rem=>if y=0 then none else some (.int k (x.tmod y))
 | .and=>some (.int k (k.wrap (BitVec.ofInt k.bits x&&&BitVec.ofInt k.bits y).toNat))
 | .or=>some (.int k (k.wrap (BitVec.ofInt k.bits x|||BitVec.ofInt k.bits y).toNat))
 | .xor=>some (.int k (k.wrap (BitVec.ofInt k.bits x ^^^ BitVec.ofInt k.bits y).toNat))
 | .andNot=>some (.int k (k.wrap (BitVec.ofInt k.bits x &&& ~~~ BitVec.ofInt k.bits y).toNat))
 | .eql=>some (.bool (x==y))
 | .neq=>some (.bool (x != y))
 | .lss=>some (.bool (x<y))
 | .leq=>some (.bool (x<=y))
 | .gtr=>some (.bool (x > y))
 | .geq=>some (.bool (x ≥ y))
 |_=>none
def jal (op:BinOp) (k:IntKind) (x y:Int):Option V :=
 if y<0 then none else
 match op with
 | .shl=>some (.int k (k.wrap (x*2^(min y.toNat k.bits))))
 | .shr=>some (.int k (x.fdiv (2^(min y.toNat k.bits))))
 |_=>none
def jl0 (op:BinOp) (x y:List UInt8):Option V :=
 match op with
 | .add=>if x.length+y.length<=9223372036854775807 then some (.str (x++y)) else none
 | .eql=>some (.bool (x==y))
 | .neq=>some (.bool (!(x==y)))
 | .lss=>some (.bool (Op.bytesLess x y))
 | .leq=>some (.bool (Op.bytesLess x y||x==y))
 | .gtr=>some (.bool (!(Op.bytesLess x y||x==y)))
 | .geq=>some (.bool (!(Op.bytesLess x y)))
 |_=>none
def Ww:LK->V->V->Option Bool
 | .bool,.bool a,.bool b=>some (a==b)
 | .int,.int k a,.int k' b=>if k=k' then some (a==b) else none
 | .str,.str a,.str b=>some (a==b)
 |_,_,_=>none
def J7:List LK->List V->List V->Option Bool
 |[],[],[]=>some true
 |k::l,a::x,b::y=>(Ww k a b).bind λr=>(J7 l x y).map λq=>r&&q
 |_,_,_=>none
def eqV:EqK->V->V->Option Bool
 | .bool,.bool a,.bool b=>some (a==b)
 | .ptr,.nilptr,.nilptr=>some true
 | .ptr,.ptr ..,.nilptr|.ptr,.nilptr,.ptr ..|.ptr,.eptr ..,.nilptr|.ptr,.nilptr,.eptr ..=>some false
 | .sl,.sl _ nl _ _,.sl _ true 0 []=>some nl
 | .map,.nilmap,.nilmap=>some true
 | .map,.map ..,.nilmap=>some false
 | .fn,.nilfn,.nilfn=>some true
 | .fn,.fn ..,.nilfn=>some false
 | .iface,.nilif,.nilif=>some true
 | .iface,.iface ..,.nilif|.iface,.nilif,.iface ..=>some false
 | .struct l,.agg a,.agg b=>J7 l a b
 |_,_,_=>none
def YN (op:BinOp) (x y:V):Option V :=
 match x,y with
 | .int k a,.int k' b=>
  match op with
  | .shl|.shr=>jal op k a b
  |_=>if k=k' then Xb op k a b else none
 | .str a,.str b=>jl0 op a b
 |_,_=>none
def unV (op:UnOp) (x:V):Option V :=
 match op,x with
 | .not,.bool b=>some (.bool (!b))
 | .neg,.int k n=>some (.int k (k.wrap (0-n)))
 | .xor,.int k n=>Xb .xor k (if k.signed then -1 else k.max) n
 |_,_=>none
def Xz (g:Option Nat) (cs:List V) (off:Nat):Option V :=
 match g with
 |some n=>if off+n<=cs.length then some (.agg ((cs.drop off).take n)) else none
 |none=>cs[off]?
def j6 (cs:List V) (off:Nat) (vs:List V):List V:=cs.take off++vs++cs.drop (off+vs.length)
def j0 (ob:ZO) (l u:Nat):Option (List V) :=
 match ob l with
 |some ⟨u',.cells cs⟩=>if u'=u then some cs else none
 |_=>none
def jY (ob:ZO) (l u:Nat):Option (List (V×V)) :=
 match ob l with
 |some ⟨u',.mp _ es⟩=>if u'=u then some es else none
 |_=>none
abbrev jpp:Nat:=1000000000000
def jn (ob:ZO) (l:Nat):Nat :=
 match ob l with
 |some ⟨_,.mp ver _⟩=>ver
 |_=>0
def jF (ob:ZO) (sz:Nat):V->Option (List V)
 | .sl _ _ n cs=>if cs.length=n*sz then some cs else none
 | .osl l u off n sz'=>if sz'=sz then (j0 ob l u).bind λcs=>if off+n*sz<=cs.length then some ((cs.drop off).take (n*sz)) else none else none
 |_=>none
def fill (cs:List V):List (Nat×Nat×V)->Option (List V)
 |[]=>some cs
 |(off,sz,v)::rest=>
  if v.cells.length=sz/\off+sz<=cs.length/\v.cells.all V.leaf=true then fill (j6 cs off v.cells) rest else none
def JB (ρ:A->V) (ps:List (Nat×Nat×A)):List (Nat×Nat×V):=ps.map λ(o,s,x)=>(o,s,ρ x)
def Js (len cap:Nat) (lo hi:Option V):Option (Nat×Nat) :=
 let h:=match hi with
  |some (.int _ h)=>if 0<=h/\h<=cap then some h.toNat else none
  |some _=>none
  |none=>some len
 h.bind λh=>match lo with
  |some (.int _ l)=>if 0<=l/\l<=h then some (l.toNat,h) else none
  |some _=>none
  |none=>some (0,h)
def yM (q:LK) (k:V):List (V×V)->Option (Option (Nat×V))
 |[]=>some none
 |(k',v)::es=>match Ww q k k' with
  |some true=>some (some (0,v))
  |some false=>(yM q k es).map λr=>r.map λ(i,v)=>(i+1,v)
  |none=>none
def Qz:LK->V->Bool
 | .bool,.bool _=>true
 | .int,.int _ _=>true
 | .str,.str _=>true
 |_,_=>false
def V.pureLeaf:V->Bool
 | .undef|.tup _|.ptr ..|.osl ..|.map ..|.iter ..|.agg _|.fn ..|.yld ..=>false
 | .sl t _ _ _=>t.isNone
 | .iface _ v=>match v with|.bool _|.int ..|.str _|.agg []=>true|_=>false
 |_=>true
def V.pureTop:V->Bool
 | .agg cs=>cs.all V.pureLeaf
 | .fn _ first captured=>(first++captured).all λc=>match c with
  | .agg cs=>cs.all V.pureLeaf
  |c=>c.pureLeaf
 |v=>v.pureLeaf
def V.strip1:V->V
 | .sl _ nl n cs=>.sl none nl n cs
 |v=>v
def V.strip:V->V
 | .sl _ nl n cs=>.sl none nl n cs
 | .agg cs=>.agg (cs.map V.strip1)
 | .fn f first captured=>.fn f (first.map λc=>match c with|.agg cs=>.agg (cs.map V.strip1)|c=>c.strip1)
  (captured.map λc=>match c with|.agg cs=>.agg (cs.map V.strip1)|c=>c.strip1)
 |v=>v
def V.tok:V->List Nat
 | .sl (some (u,_)) _ _ _=>[u]
 | .osl _ u _ _ _=>[u]
 |_=>[]
def V.toks:V->List Nat
 | .agg cs=>cs.flatMap V.tok
 |v=>v.tok
def yH:List Nat->Bool
 |[]=>true
 |a::l=>!(l.any λb=>Nat.beq a b)&&yH l
def Ja (st:St):Nat->V->Option V
 |0,_=>none
 |k+1,v=>match v with
  | .sl (some _) nl n cs=>some (.sl none nl n cs)
  | .osl l u off n sz=>(j0 st.ob l u).bind λcs=>if Nat.ble st.ro u=true/\off+n*sz<=cs.length then
   (((cs.drop off).take (n*sz)).mapM (Ja st k)).map λcs'=>.sl none false n cs' else none
  |v=>if v.pureLeaf then some v else none
def jw (st:St) (keep:Bool) (i:Nat):V->Option V
 | .sl (some (u,z)) nl n cs=>some (.sl (if keep&&st.tk u then some (i,z) else none) nl n cs)
 | .osl l u off n sz=>(Ja st 6 (.osl l u off n sz)).bind λv=>match v with
  | .sl _ nl n' cs=>(j0 st.ob l u).map λcs0=>.sl (if keep&&Nat.beq off 0&&Nat.blt 0 n&&Nat.beq (n*sz) cs0.length then some (i,sz) else none) nl n' cs
  |_=>none
 |v=>Ja st 6 v
def Xv (st:St) (keep:Bool):Nat->List V->Option (List V)
 |_,[]=>some []
 |i,v::vs=>(jw st keep i v).bind λx=>(Xv st keep (i+1) vs).map (x::·)
def XD (st:St) (keep:Bool) (i:Nat):V->Option V
 | .agg cs=>(Xv st keep i cs).map .agg
 | .fn f first captured=>if (V.fn f first captured).strip.pureTop then some (V.fn f first captured).strip else none
 |v=>jw st keep i v
def Je (st:St) (keep:Bool):Nat->List V->Option (List V)
 |_,[]=>some []
 |i,v::vs=>(XD st keep i v).bind λx=>(Je st keep (i+16) vs).map (x::·)
def WQ (st:St) (vs:List V):Option V :=
 (Je st (yH (vs.flatMap V.toks)) 0 vs).bind λl=>if yH (l.flatMap V.toks) then (match l with
  |[v]=>some v
  |l=>some (.tup l)) else none
def Y4 (ub:Nat):V->V
 | .sl (some (i,z)) nl n cs=>.sl (some (ub+i,z)) nl n cs
 |v=>v
def Qa (ub:Nat):V->V
 | .agg cs=>.agg (cs.map (Y4 ub))
 |v=>Y4 ub v
def ja9 (ub:Nat):V->V
 | .tup vs=>.tup (vs.map (Qa ub))
 |v=>Qa ub v
def yx:V->List Nat
 | .tup vs=>vs.flatMap V.toks
 |v=>v.toks
def Jo (d ub:Nat) (b:OBody) (v:V):Option Delta:=some { v,obs:=[(d,⟨ub,b⟩)] }
def Xt (ub:Nat) (r:V):Option Delta :=
 if (yx r).all (λi=>Nat.blt i 64) then some { v:=ja9 ub r,add:=(yx r).map (ub + ·) } else none
def jd9 (call:FuncId->List V->Option V) (ub:Nat) (f:FuncId) (xs:List V):Option Delta :=
 if xs.all V.pureTop then (call f xs).bind (Xt ub) else none
def jgn (isMax:Bool):V->V->Option V
 | .int k x,.int k' y=>if k=k' then some (.int k (if isMax then (if y > x then y else x) else (if y<x then y else x))) else none
 |_,_=>none
def QK (isMax:Bool):V->List V->Option V
 |x,[]=>some x
 |x,y::ys=>(jgn isMax x y).bind λz=>QK isMax z ys
def ja8 (n:Nat) (z:List V):List V:=(List.range (n*z.length)).map λi=>z.getD (i % z.length) .undef
def jd0:List UInt8->UInt8->Int
 |[],_=>-1
 |b::l,c=>if b==c then 0 else if jd0 l c == -1 then -1 else jd0 l c+1
def extV:ExtK->List V->Option Delta
 | .count,[.str s,.int .u8 c]=>one (.int .i64 (s.count c.toNat.toUInt8:Nat))
 | .indexByte,[.str s,.int .u8 c]=>one (.int .i64 (jd0 s c.toNat.toUInt8))
 |_,_=>none
def Xi (s:List UInt8):Nat->Nat->List Nat
 |0,_=>[]
 |b+1,i=>if i<s.length then (Utf8.decode ⟨s.toArray⟩ i).1::Xi s b (i+(Utf8.decode ⟨s.toArray⟩ i).2) else []
def yS (call:FuncId->List V->Option V) (ρ:A->V) (ob:ZO) (tk:Nat->Bool) (ro d ub:Nat):AOp->Option Delta
 | .mov x=>one (ρ x)
 | .pick c a b=>match ρ c with
  | .bool t=>one (cond t (ρ a) (ρ b))
  |_=>none
 | .bin op x y=>(YN op (ρ x) (ρ y)).bind one
 | .eq neg k x y=>match k,ρ x,ρ y with
  | .ptr,.ptr l u off,.ptr l' u' off'=>if (j0 ob l u).isSome&&(j0 ob l' u').isSome then one (.bool (xor neg (Nat.beq l l'&&Nat.beq off off'))) else none
  |k,a,b=>(eqV k a b).bind λb=>one (.bool (xor neg b))
 | .un op x=>(unV op (ρ x)).bind one
 | .alloc zero=>Jo d ub (.cells zero) (.ptr d ub 0)
 | .box sz x=>if (ρ x).cells.length=sz/\(ρ x).cells.all V.leaf=true then Jo d ub (.cells (ρ x).cells) (.ptr d ub 0) else none
 | .build zero parts=>(fill zero (JB ρ parts)).bind λcs=>one (.agg cs)
 | .buildSl o sz zero parts n=>(fill zero (JB ρ parts)).bind λcs=>
  if o then (if cs.length=n*sz/\cs.all V.leaf=true then Jo d ub (.cells cs) (.osl d ub 0 n sz) else none) else if cs.length=n*sz/\(cs.map V.strip1).all V.pureLeaf=true then some { v:=.sl (some (ub,sz)) false n (cs.map V.strip1),add:=[ub] } else none
 | .load g x=>match ρ x with
  | .eptr cs off=>(Xz g cs off).bind one
  | .ptr l u off=>(j0 ob l u).bind λcs=>(Xz g cs off).bind one
  |_=>none
 | .store sz a x=>match ρ a with
  | .ptr l u off=>(j0 ob l u).bind λcs=>
   if Nat.ble ro u=true/\(ρ x).cells.length=sz/\off+sz<=cs.length/\(ρ x).cells.all V.leaf=true then
    some { v:=js,obs:=[(l,⟨u,.cells (j6 cs off (ρ x).cells)⟩)] } else none
  |_=>none
 | .nilCheck x=>match ρ x with
  | .ptr l u o=>one (.ptr l u o)
  | .eptr cs o=>one (.eptr cs o)
  | .fn (.func f) a b=>one (.fn (.func f) a b)
  |_=>none
 | .fieldAddr off x=>match ρ x with
  | .ptr l u o=>one (.ptr l u (o+off))
  | .eptr cs o=>one (.eptr cs (o+off))
  |_=>none
 | .idxSl sz x i=>match ρ x,ρ i with
  | .sl _ _ n cs,.int _ i=>if 0<=i/\i<n/\cs.length=n*sz then one (.eptr cs (i.toNat*sz)) else none
  | .osl l u off n sz',.int _ i=>if 0<=i/\i<n/\sz'=sz then one (.ptr l u (off+i.toNat*sz)) else none
  |_,_=>none
 | .idxArr len sz x i=>match ρ x,ρ i with
  | .ptr l u off,.int _ i=>if 0<=i/\i<len then one (.ptr l u (off+i.toNat*sz)) else none
  | .eptr cs off,.int _ i=>if 0<=i/\i<len then one (.eptr cs (off+i.toNat*sz)) else none
  |_,_=>none
 | .part g off x=>match ρ x with
  | .agg cs=>(Xz g cs off).bind one
  |_=>none
 | .idxStr x i=>match ρ x,ρ i with
  | .str s,.int _ i=>if 0<=i then (s[i.toNat]?).bind λb=>one (.int .u8 b.toNat) else none
  |_,_=>none
 | .idxVal g len sz x i=>match ρ x,ρ i with
  | .agg cs,.int _ i=>if 0<=i/\i<len then (Xz g cs (i.toNat*sz)).bind one else none
  |_,_=>none
 | .slStr x lo hi=>match ρ x with
  | .str s=>(Js s.length s.length (lo.map ρ) (hi.map ρ)).bind λ(l,h)=>one (.str ((s.take h).drop l))
  |_=>none
 | .slSl sz x lo hi=>match ρ x with
  | .sl _ nl n cs=>if cs.length=n*sz then (Js n n (lo.map ρ) (hi.map ρ)).bind λ(l,h)=>one (.sl none nl (h-l) ((cs.take (h*sz)).drop (l*sz))) else none
  | .osl a u off n sz'=>if sz'=sz then (Js n n (lo.map ρ) (hi.map ρ)).bind λ(l,h)=>one (.osl a u (off+l*sz) (h-l) sz) else none
  |_=>none
 | .slArr len sz x lo hi=>match ρ x with
  | .ptr a u off=>(j0 ob a u).bind λcs=>if off+len*sz<=cs.length then (Js len len (lo.map ρ) (hi.map ρ)).bind λ(l,h)=>one (.osl a u (off+l*sz) (h-l) sz) else none
  |_=>none
 | .lenStr x=>match ρ x with
  | .str s=>one (.int .i64 s.length)
  |_=>none
 | .lenSl x=>match ρ x with
  | .sl _ _ n _=>one (.int .i64 n)
  | .osl _ _ _ n _=>one (.int .i64 n)
  |_=>none
 | .lenMap x=>match ρ x with
  | .nilmap=>one (.int .i64 0)
  | .map l u=>(jY ob l u).bind λes=>one (.int .i64 es.length)
  |_=>none
 | .append o sz bytes s x=>match ρ s with
  | .sl t nl n cs=>(jF ob sz (ρ x)).bind λys=>
   if ys=[] then (if cs.length=n*sz then one (.sl t nl n cs) else none) else
   if o&&nl then
    (if 0<sz/\ys.all V.leaf=true/\(ys.length/sz)*bytes<=140737488355328/\ys.length/sz<=140737488355328 then Jo d ub (.cells ys) (.osl d ub 0 (ys.length/sz) sz) else none) else
   if cs.length=n*sz/\0<sz/\ys.all V.pureLeaf=true/\(n+ys.length/sz)*bytes<=140737488355328/\n+ys.length/sz<=140737488355328 then
    match t with
    |some (u,z)=>if tk u=true/\z=sz then some { v:=.sl (some (ub,sz)) false (n+ys.length/sz) (cs++ys),del:=some u,add:=[ub] } else none
    |none=>if nl then some { v:=.sl (some (ub,sz)) false (n+ys.length/sz) (cs++ys),add:=[ub] } else none
   else none
  | .osl l u off n sz'=>(jF ob sz (ρ x)).bind λys=>(j0 ob l u).bind λcs=>
   if ys=[] then one (.osl l u off n sz') else
   if Nat.ble ro u=true/\sz'=sz/\off=0/\n*sz<=cs.length/\0<sz/\ys.all V.leaf=true/\(n+ys.length/sz)*bytes<=140737488355328/\n+ys.length/sz<=140737488355328 then
    some { v:=.osl d ub 0 (n+ys.length/sz) sz,obs:=[(d,⟨ub,.cells (cs.take (n*sz)++ys)⟩)],kill:=[l] } else none
  |_=>none
 | .extract x i=>match ρ x with
  | .tup vs=>(vs[i]?).bind one
  |_=>none
 | .mkFn f first captured=>one (.fn f (first.map ρ) (captured.map ρ))
 | .mkMap=>Jo d ub (.mp 0 []) (.map d ub)
 | .lookup q zero ok m k=>
  let fin (r:Option (Nat×V)):Option Delta:=match r with
   |some (_,v)=>one (if ok then .tup [v,.bool true] else v)
   |none=>one (if ok then .tup [zero,.bool false] else zero)
  if Qz q (ρ k) then match ρ m with
  | .nilmap=>fin none
  | .map l u=>(jY ob l u).bind λes=>(yM q (ρ k) es).bind fin
  |_=>none else none
 | .mapSet q m k v=>if Qz q (ρ k) then match ρ m with
  | .map l u=>if Nat.ble ro u then (jY ob l u).bind λes=>(yM q (ρ k) es).bind λr=>match r with
   |some (i,_)=>some { v:=js,obs:=[(l,⟨u,.mp (jn ob l+1) (es.set i (ρ k,(ρ v).strip))⟩)] }
   |none=>some { v:=js,obs:=[(l,⟨u,.mp (jn ob l+1) (es++[(ρ k,(ρ v).strip)])⟩)] }
   else none
  |_=>none else none
 | .mapDel q m k=>if Qz q (ρ k) then match ρ m with
  | .nilmap=>one js
  | .map l u=>if Nat.ble ro u then (jY ob l u).bind λes=>(yM q (ρ k) es).bind λr=>match r with
   |some (i,_)=>some { v:=js,obs:=[(l,⟨u,.mp (jn ob l+jpp) (es.eraseIdx i)⟩)] }
   |none=>some { v:=js,obs:=[(l,⟨u,.mp (jn ob l+1) es⟩)] }
   else none
  |_=>none else none
 | .mapEnt q zero m k=>if Qz q (ρ k) then match ρ m with
  | .map l u=>if Nat.ble ro u&&Nat.blt (jn ob l) jpp then (jY ob l u).bind λes=>(yM q (ρ k) es).bind λr=>match r with
   |some (i,v)=>some { v:=.tup [v,.int .i64 i],obs:=[(l,⟨u,.mp (jn ob l+1) (es.set i (ρ k,v))⟩)] }
   |none=>some { v:=.tup [zero,.int .i64 es.length],obs:=[(l,⟨u,.mp (jn ob l+1) (es++[(ρ k,zero)])⟩)] }
   else none
  |_=>none else none
 | .entSt m i x=>match ρ m,ρ i with
  | .map l u,.int .i64 (.ofNat n)=>if Nat.ble ro u&&Nat.blt (jn ob l) jpp then (jY ob l u).bind λes=>match es[n]? with
   |some (k,_)=>some { v:=js,obs:=[(l,⟨u,.mp (jn ob l+1) (es.set n (k,(ρ x).strip))⟩)] }
   |none=>none
   else none
  |_,_=>none
 | .range true x=>match ρ x with
  | .str s=>Jo d ub (.siter s 0) (.iter d ub)
  |_=>none
 | .range false x=>match ρ x with
  | .nilmap=>Jo d ub .nomap (.iter d ub)
  | .map l u=>(jY ob l u).bind λes=>Jo d ub (.miter l u (jn ob l) es none) (.iter d ub)
  |_=>none
 | .nextMap _=>none
 | .entry x=>match ρ x with
  | .iter l u=>match ob l with
   |some ⟨u',.miter l' u2 ver _ (some (k,v))⟩=>if u'=u/\(jY ob l' u2).isSome=true/\jn ob l'=ver then one (.tup [k,v]) else none
   |_=>none
  |_=>none
 | .nextStr x=>match ρ x with
  | .iter l u=>match ob l with
   |some ⟨u',.siter s pos⟩=>if Nat.ble ro u/\u'=u then
    (if pos<s.length then some { v:=.tup [.bool true,.int .i64 pos,.int .i32 ((Utf8.decode ⟨s.toArray⟩ pos).1:Nat)],obs:=[(l,⟨u,.siter s (pos+(Utf8.decode ⟨s.toArray⟩ pos).2)⟩)] }
     else one (.tup [.bool false])) else none
   |_=>none
  |_=>none
 | .iface t x=>one (.iface t (ρ x))
 | .assert t zero ok x=>match ρ x with
  | .iface t' v=>if t'=t then one (if ok then .tup [v,.bool true] else v) else if ok then one (.tup [zero,.bool false]) else none
  | .nilif=>if ok then one (.tup [zero,.bool false]) else none
  |_=>none
 | .conv k x=>match ρ x with
  | .int _ n=>one (.int k (k.wrap n))
  |_=>none
 | .convId x=>match ρ x with
  | .str s=>one (.str s)
  |_=>none
 | .strOfBytes _=>none
 | .strOfInt _=>none
 | .runesOfStr x=>match ρ x with
  | .str s=>let rs:=Xi s s.length 0
   if rs.length<=70368744177664 then some { v:=.sl (some (ub,1)) false rs.length (rs.map λr=>.int .i32 (r:Nat)),add:=[ub] } else none
  |_=>none
 | .bytesOfStr _=>none
 | .mkSl o sz bytes zero l c=>match ρ l,ρ c with
  | .int .i64 l,.int .i64 c=>if 0<=l/\l<=c/\c*bytes<=140737488355328/\c<=140737488355328/\zero.length=sz/\0<sz then
   (if !o/\l=0 then some { v:=.sl (some (ub,sz)) false 0 [],add:=[ub] } else Jo d ub (.cells (ja8 l.toNat zero)) (.osl d ub 0 l.toNat sz)) else none
  |_,_=>none
 | .minmax isMax xs=>match xs.map ρ with
  |[]=>none
  |x::r=>(QK isMax x r).bind one
 | .copy sz x y=>(jF ob sz (ρ y)).bind λys=>match ρ x with
  | .osl l u off n sz'=>if Nat.ble ro u=true/\sz'=sz/\0<sz/\ys.all V.leaf=true then (j0 ob l u).bind λcs=>
   if off+n*sz<=cs.length then some { v:=.int .i64 (Nat.min (ys.length/sz) n:Nat),obs:=[(l,⟨u,.cells (j6 cs off (ys.take (Nat.min (ys.length/sz) n*sz)))⟩)] } else none else none
  | .sl _ _ 0 []=>one (.int .i64 0)
  |_=>none
 | .clear sz zero x=>match ρ x with
  | .osl l u off n sz'=>if Nat.ble ro u=true/\sz'=sz/\zero.length=sz then (j0 ob l u).bind λcs=>
   if off+n*sz<=cs.length then some { v:=js,obs:=[(l,⟨u,.cells (j6 cs off (ja8 n zero))⟩)] } else none else none
  | .sl _ _ 0 []=>one js
  |_=>none
 | .ext k xs=>extV k (xs.map ρ)
 | .call f xs=>jd9 call ub f (xs.map λx=>(ρ x).strip)
 | .callV f xs=>match ρ f with
  | .fn (.func g) first captured=>jd9 call ub g ((first++xs.map ρ++captured).map V.strip)
  |_=>none
 | .stuck=>none
def jmm (l u l' u' ver:Nat):List (V×V)->List (V×V)->List Delta
 |_,[]=>[]
 |pre,(k,v)::r=>{ v:=.tup [.bool true,k,v],obs:=[(l,⟨u,.miter l' u' ver (pre++r) (some (k,v))⟩)] }::jmm l u l' u' ver (pre++[(k,v)]) r
def Xf (ob:ZO) (ro:Nat) (x:V):Option (List Delta) :=
 match x with
 | .iter l u=>match ob l with
  |some ⟨u0,.miter l' u' ver left _⟩=>if Nat.ble ro u=true/\u0=u/\(jY ob l' u').isSome=true/\jn ob l'=ver then (match left with
   |[]=>some [{ v:=.tup [.bool false] }]
   |es=>some (jmm l u l' u' ver [] es)) else none
  |some ⟨u0,.nomap⟩=>if u0=u then some [{ v:=.tup [.bool false] }] else none
  |_=>none
 |_=>none
def put (tm:Nat->V) (d:Option Nat) (v:V):Nat->V :=
 match d with
 |some d=>upd tm d v
 |none=>tm
def Ji (ob:ZO):List (Nat×Obj')->ZO
 |[]=>ob
 |(l,o)::r=>upd (Ji ob r) l (some o)
def Xs (tk:Nat->Bool) (b:Bool):List Nat->Nat->Bool
 |[]=>tk
 |u::r=>upd (Xs tk b r) u b
def St.app (st:St) (dst:Option Nat) (δ:Delta):St :=
 { st with tm:=put st.tm dst δ.v,ob:=Ji (λk=>if δ.kill.any (Nat.beq k) then none else st.ob k) δ.obs,tk:=Xs (Xs st.tk false δ.del.toList) true δ.add }
def yJ (o:AOpr) (tm:Nat->V):Option Bool :=
 match o.guard with
 |none=>some true
 |some (t,b)=>match tm t with
  | .bool b'=>some (b'==b)
  | .tup []=>some false
  |_=>none
def AOpr.name (o:AOpr) (fb ub:Nat):Nat:=cond o.nm (2*ub+1) (2*(fb+o.dst.getD 0))
abbrev Y:=Nat->Nat->List V->(ZO)->(Nat->Bool)->Nat->Nat->Option (V×(ZO)×(Nat->Bool)×Nat)
def noY:Y:=λ_ _ _ _ _ _ _=>none
structure Callers where
 d:FuncId->List V->Option V
 o:FuncId->List V->(ZO)->(Nat->Bool)->Nat->Nat->Option V
 s:FuncId->List V->(ZO)->(Nat->Bool)->Nat->Nat->Nat->Option (List (V×(ZO)×(Nat->Bool)×Nat))
 y:Y
def jC (E:Env) (nm:Bool) (ρ:A->V):AOp->Option (FuncId×List V)
 | .call f xs=>if !E.sh nm f&&xs.all λx=>(ρ x).strip.pureTop then none else some (f,xs.map ρ)
 | .callV f xs=>match ρ f with
  | .fn (.func g) first captured=>if !E.sh nm g&&(first++xs.map ρ++captured).all λv=>v.strip.pureTop then none else some (g,first++xs.map ρ++captured)
  |_=>none
 |_=>none
def jj (ρ:A->V):AOp->Option (Nat×Nat×List V)
 | .callV f xs=>match ρ f with
  | .yld l u=>some (l,u,xs.map ρ)
  |_=>none
 |_=>none
def AOp.next?:AOp->Option A
 | .nextMap x=>some x
 |_=>none
def AOp.far:AOp->Bool
 | .entry _|.nextMap _=>true
 |_=>false
def jec (E:Env) (call:Callers) (o:AOpr) (st:St) (ub:Nat):Option (List (St×Nat)) :=
 match yJ o st.tm with
 |some true=>match jj (ye E st.tm) o.op with
  |some (l,u,xs)=>(call.y l u xs st.ob st.tk st.ro ub).map λ(r,ob,tk,ub')=>[({ st with tm:=put st.tm o.dst r,ob:=ob,tk:=tk },ub')]
  |none=>match jC E o.nm (ye E st.tm) o.op with
   |some (f,xs)=>if E.sh o.nm f then (call.s f xs st.ob st.tk st.ro ((st.fb+o.dst.getD 0+1)*1024) ub).map λl=>l.map λx=>({ st with tm:=put st.tm o.dst x.1,ob:=x.2.1,tk:=x.2.2.1 },x.2.2.2)
    else ((call.o f xs st.ob st.tk ((st.fb+o.dst.getD 0+1)*1024) ub).bind (Xt ub)).map λδ=>[(st.app o.dst δ,ub+64)]
   |none=>match o.op.next? with
    |some x=>(Xf st.ob st.ro (ye E st.tm x)).map λl=>l.map λδ=>(st.app o.dst δ,ub+64)
    |none=>(yS call.d (ye E st.tm) st.ob st.tk st.ro (o.name st.fb ub) ub o.op).map λδ=>[(st.app o.dst δ,ub+64)]
 |some false=>some [({ st with tm:=put st.tm o.dst js },ub)]
 |none=>none
def jbm {α β:Type}(f:α->Option (List β)):List α->Option (List β)
 |[]=>some []
 |[x]=>f x
 |x::y::r=>(f x).bind λa=>(jbm f (y::r)).map (a++·)
def bindL {α β:Type}(m:Option (List α)) (f:α->Option (List β)):Option (List β):=m.bind (jbm f)
def jkp (E:Env) (call:Callers):List AOpr->St->Nat->Option (List St)
 |[],st,ub=>some [{ st with nx:=ub }]
 |o::rest,st,ub=>bindL (jec E call o st ub) λx=>jkp E call rest x.1 x.2
def yP:V->List Nat
 | .ptr l _ _|.osl l _ _ _ _|.map l _|.iter l _=>[l]
 |_=>[]
def uOf:V->List Nat
 | .sl (some (u,_)) _ _ _=>[u]
 |_=>[]
def yy (ρ:A->V):AOp->List Nat
 | .load _ x|.store _ x _|.lookup _ _ _ x _|.lenMap x|.mapSet _ x _ _|.mapDel _ x _|.mapEnt _ _ x _|.entSt x _ _|.nextStr x|.range _ x|.clear _ _ x|.slArr _ _ x _ _=>yP (ρ x)
 | .append _ _ _ x y|.eq _ _ x y|.copy _ x y=>yP (ρ x)++yP (ρ y)
 |_=>[]
def yz (ρ:A->V):AOp->List Nat
 | .append _ _ _ s _=>uOf (ρ s)
 |_=>[]
def XA (args:List V) (ob:ZO) (tk:Nat->Bool) (ro base ub:Nat):St:={ tm:=λn=>args.getD n js,ob:=ob,tk:=tk,ro:=ro,nx:=ub,fb:=base,df:=[] }
def Wu (ob:ZO):V->Option V
 | .agg cs=>(cs.mapM (Ja (XA [] ob (λ_=>false) 0 0 0) 6)).map .agg
 | .fn ..=>none
 |v=>Ja (XA [] ob (λ_=>false) 0 0 0) 6 v
def V.scal:V->Bool
 | .bool _|.int _ _|.str _|.nilptr|.nilmap|.nilfn|.nilif=>true
 | .sl none nl n cs=>nl&&n==0&&cs.isEmpty
 |_=>false
def V.freeL:V->Bool
 | .sl (some _) _ _ cs=>cs.all V.scal
 |v=>v.scal
def V.freeT:V->Bool
 | .agg cs=>cs.all V.freeL
 |v=>v.freeL
def V.freeR:V->Bool
 | .tup vs=>vs.all V.freeT
 |v=>v.freeT
def j14 (ob:ZO) (tk:Nat->Bool) (ub:Nat):V->Option (V×(ZO)×(Nat->Bool)×Nat)
 | .sl (some (_,z)) false n cs=>if cs.all V.scal then some (.osl (2*ub+1) ub 0 n z,upd ob (2*ub+1) (some ⟨ub,.cells cs⟩),tk,ub+64) else none
 |r=>if r.scal then some (r,ob,tk,ub+64) else none
def ja4 (d ub:Nat):V->Option Delta
 | .sl (some (_,z)) false n cs=>if cs.all V.scal then some { v:=.osl d ub 0 n z,obs:=[(d,⟨ub,.cells cs⟩)] } else none
 |r=>if r.scal then some { v:=r } else none
def mkD (E:Env) (f:FuncId) (xs:List V) (d ub:Nat):Option Delta :=
 match E.nw f,xs with
 |some cs,[.sl none true 0 []]=>some { v:=.ptr d ub 0,obs:=[(d,⟨ub,.cells cs⟩)] }
 |_,_=>none
structure FP where
 ro:List Nat:=[]
 wo:List Nat:=[]
 rt:List Nat:=[]
 wt:List Nat:=[]
 all:Bool:=false
 seen:Nat->Bool:=λ_=>false
 nw:Bool:=false
def QR (x y:List Nat):Bool:=!(x.any λa=>y.any λb=>Nat.beq a b)
def W6 (f g:FP):Bool:=QR f.wo g.ro&&QR f.wo g.wo&&QR f.ro g.wo&&QR f.wt g.rt&&QR f.wt g.wt&&QR f.rt g.wt&&(!f.all||g.wo.all λl=>!f.seen l)&&(!g.all||f.wo.isEmpty)
def Delta.wo (δ:Delta):List Nat:=δ.kill++δ.obs.map (·.1)
def Delta.wt (δ:Delta):List Nat:=δ.del.toList++δ.add
def Qe (ρ:A->V) (o:AOp) (δ:Delta):FP:={ ro:=yy ρ o,wo:=δ.wo,rt:=yz ρ o,wt:=δ.wt }
def Yg (E:Env) (call:Callers):List AOpr->St->Nat->Option (List FP×St)
 |[],st,ub=>some ([],{ st with nx:=ub })
 |o::r,st,ub=>match yJ o st.tm with
  |some true=>match jC E o.nm (ye E st.tm) o.op with
   |some (f,xs)=>if E.sh o.nm f then (if E.tw f then (((xs.mapM (Wu st.ob)).bind λa'=>call.d f a').bind (ja4 (o.name st.fb ub) ub)).bind λδ=>
    (Yg E call r (st.app o.dst δ) (ub+64)).map λx=>({ wo:=δ.wo,all:=true,seen:=λl=>(st.ob l).isSome,nw:=true }::x.1,x.2) else (mkD E f xs (o.name st.fb ub) ub).bind λδ=>
    (Yg E call r (st.app o.dst δ) (ub+64)).map λx=>({ wo:=δ.wo,nw:=true }::x.1,x.2)) else
    ((call.o f xs st.ob st.tk ((st.fb+o.dst.getD 0+1) * 1024) (ub+64 * (r.length+1))).bind (Xt ub)).bind fun δ =>
      (Yg E call r (st.app o.dst δ) (ub+64)).map λx=>({ wt:=δ.wt,all:=true,seen:=λl=>(st.ob l).isSome }::x.1,x.2)
   |none=>if o.op.far then none else
    (yS call.d (ye E st.tm) st.ob st.tk st.ro (o.name st.fb ub) ub o.op).bind λδ=>
     (Yg E call r (st.app o.dst δ) (ub+64)).map λx=>(Qe (ye E st.tm) o.op δ::x.1,x.2)
  |some false=>(Yg E call r (st.app o.dst { v:=js }) (ub+64)).map λx=>({}::x.1,x.2)
  |none=>none
def Jc (free:List (Nat×Nat)) (fs:List FP):Bool:=free.all λp=>W6 (fs.getD p.1 {}) (fs.getD p.2 {})
def jyr (fs:List FP):Bool:=fs.all λf=>!f.nw
def QI (f g:FP):Bool:=QR f.wo g.ro&&QR f.wo g.wo && !g.all
def jys (fs:List FP):Bool:=(List.range fs.length).all λi=>!(fs.getD i {}).nw||(List.range fs.length).all λj=>Nat.beq i j||QI (fs.getD i {}) (fs.getD j {})
def jbw (fs:List FP):Bool:=jyr fs||jys fs
def AOp.still:AOp->Bool
 | .mov _|.pick ..|.bin ..|.un ..|.eq ..|.load ..|.nilCheck _|.fieldAddr ..|.idxSl ..|.idxArr ..|.part ..|.idxVal ..|.lenStr _|.lenSl _|.lenMap _|.extract ..|.conv ..|.lookup ..|.minmax ..=>true
 |_=>false
def WI (fs:List AOpr) (s s':St):Bool:=fs.all λo=>match o.dst with|some d=>V.eqb (s.tm d) (s'.tm d)|none=>true
abbrev Outs:=Option (List (Ex×St))
def jcs (body:St->Outs):Nat->St->Outs
 |0,_=>none
 |n+1,st=>bindL (body st) λx=>match x with
  |(.nrm,st')=>jcs body n st'
  |(e,st')=>some [(e,st')]
def jfw (tm:Nat->V):List Nat->List V->Nat->V
 |p::ps,v::vs=>jfw (upd tm p v) ps vs
 |_,_=>tm
def jbe (fa fb:St->Outs) (st:St) (ps:List Nat) (l u:Nat):Y:=λl' u' args ob tk ro ub=>
 if l'=l/\u'=u/\args.length=ps.length/\Nat.ble ro u=true then match ob l with
 |some ⟨u1,.loop .ready none⟩=>if u1=u then match fa { tm:=jfw st.tm ps args,ob,tk,ro,nx:=ub,fb:=st.fb,df:=[] } with
  |some [(.nrm,s1)]=>match s1.ob l with
   |some ⟨u2,.loop .ready none⟩=>if u2=u then match fb { s1 with ob:=upd s1.ob l (some ⟨u,.loop .busy none⟩) } with
    |some [(e,s2)]=>match s2.ob l with
     |some ⟨u3,.loop .busy none⟩=>if u3=u then (match e with
      | .nrm=>some (.bool true,upd s2.ob l (some ⟨u,.loop .ready none⟩),s2.tk,s2.nx)
      |e=>some (.bool false,upd s2.ob l (some ⟨u,.loop .done (some e)⟩),s2.tk,s2.nx)) else none
     |_=>none
    |_=>none else none
   |_=>none
  |_=>none else none
 |_=>none else none
def only {α:Type}:Option (List α)->Option α
 |some [x]=>some x
 |_=>none
def jh (E:Env) (call:Y->Callers) (y:Y) (N:Nat):C->St->Outs
 | .skip,st=>some [(.nrm,st)]
 | .region ops,st=>(jkp E (call y) ops st st.nx).map λl=>l.map λst'=>(.nrm,st')
 | .draw ops free,st=>(Yg E (call y) ops st st.nx).bind λx=>if Jc free x.1&&jbw x.1 then some [(.nrm,x.2)] else none
 | .pin o fs,st=>bindL (jec E (call y) o st st.nx) λx=>(Yg E (call y) fs x.1 x.2).bind λp=>if WI fs st p.2 then some [(.nrm,p.2)] else none
 | .seq a b,st=>bindL (jh E call y N a st) λx=>match x with
  |(.nrm,st')=>jh E call y N b st'
  |(e,st')=>some [(e,st')]
 | .cond c a b,st=>match ye E st.tm c with
  | .bool true=>jh E call y N a st
  | .bool false=>jh E call y N b st
  |_=>none
 | .block id a,st=>(jh E call y N a st).map λl=>l.map λx=>match x with
  |(.exit i,st')=>if i=id then (.nrm,st') else (.exit i,st')
  |x=>x
 | .loop a,st=>jcs (jh E call y N a) N st
 | .exit id,st=>some [(.exit id,st)]
 | .rangeFunc f ps asg bd,st=>match ye E st.tm f with
  | .fn (.func g) first captured=>
   (only ((call (jbe (jh E call y N asg) (jh E call y N bd) st ps (2*st.nx+1) st.nx)).s g (first++[.yld (2*st.nx+1) st.nx]++captured)
    (upd (upd st.ob (2*st.nx+3) (some ⟨st.nx+1,.dfr⟩)) (2*st.nx+1) (some ⟨st.nx,.loop .ready none⟩)) st.tk st.ro ((st.fb+1023)*1024) (st.nx+64))).bind λ(_,ob,tk,ub)=>
     match ob (2*st.nx+1) with
     |some ⟨u,.loop s pend⟩=>if u=st.nx/\s≠.busy/\Nat.ble st.ro st.nx=true then some [(pend.getD .nrm,{ st with ob:=λk=>if Nat.beq (2*st.nx+1) k then none else ob k,tk:=tk,nx:=ub,df:=(2*st.nx+3,st.nx+1)::st.df })] else none
     |_=>none
  |_=>none
 | .stuck,_=>none
 | .ret,st=>some [(.ret,st)]
def jv (st:St):ARes->Option V
 | .t n=>some (st.tm n)
 | .cell n g=>match st.tm n with
  | .ptr l u off=>(j0 st.ob l u).bind λcs=>Xz g cs off
  |_=>none
def j6w (st:St):Bool:=st.df.all (λx=>match st.ob x.1 with|some ⟨u,.dfr⟩=>Nat.beq u x.2&&Nat.ble st.ro u|_=>false)&&yH (st.df.map (·.1))
def St.noDf (st:St):St :=
 match st.df with
 |[]=>st
 |df=>{ st with ob:=λk=>if df.any (λx=>Nat.beq x.1 k) then none else st.ob k,df:=[] }
def jc2 (res:List ARes):Ex×St->Option V
 |(.nrm,st)|(.ret,st)=>if j6w st then (res.mapM (jv st.noDf)).bind (WQ st.noDf) else none
 |_=>none
def ja6 (args:List V):St:={ tm:=λn=>args.getD n js,ob:=λ_=>none,tk:=λ_=>false,ro:=0,nx:=0,fb:=0,df:=[] }
def endS (res:List ARes):Ex×St->Option (V×(ZO)×(Nat->Bool)×Nat)
 |(.nrm,st)|(.ret,st)=>if st.df.isEmpty then (res.mapM (jv st)).map λl=>(match l with |[v]=>v|l=>.tup l,st.ob,st.tk,st.nx) else none
 |_=>none
def j6a (f:Ex×St->Option V):Option (List (Ex×St))->Option V
 |some (x::xs)=>(f x).bind λr=>if xs.all λy=>match f y with|some r'=>V.eqb r' r|none=>false then some r else none
 |_=>none
def int64?:V->Option Int
 | .int .i64 n=>some n
 |_=>none
def j96 (x:Int):List Int->List Int
 |[]=>[x]
 |y::r=>if x<=y then x::y::r else y::j96 x r
def jox:List Int->List Int
 |[]=>[]
 |x::r=>j96 x (jox r)
def pairsI:List Int->List (Int×Int)
 |a::b::r=>(a,b)::pairsI r
 |_=>[]
def Wg:List (Int×Int)->List Int
 |[]=>[]
 |p::r=>p.1::p.2::Wg r
def Qr (x y:Int×Int):Bool:=decide (x.1<y.1)||decide (x.1=y.1)&&decide (x.2<=y.2)
def j6i (x:Int×Int):List (Int×Int)->List (Int×Int)
 |[]=>[x]
 |y::r=>if Qr x y then x::y::r else y::j6i x r
def ja7:List (Int×Int)->List (Int×Int)
 |[]=>[]
 |x::r=>j6i x (ja7 r)
def jhx:Option FuncId->Nat
 |none=>1
 |some _=>2
def QZ:Option FuncId->List Int->List Int
 |none,zs=>jox zs
 |some _,zs=>Wg (ja7 (pairsI zs))
def Yj (z:Int):Bool:=decide (-1000000000000<=z)&&decide (z<=1000000000000)
def jq6:Option FuncId->List Int->Bool
 |none,_=>true
 |some _,zs=>zs.all Yj
def jl2:Option FuncId->List V->Option V
 |none,[x]=>some x
 |some g,[x,.fn (.func g') [] []]=>if g=g' then some x else none
 |_,_=>none
def jtx (m:Option FuncId) (ob:ZO) (tk:Nat->Bool) (ro ub:Nat) (args:List V):Option (V×(ZO)×(Nat->Bool)×Nat) :=
 match jl2 m args with
 |some (.osl l u off n sz)=>(j0 ob l u).bind λcs=>if Nat.ble ro u=true/\sz=jhx m/\off+n*jhx m<=cs.length/\n<=1000000000 then
  (((cs.drop off).take (n*jhx m)).mapM int64?).bind λzs=>if jq6 m zs then some (.tup [],upd ob l (some ⟨u,.cells (j6 cs off ((QZ m zs).map (.int .i64)))⟩),tk,ub) else none else none
 |some (.sl _ _ 0 [])=>some (.tup [],ob,tk,ub)
 |_=>none
def yK (E:Env):Nat->Y->Callers
 |0,y=>{ d:=λ_ _=>none,o:=λ_ _ _ _ _ _=>none,s:=λ_ _ _ _ _ _ _=>none,y:=y }
 |n+1,y=>{
  d:=λf args=>(E.fc f).bind λaf=>j6a (jc2 af.res) (jh E (yK E n) noY n af.body (ja6 args))
  o:=λf args ob _ base ub=>if E.fz f then (args.mapM (Wu ob)).bind λargs'=>((yK E n noY).d f args').bind λr=>if r.freeR then some r else none else
   (E.fs f).bind λaf=>j6a (jc2 af.res) (jh E (yK E n) noY n af.body (XA args ob (λ_=>false) ub base ub))
  s:=λf args ob tk ro base ub=>if E.tw f then (args.mapM (Wu ob)).bind λargs'=>((yK E n noY).d f args').bind λr=>(j14 ob tk ub r).map λx=>[x] else match E.srt f with
   |some m=>(jtx m ob tk ro ub args).map λx=>[x]
   |none=>(E.fs f).bind λaf=>(jh E (yK E n) y n af.body (XA args ob tk ro base ub)).bind λl=>if E.mn f then l.mapM (endS af.res) else match l with
    |[x]=>(endS af.res x).map λr=>[r]
    |_=>none
  y:=y }
end Go.Pv
namespace Go.Pv
open Go
def jco:Value->Option V
 | .bool b=>some (.bool b)
 | .int k n=>some (.int k n)
 | .string s=>some (.str s.data.toList)
 | .pointer none=>some .nilptr
 | .slice none 0 0=>some (.sl none true 0 [])
 | .map none=>some .nilmap
 | .nilFunc=>some .nilfn
 | .nilIface=>some .nilif
 |_=>none
def Wd:Value->Option V
 | .agg cs=>(cs.toList.mapM jco).map .agg
 |v=>jco v
def opd:Operand->Option A
 | .tmp t=>some (.t t)
 | .const v=>(Wd v).map .c
 | .global g=>some (.g g)
 | .func f=>some (.c (.fn (.func f) [] []))
def opds (xs:Array Operand):Option (List A):=xs.toList.mapM opd
def QY (P:Program) (t:TypeId):Option Nat:=(P.info? t).map (·.size)
def Wj (P:Program) (t:TypeId):Option (List V):=(P.info? t).bind λi=>i.zero.bind λz=>z.cells.toList.mapM jco
def jcy:TypeDesc->Bool
 | .struct _|.array _ _=>true
 |_=>false
def jf4 (P:Program) (t:TypeId):Option (Option Nat) :=
 (P.underlying t).bind λd=>if jcy d then (QY P t).map some else some none
def jd5 (P:Program) (s:TypeId) (f:Nat):Option Field :=
 match P.underlying s with
 |some (.struct fs)=>fs[f]?
 |_=>none
def joj (P:Program) (t:TypeId):Option LK :=
 match P.underlying t with
 |some .bool=>some .bool
 |some (.int _)=>some .int
 |some .string=>some .str
 |_=>none
def eqFs (rec:TypeId->Option (List LK)) (P:Program):Nat->List Field->Option (List LK)
 |_,[]=>some []
 |off,f::r=>if f.name = "_" \/f.offset≠off then none else
  (rec f.type).bind λl=>if QY P f.type=some l.length then (eqFs rec P (off+l.length) r).map (l++·) else none
def eqTs (P:Program):Nat->TypeId->Option (List LK)
 |0,_=>none
 |d+1,t=>
  match P.underlying t with
  |some .bool=>some [.bool]
  |some (.int _)=>some [.int]
  |some .string=>some [.str]
  |some (.struct fs)=>if P.stoodInHeld t then none else eqFs (eqTs P d) P 0 fs.toList
  |_=>none
def eqK (P:Program) (t:TypeId) (x y:Operand):Option EqK :=
 match P.underlying t with
 |some .bool=>some .bool
 |some (.pointer e)=>match QY P e with
  |some (_+1)=>some .ptr
  |_=>none
 |some (.slice _)=>some .sl
 |some (.map _ _)=>some .map
 |some (.func ..)=>some .fn
 |some (.interface _)=>(match x,y with|.const _,_|_,.const _=>some .iface|_,_=>none)
 |some (.struct _)=>if P.eqGuardType P.depth t then none else (eqTs P 8 t).map .struct
 |some (.array n e)=>if P.eqGuardType P.depth t\/QY P e≠some 1 then none else (joj P e).map λk=>.struct (List.replicate n k)
 |_=>none
def jsj (P:Program) (t:TypeId):Bool :=
 match P.underlying t with
 |some .string|some (.int _)=>true
 |_=>false
def WD (place:Nat->Option (Nat×Nat)) (ps:Array (Nat×Operand)):Option (List (Nat×Nat×A)) :=
 ps.toList.mapM λ(i,x)=>(place i).bind λ(o,s)=>(opd x).map λa=>(o,s,a)
def Wh (x:Option Operand):Option (Option A) :=
 match x with
 |none=>some none
 |some x=>(opd x).map some
def jhc (P:Program) (o:Bool) (b:Builtin) (args:Array Operand) (ats:Array TypeId):Option AOp :=
 match b with
 | .len=>(opds args).bind λl=>match l,(ats[0]?).bind P.underlying with
  |[x],some .string=>some (.lenStr x)
  |[x],some (.slice _)=>some (.lenSl x)
  |[x],some (.map _ _)=>some (.lenMap x)
  |_,_=>none
 | .append=>(opds args).bind λl=>match l,ats.toList with
  |[s,x],[t,u]=>if t=u then match P.underlying t with
   |some (.slice e)=>(P.info? e).bind λi=>i.zero.bind λz=>if 0<i.size/\z.cells.size=i.size then some (.append o i.size i.bytes s x) else none
   |_=>none else none
  |_,_=>none
 | .min=>(opds args).map (.minmax false)
 | .max=>(opds args).map (.minmax true)
 | .copy=>(opds args).bind λl=>match l,(ats[0]?).bind P.underlying with
  |[x,y],some (.slice e)=>(QY P e).map λs=>.copy s x y
  |_,_=>none
 | .clear=>(opds args).bind λl=>match l,(ats[0]?).bind P.underlying with
  |[x],some (.slice e)=>(QY P e).bind λs=>(Wj P e).map λz=>.clear s z x
  |_,_=>none
 | .delete=>(opds args).bind λl=>match l,(ats[0]?).bind P.underlying with
  |[m,k],some (.map kt _)=>(joj P kt).map λq=>.mapDel q m k
  |_,_=>none
 |_=>none
def j47 (P:Program) (f:FuncId):Option ExtK :=
 (P.funcs[f]?).bind λfn=>if fn.body.isSome\/fn.origin≠ "" then none else
  if fn.name = "internal/bytealg.CountString" then some .count else if fn.name = "internal/bytealg.IndexByteString" then some .indexByte else none
def ja0 (P:Program) (o:Bool) (c:Call):Option AOp :=
 match c.callee with
 | .value (.func f)=>(opds c.args).map λl=>match j47 P f with|some k=>.ext k l|none=>.call f l
 | .value x=>(opd x).bind λa=>(opds c.args).map (.callV a)
 | .invoke _ _=>none
 | .builtin b=>(jhc P o b c.args c.argTypes).filter λa=>!a.isCall && !a.isNext
def jqf (P:Program) (o:Bool) (op:Op):Option AOp :=
 match op with
 | .move x|.assign x=>(opd x).map .mov
 | .pick c a b=>(opd c).bind λc=>(opd a).bind λa=>(opd b).map λb=>.pick c a b
 | .alloc e=>(Wj P e).map .alloc
 | .box e x=>(QY P e).bind λn=>(opd x).map (.box n)
 | .build t ps=>(Wj P t).bind λz=>match P.underlying t with
  |some (.struct fs)=>(fs.toList.mapM λf=>(P.info? f.type).map λi=>(f.offset,i.size)).bind λplaces=>(WD (places.toArray[·]?) ps).map (.build z)
  |some (.array _ e)=>(QY P e).bind λs=>(WD (λi=>some (i*s,s)) ps).map (.build z)
  |_=>none
 | .buildSlice t n ps=>match P.underlying t with
  |some (.slice e)=>(QY P e).bind λs=>(Wj P e).bind λz=>
   if z.length=s/\0<s/\n*s<=16777216 then (WD (λi=>some (i*s,s)) ps).map λl=>.buildSl o s (ja8 n z) l n else none
  |_=>none
 | .load t x=>(jf4 P t).bind λg=>(opd x).map (.load g)
 | .store t a x=>(QY P t).bind λs=>(opd a).bind λa=>(opd x).map (.store s a)
 | .nilCheck x=>(opd x).map .nilCheck
 | .binOp op t x y _=>(opd x).bind λx'=>(opd y).bind λy'=>match op with
  | .eql=>if jsj P t then some (.bin .eql x' y') else (eqK P t x y).map λk=>.eq false k x' y'
  | .neq=>if jsj P t then some (.bin .neq x' y') else (eqK P t x y).map λk=>.eq true k x' y'
  |op=>some (.bin op x' y')
 | .unOp op _ x=>(opd x).map (.un op)
 | .convert s d x=>match P.underlying s,P.underlying d with
  |some (.int _),some (.int k)=>(opd x).map (.conv k)
  |some .string,some .string=>(opd x).map .convId
  |some .string,some (.slice e)=>match P.underlying e with
   |some (.int .i32)=>(opd x).map .runesOfStr
   |_=>none
  |_,_=>none
 | .makeInterface t x=>match P.underlying t with
  |some (.interface _)=>none
  |some _=>(opd x).map (.iface t)
  |none=>none
 | .makeFunc f a b=>(opds a).bind λa=>(opds b).map (.mkFn f a)
 | .makeMap _ none=>some .mkMap
 | .makeSlice t l c=>match P.underlying t with
  |some (.slice e)=>(P.info? e).bind λi=>(Wj P e).bind λz=>(opd l).bind λl=>(opd c).map λc=>.mkSl o i.size i.bytes z l c
  |_=>none
 | .typeAssert x _ t ok=>match P.underlying t with
  |some (.interface _)=>none
  |some _=>(P.info? t).bind λi=>i.zero.bind λz=>(Wd z).bind λz=>(opd x).map (.assert t z ok)
  |none=>none
 | .slice t x lo hi none=>(opd x).bind λx=>(Wh lo).bind λlo=>(Wh hi).bind λhi=>match P.underlying t with
  |some .string=>some (.slStr x lo hi)
  |some (.slice e)=>(QY P e).map λs=>.slSl s x lo hi
  |some (.array n e)=>if n<=maxLen then (QY P e).map λs=>.slArr n s x lo hi else none
  |_=>none
 | .fieldAddr s x f=>(jd5 P s f).bind λf=>(QY P f.type).bind λn=>if n=0 then none else (opd x).map (.fieldAddr f.offset)
 | .field s x f=>(jd5 P s f).bind λf=>(jf4 P f.type).bind λg=>(opd x).map (.part g f.offset)
 | .indexAddr t x i=>(opd x).bind λx=>(opd i).bind λi=>match P.underlying t with
  |some (.slice e)=>(QY P e).bind λs=>if s=0 then none else some (.idxSl s x i)
  |some (.array n e)=>(QY P e).map λs=>.idxArr n s x i
  |_=>none
 | .index t x i=>(opd x).bind λx=>(opd i).bind λi=>match P.underlying t with
  |some .string=>some (.idxStr x i)
  |some (.array n e)=>(QY P e).bind λs=>(jf4 P e).map λg=>.idxVal g n s x i
  |_=>none
 | .lookup t m k ok=>match P.underlying t with
  |some (.map kt e)=>(joj P kt).bind λq=>(P.info? e).bind λi=>i.zero.bind λz=>(Wd z).bind λz=>(opd m).bind λm=>(opd k).map λk=>.lookup q z ok m k
  |_=>none
 | .mapUpdate t m k v=>match P.underlying t with
  |some (.map kt _)=>(joj P kt).bind λq=>(opd m).bind λm=>(opd k).bind λk=>(opd v).map (.mapSet q m k)
  |_=>none
 | .insert t m k v=>match P.underlying t with
  |some (.map kt _)=>(joj P kt).bind λq=>(opd m).bind λm=>(opd k).bind λk=>(opd v).map (.mapSet q m k)
  |_=>none
 | .mapEntry t m k=>match P.underlying t with
  |some (.map kt e)=>(joj P kt).bind λq=>(P.info? e).bind λi=>i.zero.bind λz=>(Wd z).bind λz=>(opd m).bind λm=>(opd k).map λk=>.mapEnt q z m k
  |_=>none
 | .entryStore _ m s x=>(opd m).bind λm=>(opd s).bind λs=>(opd x).map (.entSt m s)
 | .range t x=>match P.underlying t with
  |some .string=>(opd x).map (.range true)
  |some (.map _ _)=>(opd x).map (.range false)
  |_=>none
 | .next x true=>(opd x).map .nextStr
 | .entry x=>(opd x).map .entry
 | .extract x i=>(opd x).map λx=>.extract x i
 |_=>none
def Jy (P:Program) (m:Bool) (o:Oper):Option AOp :=
 match o.op with
 | .call c=>ja0 P m c
 | .next x false=>(opd x).map .nextMap
 |op=>(jqf P m op).filter λa=>!a.isCall && !a.isNext
def Jf (P:Program) (m:Bool) (ops:Array Oper) (o:Oper):Option AOpr :=
 let a:=(Jy P m o).getD .stuck
 match o.guard with
  |none=>some { dst:=o.dst,op:=a,guard:=none,nm:=m }
  |some (j,b)=>((ops[j]?).bind (·.dst)).map λt=>{ dst:=o.dst,op:=a,guard:=some (t,b),nm:=m }
def AOp.opds:AOp->List A
 | .mov x|.un _ x|.box _ x|.load _ x|.nilCheck x|.fieldAddr _ x|.part _ _ x|.lenStr x|.lenSl x|.lenMap x|.extract x _|.range _ x|.nextStr x|.nextMap x|.entry x|.iface _ x|.assert _ _ _ x
 | .conv _ x|.convId x|.strOfBytes x|.strOfInt x|.runesOfStr x|.bytesOfStr x=>[x]
 | .pick a b c=>[a,b,c]
 | .clear _ _ x=>[x]
 | .bin _ x y|.eq _ _ x y|.store _ x y|.idxSl _ x y|.idxArr _ _ x y|.idxStr x y|.idxVal _ _ _ x y|.append _ _ _ x y|.lookup _ _ _ x y|.mapDel _ x y|.mapEnt _ _ x y|.mkSl _ _ _ _ x y|.copy _ x y=>[x,y]
 | .alloc _|.mkMap|.stuck=>[]
 | .build _ ps|.buildSl _ _ _ ps _=>ps.map (·.2.2)
 | .slStr x l h|.slSl _ x l h|.slArr _ _ x l h=>x::(l.toList++h.toList)
 | .mkFn _ a b=>a++b
 | .mapSet _ m k v|.entSt m k v=>[m,k,v]
 | .minmax _ xs|.call _ xs|.ext _ xs=>xs
 | .callV f xs=>f::xs
def A.tmps:A->List Nat
 | .t n=>[n]
 |_=>[]
def AOpr.looks (o:AOpr):List Nat:=o.op.opds.flatMap A.tmps++(match o.guard with|some (t,_)=>[t]|none=>[])
def AOp.rO:AOp->Bool
 | .load ..|.store ..|.lookup ..|.lenMap ..|.mapSet ..|.mapDel ..|.mapEnt ..|.entSt ..|.nextStr ..|.append ..|.eq ..|.copy ..|.clear ..|.range ..|.nextMap ..|.entry ..|.slArr ..=>true
 |_=>false
def AOp.rA:AOp->Bool
 | .call ..|.callV ..=>true
 |_=>false
def AOp.wO:AOp->Bool
 | .alloc ..|.box ..|.mkMap|.range ..|.store ..|.mapSet ..|.mapDel ..|.mapEnt ..|.entSt ..|.nextStr ..|.append ..|.buildSl ..|.mkSl ..|.copy ..|.clear ..|.nextMap ..=>true
 |_=>false
def AOp.rT:AOp->Bool
 | .append ..=>true
 |_=>false
def AOp.wT:AOp->Bool
 | .append ..|.buildSl ..|.mkSl ..|.runesOfStr ..|.call ..|.callV ..=>true
 |_=>false
def AOp.quiet (x y:AOp):Bool :=
 !(x.wO&&(y.rO||y.wO)) && !(y.wO&&x.rO) && !(x.wT&&(y.rT||y.wT)) && !(y.wT&&x.rT) && !(x.rA&&(y.wO||y.wT)) && !(y.rA&&(x.wO||x.wT))
def AOpr.apart (x y:AOpr):Bool :=
 (match x.dst with
  |some d=>!(y.looks.any λt=>Nat.beq t d)&&(match y.dst with|some e=>!Nat.beq e d|none=>true)
  |none=>true) &&
 (match y.dst with
  |some d=>!(x.looks.any λt=>Nat.beq t d)
  |none=>true)
def ahead (o:Oper) (ms:List Nat):Nat :=
 o.after.toList.foldl (λm e=>if Region.binds .any e then m|||(1<<<e.on|||ms.getD e.on 0) else m) 0
def JH:List Oper->List Nat->List Nat
 |[],ms=>ms
 |o::r,ms=>JH r (ms++[ahead o ms])
def Ya (ops:Array Oper) (als:List AOpr):Option (List (Nat×Nat)) :=
 let ms:=JH ops.toList []
 let n:=als.length
 let pairs:=(List.range n).flatMap λj=>((List.range j).filter λi=>!(ms.getD j 0).testBit i).map λi=>(i,j)
 if ((List.range n).all λj=>match ops[j]? with|some o=>o.after.all λe=>!Region.binds .any e||Nat.blt e.on j|none=>true) &&
  (pairs.all λp=>match als[p.1]?,als[p.2]? with|some x,some y=>x.apart y|_,_=>true)
 then some (pairs.filter λp=>match als[p.1]?,als[p.2]? with|some x,some y=>!x.op.quiet y.op|_,_=>false)
 else none
def J6 (ops:Array Oper) (n:Nat):Nat :=
 (List.range n).foldl (λk j=>if (List.range j).all λi=>((JH ops.toList []).getD j 0).testBit i then k else j+1) 0
def j2y (ops:Array Oper) (als:List AOpr) (k c:Nat):Bool :=
 Nat.blt (c+1) k&&(match als[c]? with|some o=>o.op.isCall|none=>false)&&((List.range c).all λi=>((JH ops.toList []).getD c 0).testBit i) &&
 ((List.range k).all fun j=>Nat.ble j c || match als[j]? with
   |some o=>o.op.still && !((JH ops.toList []).getD j 0).testBit c&&(match o.dst with
    |some d=>(List.range k).all λi=>match als[i]? with
     |some x=>(Nat.beq i j||match x.dst with|some e=>!Nat.beq e d|none=>true)&&(Nat.blt j i || !(x.looks.any λt=>Nat.beq t d))
     |none=>true
    |none=>true)
   |none=>true)
def pinAt (ops:Array Oper) (als:List AOpr) (k:Nat):Option Nat :=
 (((List.range k).filter λi=>match als[i]? with|some o=>o.op.isCall|none=>false).getLast?).filter (j2y ops als k)
def jyw (ops:Array Oper) (als:List AOpr) (c:Nat):Bool :=
 (match als[c]? with|some o=>o.op.isCall|none=>false)&&((List.range c).all λi=>((JH ops.toList []).getD c 0).testBit i) &&
 ((List.range als.length).all λj=>Nat.ble j c||((List.range (c+1)).all λi=>((JH ops.toList []).getD j 0).testBit i)&&(match als[j]? with|some o=>o.op.still|none=>false)) &&
 ((als.drop (c+1)).any λo=>match o.op with|.extract _ _=>true|_=>false)
def midAt (ops:Array Oper) (als:List AOpr):Option Nat :=
 (((List.range als.length).filter λi=>match als[i]? with|some o=>o.op.isCall|none=>false).getLast?).filter (jyw ops als)
def jgk:AOpr:={ dst:=none,op:=.mov (.c (.tup [])),guard:=none,nm:=true }
def comp (P:Program) (m r:Bool):Code->Option C
 | .skip=>some .skip
 | .region _ ops false=>(ops.toList.mapM (Jf P m ops)).map .region
 | .region _ ops true=>(ops.toList.mapM (Jf P m ops)).map λl=>match Ya ops l with
  |some free=>if m&&Nat.blt (J6 ops l.length) l.length&&(l.drop (J6 ops l.length)).any (λo=>o.op.isCall)
   then match pinAt ops l (J6 ops l.length) with
    |some c=>.seq (.draw ((l.take (J6 ops l.length)).set c jgk) free) (.seq (.pin (l.getD c jgk) ((l.take (J6 ops l.length)).drop (c+1))) (.region (l.drop (J6 ops l.length))))
    |none=>.seq (.draw (l.take (J6 ops l.length)) free) (.region (l.drop (J6 ops l.length)))
   else match (if m then midAt ops l else none) with
    |some c=>.seq (.draw (l.take c) free) (.seq (.region [l.getD c jgk]) (.draw (List.replicate (c+1) jgk++l.drop (c+1)) free))
    |none=>.draw l free
  |none=>.stuck
 | .seq a b=>(comp P m r a).bind λa=>(comp P m r b).map (.seq a)
 | .cond c a b=>(opd c).bind λc=>(comp P m r a).bind λa=>(comp P m r b).map (.cond c a)
 | .block id a=>(comp P m r a).map (.block id)
 | .loop a=>(comp P m r a).map .loop
 | .exit id=>some (.exit id)
 | .ret=>some .ret
 | .rangeFunc f ps a b=>cond r (some .stuck) ((opd f).bind λf=>(comp P m true a).bind λa=>(comp P m true b).map (.rangeFunc f ps.toList a))
 |_=>some .stuck
def Yh (P:Program):ResultVar->Option ARes
 | .tmp t=>some (.t t)
 | .cell t ty=>(jf4 P ty).map (.cell t)
def compF (P:Program) (m r:Bool) (fn:Func):Option AF :=
 fn.body.bind λc=>(comp P m r c).bind λb=>(fn.results.toList.mapM (Yh P)).map λr=>{ body:=b,res:=r }
inductive Kd where
 |n (k:Nat)
 |lp (r:Loop)
def Kd.size:Kd->Nat
 | .n k=>k
 | .lp _=>0
inductive Place where
 |obj (b:Nat) (k:Kd)
 |tok (b n cap sz:Nat)
abbrev IMap:=Nat->Nat->Option Value
inductive RepP (I:IMap):Value->V->Prop where
 |bool (b:Bool):RepP I (.bool b) (.bool b)
 |int (k:IntKind) (n:Int):RepP I (.int k n) (.int k n)
 |str (s:ByteArray):RepP I (.string s) (.str s.data.toList)
 |nilptr:RepP I (.pointer none) .nilptr
 |nilmap:RepP I (.map none) .nilmap
 |nilfn:RepP I .nilFunc .nilfn
 |nilif:RepP I .nilIface .nilif
 |slnil:RepP I (.slice none 0 0) (.sl none true 0 [])
 |sl (a:Addr) (n cap:Nat) (cs:List V) (xs:Nat->Value) (hs:cs≠[]->a.spot=none) (hc:n<=cap) (hm:cap<=maxLen)
  (hi:∀j,j<cs.length->I a.block (a.off+j)=some (xs j)) (hl:∀(j:Nat) (v:V),cs[j]? = some v->v.pureLeaf=true)
  (hr:∀(j:Nat) (v:V),cs[j]? = some v->RepP I (xs j) v):RepP I (.slice (some a) n cap) (.sl none false n cs)
 |agg (xs:Array Value) (cs:List V) (hlen:xs.size=cs.length) (hl:∀(j:Nat) (v:V),cs[j]? = some v->v.leaf=true)
  (hr:∀(j:Nat) (x:Value) (v:V),xs[j]? = some x->cs[j]? = some v->RepP I x v):RepP I (.agg xs) (.agg cs)
 |eptr (b base off:Nat) (cs:List V) (xs:Nat->Value) (hi:∀j,j<cs.length->I b (base+j)=some (xs j))
  (hl:∀(j:Nat) (v:V),cs[j]? = some v->v.pureLeaf=true)
  (hr:∀(j:Nat) (v:V),cs[j]? = some v->RepP I (xs j) v):RepP I (.pointer (some ⟨b,base+off,none⟩)) (.eptr cs off)
 |fn (f:Fn) (xs ys:Array Value) (asg bs:List V) (hx:xs.size=asg.length) (hy:ys.size=bs.length)
  (hrx:∀(j:Nat) (x:Value) (v:V),xs[j]? = some x->asg[j]? = some v->RepP I x v) (hry:∀(j:Nat) (x:Value) (v:V),ys[j]? = some x->bs[j]? = some v->RepP I x v) :
  RepP I (.func f xs ys) (.fn f asg bs)
 |iface (t:TypeId) (x:Value) (v:V) (hr:RepP I x v):RepP I (.iface t x) (.iface t v)
inductive Rep (γ:Nat->Option Place) (I:IMap):Value->V->Prop where
 |pure (x:Value) (v:V) (h:RepP I x v):Rep γ I x v
 |undef (x:Value):Rep γ I x .undef
 |tup (xs:Array Value) (vs:List V) (hlen:xs.size=vs.length) (hr:∀(j:Nat) (x:Value) (v:V),xs[j]? = some x->vs[j]? = some v->Rep γ I x v):Rep γ I (.tuple xs) (.tup vs)
 |agg (xs:Array Value) (cs:List V) (hlen:xs.size=cs.length) (hl:∀(j:Nat) (v:V),cs[j]? = some v->v.leaf=true)
  (hr:∀(j:Nat) (x:Value) (v:V),xs[j]? = some x->cs[j]? = some v->Rep γ I x v):Rep γ I (.agg xs) (.agg cs)
 |tsl (u b n cap sz:Nat) (cs:List V) (xs:Nat->Value) (hu:γ u=some (.tok b n cap sz)) (hlen:cs.length=n*sz) (hc:n<=cap) (hm:cap<=maxLen)
  (hi:∀j,j<cs.length->I b j=some (xs j)) (hl:∀(j:Nat) (v:V),cs[j]? = some v->v.pureLeaf=true) (hr:∀(j:Nat) (v:V),cs[j]? = some v->RepP I (xs j) v) :
  Rep γ I (.slice (some ⟨b,0,none⟩) n cap) (.sl (some (u,sz)) false n cs)
 |ptr (l u off b:Nat) (k:Kd) (hu:γ u=some (.obj b k)):Rep γ I (.pointer (some ⟨b,off,none⟩)) (.ptr l u off)
 |osl (l u off n sz cap b:Nat) (k:Kd) (a:Addr) (hu:γ u=some (.obj b k)) (ha:0<cap->a=⟨b,off,none⟩/\off+cap*sz<=k.size) (hc:n<=cap) (hm:cap<=maxLen) :
  Rep γ I (.slice (some a) n cap) (.osl l u off n sz)
 |map (l u b:Nat) (k:Kd) (hu:γ u=some (.obj b k)):Rep γ I (.map (some b)) (.map l u)
 |iter (l u b:Nat) (k:Kd) (hu:γ u=some (.obj b k)):Rep γ I (.pointer (some ⟨b,0,none⟩)) (.iter l u)
 |yld (l u b:Nat) (k:Kd) (hu:γ u=some (.obj b k)):Rep γ I (.func (.yield b) #[] #[]) (.yld l u)
 |fn (f:Fn) (xs ys:Array Value) (asg bs:List V) (hx:xs.size=asg.length) (hy:ys.size=bs.length)
  (hrx:∀(j:Nat) (x:Value) (v:V),xs[j]? = some x->asg[j]? = some v->Rep γ I x v) (hry:∀(j:Nat) (x:Value) (v:V),ys[j]? = some x->bs[j]? = some v->Rep γ I x v) :
  Rep γ I (.func f xs ys) (.fn f asg bs)
 |iface (t:TypeId) (x:Value) (v:V) (hr:Rep γ I x v):Rep γ I (.iface t x) (.iface t v)
def RepP.mono {I z:IMap}(B:∀b o x,I b o=some x->z b o=some x) {x:Value}{v:V}(h:RepP I x v):RepP z x v:=by
 induction h with
 |bool b=>exact .bool b
 |int k n=>exact .int k n
 |str s=>exact .str s
 |nilptr=>exact .nilptr
 |nilmap=>exact .nilmap
 |nilfn=>exact .nilfn
 |nilif=>exact .nilif
 |slnil=>exact .slnil
 |sl a n p cs c H N K u i q d=>exact .sl a n p cs c H N K (λj y=>B _ _ _ (u j y)) i d
 |agg c cs g i q d=>exact .agg c cs g i d
 |eptr b e off cs c u i q d=>exact .eptr b e off cs c (λj y=>B _ _ _ (u j y)) i d
 |fn f c L m D J F M G l r=>exact .fn f c L m D J F l r
 |iface t x v q d=>exact .iface t x v d
def Rep.mono {γ γ':Nat->Option Place}{I J:IMap}(d:∀u p,γ u=some p->γ' u=some p) (z:∀b o x,I b o=some x->J b o=some x) {x:Value}{v:V}(h:Rep γ I x v):Rep γ' J x v:=by
 induction h with
 |pure x v h=>exact .pure x v (h.mono z)
 |undef x=>exact .undef x
 |tup i L c q m=>exact .tup i L c m
 |agg i cs c B q m=>exact .agg i cs c B m
 |tsl u b n g y cs i e c H F O B q=>exact .tsl u b n g y cs i (d _ _ e) c H F (λj G=>z _ _ _ (O j G)) B (λj v G=>(q j v G).mono z)
 |ptr l u off b k e=>exact .ptr l u off b k (d _ _ e)
 |osl l u off n y g b k a e S H F=>exact .osl l u off n y g b k a (d _ _ e) S H F
 |map l u b k e=>exact .map l u b k (d _ _ e)
 |iter l u b k e=>exact .iter l u b k (d _ _ e)
 |yld l u b k e=>exact .yld l u b k (d _ _ e)
 |fn f i Q s K P M T N r D=>exact .fn f i Q s K P M r D
 |iface t x v q m=>exact .iface t x v m
def Rep.oneCell {γ:Nat->Option Place}{I:IMap}{x:Value}{v:V}(h:Rep γ I x v) (b:v.leaf=true):x.oneCell'=true:=by
 cases h with
 |pure x v h=>cases h<;>first|rfl|(simp[V.leaf]at b)
 |undef x=>simp[V.leaf]at b
 |tup=>simp[V.leaf]at b
 |agg=>simp[V.leaf]at b
 |_=>rfl
inductive Owner where
 |ob (l:Nat)
 |tk (u:Nat)
def EntsOk (γ:Nat->Option Place) (I:IMap) (m:List MapEntry) (es:List (V×V)):Prop :=
 m.length=es.length/\∀(j:Nat) (e:MapEntry) (k v:V),m[j]? = some e->es[j]? = some (k,v)->RepP I e.key k/\Rep γ I e.val v
def jbj:Ex->Code
 | .nrm=>.skip
 | .exit id=>.exit id
 | .ret=>.ret
def lsOf:LS->LoopState
 | .ready=>.ready
 | .busy=>.busy
 | .done=>.done
def ObjOk (γ:Nat->Option Place) (I:IMap) (ob:ZO) (h:Array Obj) (k:Kd) (o:Option Obj):OBody->Prop
 | .cells cs=>∃arr e,o=some (.cells arr e (0,0))/\arr.size=k.size/\cs.length<=k.size/\∀(j:Nat) (x:Value) (v:V),arr[j]? = some x->cs[j]? = some v->v.leaf=true/\Rep γ I x v
 | .mp ver es=>∃(m:Array MapEntry) (clock:Nat),o=some (.map m clock)/\EntsOk γ I m.toList es/\(m.toList.map (·.born)).Nodup/\(∀e∈m,e.born<clock) /\
  (ver<jpp->clock=m.size/\∀(i:Nat) (e:MapEntry),m[i]? = some e->e.born=i)
 | .siter s pos=>∃s',o=some (.stringIter s' pos)/\s'.data.toList=s
 | .miter l u ver left last=>∃(mb:Nat) (mk:Kd) (since:Nat) (seen:Array Nat) (stepped:Nat),o=some (.mapIter (some mb) since seen stepped)/\γ u=some (.obj mb mk) /\
  ∀ver' es,ob l=some ⟨u,.mp ver' es⟩->ver<=ver'/\(ver'=ver->∃(m:Array MapEntry),h[mb]? = some (.map m stepped)/\(∀e∈m,e.born<since)/\since<=stepped /\
   EntsOk γ I (m.toList.filter λe=>!seen.contains e.born) left /\
   (∀k v,last=some (k,v)->∃stamp e,seen.back? = some stamp/\m.find? (λe=>e.born==stamp)=some e/\RepP I e.key k/\Rep γ I e.val v))
 | .nomap=>∃since seen stepped,o=some (.mapIter none since seen stepped)
 | .loop s pend=>∃r:Loop,k=.lp r/\o=some (.loop { r with state:=lsOf s,pending:=pend.map jbj })
 | .dfr=>o=some (.deferred (some []))
def TokOk (o:Option Obj) (n cap sz:Nat):Prop:=∃arr e,o=some (.cells arr e (0,0))/\cap*sz<=arr.size/\n<=cap/\cap<=maxLen
def EntsOk.mono {γ γ':Nat->Option Place}{I i:IMap}(c:∀u p,γ u=some p->γ' u=some p) (d:∀b o x,I b o=some x->i b o=some x) {m:List MapEntry}{es:List (V×V)}(h:EntsOk γ I m es):EntsOk γ' i m es :=
 ⟨h.1,λj e k v g f=>⟨(h.2 j e k v g f).1.mono d,(h.2 j e k v g f).2.mono c d⟩⟩
def ObjOk.mono {γ γ':Nat->Option Place}{I J:IMap}(d:∀u p,γ u=some p->γ' u=some p) (z:∀b o x,I b o=some x->J b o=some x) {ob:ZO}{hp:Array Obj}{k:Kd}{o:Option Obj}{b:OBody}
 (h:ObjOk γ I ob hp k o b):ObjOk γ' J ob hp k o b:=by
 cases b with
 |cells cs=>obtain⟨arr,e,y,r,q,B⟩:=h;exact⟨arr,e,y,r,q,λj x v K D=>⟨(B j x v K D).1,(B j x v K D).2.mono d z⟩⟩
 |mp G F=>obtain⟨m,c,y,r,q,B⟩:=h;exact⟨m,c,y,r.mono d z,q,B⟩
 |siter s Z=>exact h
 |miter l u G left H=>obtain⟨P,mk,i,t,f,y,r,q⟩:=h;refine⟨P,mk,i,t,f,y,d _ _ r,λg F M=>⟨(q g F M).1,λD=>?_⟩⟩;obtain⟨m,N,k2,O,k4,S⟩:=(q g F M).2 D;refine⟨m,N,k2,O,k4.mono d z,λk v X=>?_⟩;obtain⟨n,e,Q,q2,T,U⟩:=S k v X;exact⟨n,e,Q,q2,T.mono z,U.mono d z⟩
 |nomap=>exact h
 |loop s L=>exact h
 |dfr=>exact h
def YO (γ:Nat->Option Place) (ob ob':ZO) (hp hp':Array Obj):Prop :=
 ∀l u ver' es' mb mk,γ u=some (.obj mb mk)->ob' l=some ⟨u,.mp ver' es'⟩ ->
  (ob l=some ⟨u,.mp ver' es'⟩/\∀m c,hp[mb]? = some (.map m c)->hp'[mb]? = some (.map m c))\/(∃v0 es0,ob l=some ⟨u,.mp v0 es0⟩/\v0<ver')
def ObjOk.keep {γ:Nat->Option Place}{I:IMap}{ob ob':ZO}{hp g:Array Obj}{k:Kd}{o:Option Obj}{b:OBody}(h:ObjOk γ I ob hp k o b) (v:YO γ ob ob' hp g):ObjOk γ I ob' g k o b:=by
 cases b with
 |miter l u F left n=>obtain⟨q,mk,d,f,c,y,p,j⟩:=h;refine⟨q,mk,d,f,c,y,p,λe D H=>?_⟩;rcases v l u e D q mk p H with⟨i,r⟩|⟨K,B,i,r⟩;refine⟨(j _ _ i).1,λs=>?_⟩;obtain⟨m,t,G,x,J,z⟩:=(j _ _ i).2 s;exact⟨m,r _ _ t,G,x,J,z⟩;have:=(j _ _ i).1;exact⟨zO,λs=>by omega⟩
 |_=>exact h
structure Own (γ:Nat->Option Place) (I:IMap) (B:Nat) (st:St) (w:World) (Ω:Nat->Option Owner):Prop where
 ob:∀l o,st.ob l=some o->∃b k,γ o.uid=some (.obj b k)/\Ω b=some (.ob l)/\(st.ro<=o.uid->B<=b)/\ObjOk γ I st.ob w.heap k w.heap[b]? o.body/\∀j,I b j=none
 tk:∀u,st.tk u=true->∃b n cap sz,γ u=some (.tok b n cap sz)/\Ω b=some (.tk u)/\B<=b/\TokOk w.heap[b]? n cap sz/\∀j,n*sz<=j->I b j=none
 lt:∀b o,Ω b=some o->b<w.heap.size
structure Sh (E:Env) (w0:World) (I0:IMap) (γ:Nat->Option Place) (I:IMap) (st:St) (w:World):Prop where
 imm:∀b o x,I b o=some x->w.cell? ⟨b,o,none⟩=some x
 gl:∀g cs,E.gl g=some cs->RepP I (.pointer (some ⟨g,0,none⟩)) (.eptr cs 0)
 own:∃Ω,Own γ I w0.heap.size st w Ω
 fr:w0.grownBy w none
 old:∀b o,b<w0.heap.size->I b o=I0 b o
def DfOk (γ:Nat->Option Place):List (Nat×Nat)->List Deferred->Prop
 |[],[]=>True
 |x::l,d::ds=>(∃b k,d={ target:=.collected b,args:=#[] }/\γ x.2=some (.obj b k))/\DfOk γ l ds
 |_,_=>False
def DfOk.mono {γ γ':Nat->Option Place}(c:∀u p,γ u=some p->γ' u=some p):∀{l:List (Nat×Nat)}{d:List Deferred},DfOk γ l d->DfOk γ' l d
 |[],[],_=>trivial
 |_::_,_::_,h=>⟨(let ⟨b,k,h1,h2⟩:=h.1;⟨b,k,h1,c _ _ h2⟩),DfOk.mono c h.2⟩
 |[],_::_,h=>h.elim
 |_::_,[],h=>h.elim
structure R (E:Env) (w0:World) (I0:IMap) (nt:Nat) (γ:Nat->Option Place) (I:IMap) (st:St) (a:Act) (w:World):Prop where
 sz:a.tmps.size=nt
 df:DfOk γ st.df a.defers
 tm:∀t,Rep γ I (a.tmps.getD t undef) (st.tm t)
 sh:Sh E w0 I0 γ I st w
section
variable {E:Env}{w0 w:World}{I0 I:IMap}{nt:Nat}{γ:Nat->Option Place}{st:St}{a:Act}
def R.imm (h:R E w0 I0 nt γ I st a w):∀b o x,I b o=some x->w.cell? ⟨b,o,none⟩=some x:=h.sh.imm
def R.gl (h:R E w0 I0 nt γ I st a w):∀g cs,E.gl g=some cs->RepP I (.pointer (some ⟨g,0,none⟩)) (.eptr cs 0):=h.sh.gl
def R.own (h:R E w0 I0 nt γ I st a w):∃b,Own γ I w0.heap.size st w b:=h.sh.own
def R.fr (h:R E w0 I0 nt γ I st a w):w0.grownBy w none:=h.sh.fr
def R.old (h:R E w0 I0 nt γ I st a w):∀b o,b<w0.heap.size->I b o=I0 b o:=h.sh.old
end
structure Grow (B:Nat) (w w':World) (T:Nat->Prop):Prop where
 os:w'.os=w.os
 tape:w'.tape=w.tape
 output:w'.output=w.output
 size:w.heap.size<=w'.heap.size
 block:∀k,k<w.heap.size->¬T k->w'.heap[k]? = w.heap[k]?
 low:∀k,T k->B<=k
def Grow.frame {w0 w w':World}{T:Nat->Prop}(h:w0.grownBy w none) (g:Grow w0.heap.size w w' T):w0.grownBy w' none :=
 ⟨g.os.trans h.os,g.tape.trans h.tape,g.output.trans h.output,bL h.size g.size,λk b d=>
  (g.block k (aW b h.size) (λc=>Nat.not_lt_of_le (g.low k c) b)).trans (h.block k b d)⟩
def JA {k g:Type}{f:k->Option g}:∀{l:List k}{r:List g},l.mapM f=some r->r.length=l.length/\∀(j:Nat) (x:k) (y:g),l[j]? = some x->r[j]? = some y->f x=some y
 |[],r,h=>by simp at h;subst h;exact⟨rfl,λj x y c _=>by simp at c⟩
 |a::l,r,h=>by
  simp only[bP]at h;cases d:f a with
  |none=>simp[d]at h
  |some b=>
   cases i:l.mapM f with
   |none=>simp[d,i]at h
   |some o=>
    simp[d,i]at h;subst h;obtain⟨n,m⟩:=JA i;refine⟨by simp[n],λj x y c e=>?_⟩;cases j with
    |zero=>simp at c e;subst c;subst e;exact d
    |succ j=>simp at c e;exact m j x y c e
def jD {E:Env}{w0 w:World}{I0:IMap}{nt:Nat}{γ:Nat->Option Place}{I:IMap}{st:St}{a:Act}(h:R E w0 I0 nt γ I st a w) {x:Operand}{y:A}(b:opd x=some y):Rep γ I (a.eval x) (ye E st.tm y):=by
 have leafOk:∀v z,jco v=some z->RepP I v z/\z.leaf=true:=by intro v z c;unfold jco at c;split at c<;>simp only[ae,reduceCtorEq]at c<;>subst c;exact⟨.bool _,rfl⟩;exact⟨.int _ _,rfl⟩;exact⟨.str _,rfl⟩;exact⟨.nilptr,rfl⟩;exact⟨.slnil,rfl⟩;exact⟨.nilmap,rfl⟩;exact⟨.nilfn,rfl⟩;exact⟨.nilif,rfl⟩
 cases x with
 |tmp t=>simp only[opd,ae]at b;subst b;exact h.tm t
 |const v=>
  simp only[opd,bn]at b;obtain⟨z,c,rfl⟩:=b;simp only[Act.eval,ye];unfold Wd at c;split at c;rename_i cs;simp only[bn]at c;obtain⟨l,o,rfl⟩:=c;obtain⟨e,n⟩:=JA o;have d:∀(j:Nat) (z:V),l[j]? = some z->∃x,cs[j]? = some x/\jco x=some z:=by
   intro j z c;have q:j<cs.toList.length:=by rw[<- e];exact(aj.1 c).1
   have b:cs.toList[j]? = some cs.toList[j]:=aa q;exact⟨_,by rw[<- br];exact b,n j _ _ b c⟩
  refine .pure _ _ (.agg cs l e.symm (λj v k=>?_) (λj x v b k=>?_));obtain⟨x,_,i⟩:=d j v k;exact(leafOk _ _ i).2;obtain⟨r,m,i⟩:=d j v k;rw[b]at m;cases m;exact(leafOk _ _ i).1;exact .pure _ _ (leafOk _ _ c).1
 |global g=>
  simp only[opd,ae]at b;subst b;simp only[Act.eval,ye];cases p:E.gl g with
  |none=>exact .undef _
  |some cs=>exact .pure _ _ (h.gl g cs p)
 |func f=>simp only[opd,ae]at b;subst b;exact .pure _ _ (.fn _ _ _ _ _ rfl rfl zS zS)
section
variable {P:Program}{E:Env}{w0 w:World}{I0:IMap}{nt:Nat}{γ:Nat->Option Place}{I:IMap}{st:St}{a:Act}{o:Oper}{ub:Nat}{δ:Delta}
def XY (P:Program) (E:Env) (w0:World) (I0:IMap) (nt:Nat) (γ:Nat->Option Place) (I:IMap) (st:St) (a:Act) (w:World) (o:Oper) (ub:Nat) (δ:Delta):Prop :=
 ∃x w' γ' I',((execOp a.eval o).run P w=.ok (.value x) w'\/((execOp a.eval o).run P w=.ok .skip w'/\x=undef)) /\
  R E w0 I0 nt γ' I' (st.app o.dst δ) (a.put o.dst x) w'/\(∀u,¬(ub<=u/\u<ub+64)->γ' u=γ u)/\(∀u p,γ u=some p->γ' u=some p)/\(∀b o x,I b o=some x->I' b o=some x)
def j2u (a:Act) (dst:Option Tmp) (x:Value) (c:∀d,dst=some d->d<a.tmps.size) (t:Nat) :
 (a.put dst x).tmps.getD t undef=if dst=some t then x else a.tmps.getD t undef:=by
 cases dst with
 |none=>simp[Act.put]
 |some d=>have b:=c d rfl;by_cases h:d=t;subst h;simp[Act.put,b];simp only[Act.put,ae,h,zc];simp[dS h]
def WO (a:Act) (dst:Option Tmp) (x:Value):(a.put dst x).tmps.size=a.tmps.size:=by cases dst<;>simp[Act.put]
def jo6 (a:Act) (dst:Option Tmp) (x:Value):(a.put dst x).defers=a.defers:=by cases dst<;>rfl
def Qq {γ':Nat->Option Place}{c:IMap}{tm:Nat->V}{dst:Option Tmp}{x:Value}{v:V}(f:∀d,dst=some d->d<a.tmps.size)
 (h:∀t,Rep γ' c (a.tmps.getD t undef) (tm t)) (g:Rep γ' c x v):∀t,Rep γ' c ((a.put dst x).tmps.getD t undef) (put tm dst v t):=by
 intro t;rw[j2u a dst x f t];cases dst with
 |none=>simpa[put] using h t
 |some d=>by_cases b:d=t;subst b;simpa[put] using g;simp only[ae,b,zc,put];rw[JQ _ _ (λe=>b e.symm)];exact h t
def jep (h:R E w0 I0 nt γ I st a w) {γ':Nat->Option Place}(b:∀u p,γ u=some p->γ' u=some p) (dst:Option Tmp) (x:Value):DfOk γ' st.df (a.put dst x).defers:=by rw[jo6];exact h.df.mono b
def R.put (h:R E w0 I0 nt γ I st a w) {dst:Option Tmp}{x:Value}{v:V}(b:∀d,dst=some d->d<nt) (c:Rep γ I x v) :
 R E w0 I0 nt γ I { st with tm:=put st.tm dst v } (a.put dst x) w :=
 ⟨(WO a dst x).trans h.sz,jep h (fun _ _ h=>h) dst x,Qq (by rw [h.sz];exact b ) h.tm c ,⟨h.imm,h.gl,
   (let ⟨Ω,ho⟩:=h.own;⟨Ω,⟨ho.ob,ho.tk,ho.lt⟩⟩),h.fr,h.old⟩⟩
def jc (f:R E w0 I0 nt γ I st a w) (e:∀d,o.dst=some d->d<nt) {x:Value}{v:V}(b:(execOp a.eval o).run P w=.ok (.value x) w)
 (g:Rep γ I x v) (c:one v=some δ):XY P E w0 I0 nt γ I st a w o ub δ:=by
 simp only[one,ae]at c;subst c;exact⟨x,w,γ,I,.inl b,f.put e g,λ_ _=>rfl,λ_ _ h=>h,λ_ _ _ h=>h⟩
def Q7 {c:Type}{f:Nat->Option c}{k:Nat}{v:c}(h:f k=none):∀u p,f u=some p->upd f k (some v) u=some p:=by intro u p b;rw[JQ f _ (λe=>by rw[e,h]at b;cases b)];exact b
def jjh {ob:ZO}{obj:Obj}{d:Nat}{body:OBody}(h:γ ub=none):YO γ ob (upd ob d (some ⟨ub,body⟩)) w.heap (w.alloc obj).heap:=by intro l u e i j mk g b;rw[yg]at b;split at b;simp only[ae,Obj'.mk.injEq]at b;rw[<- b.1,h]at g;cases g;refine .inl ⟨b,λm c f=>?_⟩;rw[heap_alloc_old _ _ _ (aO.1 f).1];exact f
def j1a (i:R E w0 I0 nt γ I st a w) (X:∀d,o.dst=some d->d<nt) (U:γ ub=none) {x:Value}{v:V}{obj:Obj}{body:OBody}{d:Nat}{k:Kd}{w':World}(hw:w'=w.alloc obj)
 (hx:∀g:Nat->Option Place,g ub=some (.obj w.heap.size k)->Rep g I x v) (Z:ObjOk γ I st.ob w.heap k (some obj) body) (B:Jo d ub body v=some δ) :
 ∃g S,R E w0 I0 nt g S (st.app o.dst δ) (a.put o.dst x) w'/\(∀u,¬(ub<=u/\u<ub+64)->g u=γ u)/\(∀u p,γ u=some p->g u=some p)/\(∀b o x,I b o=some x->S b o=some x):=by
 simp only[Jo,ae]at B;subst B;subst hw;have r:=Q7 (f:=γ) (k:=ub) (v:=Place.obj w.heap.size k) U;obtain⟨Ω,D⟩:=i.own;have H:(st.app o.dst { v:=v,obs:=[(d,⟨ub,body⟩)] }).ob=upd st.ob d (some ⟨ub,body⟩):=by simp[St.app,Ji]
 have q:=jjh (w:=w) (ob:=st.ob) (obj:=obj) (d:=d) (body:=body) U;refine⟨upd γ ub (some (.obj w.heap.size k)),I,⟨(WO _ _ _).trans i.sz,jep i r _ _,?_,⟨?_,i.gl,?_,?_,i.old⟩⟩,?_,r,λ_ _ _ h=>h⟩;exact Qq (by rw[i.sz];exact X) (λt=>(i.tm t).mono r (λ_ _ _ h=>h)) (hx _ zS);intro b o' x' c;rw[World.cell?_alloc_lt];exact i.imm _ _ _ c;exact bT _ _ (i.imm _ _ _ c);have hI:∀j,I w.heap.size j=none:=by
  intro j;cases hj:I w.heap.size j with
  |none=>rfl
  |some y=>exact zf (bT _ _ (i.imm _ _ _ hj)) (ey _)
 refine⟨upd Ω w.heap.size (some (.ob d)),⟨?_,?_,?_⟩⟩;intro l ob s;rw[H]at s ⊢;rw[yg]at s;split at s;rename_i F;subst F;simp only[ae]at s;subst s;refine⟨w.heap.size,k,zS,zS,λ_=>i.fr.size,?_,hI⟩;rw[heap_alloc_new];exact(Z.keep q).mono r (λ_ _ _ h=>h);rename_i F;obtain⟨b,k',K,z,Q,J,M⟩:=D.ob l ob s;have m:=D.lt b _ z;refine⟨b,k',r _ _ K,?_,Q,?_,M⟩;rw[JQ _ _ (eJ m)];exact z;rw[heap_alloc_old _ _ _ m];exact(J.keep q).mono r (λ_ _ _ h=>h);intro u O;have N:st.tk u=true:=by simpa[St.app,Xs] using O
 obtain⟨b,n,L,sz,K,z,Q,J,M⟩:=D.tk u N;have m:=D.lt b _ z;refine⟨b,n,L,sz,r _ _ K,?_,Q,?_,M⟩;rw[JQ _ _ (eJ m)];exact z;rw[heap_alloc_old _ _ _ m];exact J;intro b ow c;rw[yg]at c;simp only[World.size_alloc];split at c;rename_i e;omega;have:=D.lt b _ c;omega;exact Grow.frame i.fr ⟨rfl,rfl,rfl,zS,λk G _=>heap_alloc_old _ _ _ G,λk G=>G.elim⟩ (T:=λ_=>False);intro u O;exact JQ _ _ (λe=>O ⟨zO,zO⟩)
def WU (m:R E w0 I0 nt γ I st a w) (f:∀d,o.dst=some d->d<nt) (i:γ ub=none) {x:Value}{v:V}{obj:Obj}{body:OBody}{d:Nat}{k:Kd}{w':World}
 (c:(execOp a.eval o).run P w=.ok (.value x) w') (g:w'=w.alloc obj)
 (l:∀b:Nat->Option Place,b ub=some (.obj w.heap.size k)->Rep b I x v) (j:ObjOk γ I st.ob w.heap k (some obj) body) (e:Jo d ub body v=some δ):XY P E w0 I0 nt γ I st a w o ub δ:=by
 obtain⟨b,n,h⟩:=j1a m f i g l j e;exact⟨x,w',b,n,.inl c,h⟩
def Wm (q:R E w0 I0 nt γ I st a w) (hd:∀d,o.dst=some d->d<nt) {l u:Nat}{body body':OBody}(hl:st.ob l=some ⟨u,body⟩) (J:Nat.ble st.ro u=true) {x:Value}{v:V}{w':World}
 (B:(execOp a.eval o).run P w=.ok (.value x) w'\/((execOp a.eval o).run P w=.ok .skip w'/\x=undef)) (hx:Rep γ I x v) (F:∀v es,body'=.mp v es->∃G r,body=.mp G r/\G<v)
 (hw:∀b k,γ u=some (.obj b k)->b<w.heap.size->(w'.os=w.os/\w'.tape=w.tape/\w'.output=w.output/\w'.heap.size=w.heap.size/\(∀k,k≠b->w'.heap[k]? = w.heap[k]?)/\ObjOk γ I st.ob w.heap k w'.heap[b]? body'))
 (z:some { v:=v,obs:=[(l,⟨u,body'⟩)] }=some δ):XY P E w0 I0 nt γ I st a w o ub δ:=by
 simp only[ae]at z;subst z;obtain⟨Ω,t⟩:=q.own;obtain⟨b,k,h1,y,h3,_,h5⟩:=t.ob l _ hl;obtain⟨g1,g2,g3,g4,D,g6⟩:=hw b k h1 (t.lt b _ y);have M:(st.app o.dst { v:=v,obs:=[(l,⟨u,body'⟩)] }).ob=upd st.ob l (some ⟨u,body'⟩):=by simp[St.app,Ji]
 have j:YO γ st.ob (upd st.ob l (some ⟨u,body'⟩)) w.heap w'.heap:=by
  intro Z S a0 b0 mb mk X f;rw[yg]at f;split at f;rename_i e;subst e;simp only[ae,Obj'.mk.injEq]at f;obtain⟨rfl,he⟩:=f;obtain⟨G,r,rfl,hv⟩:=F _ _ he;exact .inr ⟨G,r,hl,hv⟩;rename_i g;refine .inl ⟨f,λm c hm=>?_⟩;obtain⟨i,k',q1,q2,_⟩:=t.ob Z _ f;rw[X]at q1;cases q1;have:mb≠b:=λe=>by subst e;rw[y]at q2;cases q2;exact g rfl
  rw[D mb this];exact hm
 refine⟨x,w',γ,I,B,⟨(WO _ _ _).trans q.sz,jep q (λ_ _ h=>h) _ _,?_,⟨?_,q.gl,⟨Ω,⟨?_,?_,?_⟩⟩,?_,q.old⟩⟩,λ_ _=>rfl,λ_ _ h=>h,λ_ _ _ h=>h⟩;exact Qq (by rw[q.sz];exact hd) q.tm hx;intro i o' x' p;have g:i≠b:=λe=>by rw[e,h5]at p;cases p
 have:=q.imm _ _ _ p;rw[ew (w:=w) (w':=w') (a:=⟨i,o',none⟩) (D i g)];exact this;intro Z ob f;rw[M]at f ⊢;rw[yg]at f;split at f;rename_i e;subst e;simp only[ae]at f;subst f;exact⟨b,k,h1,y,h3,g6.keep j,h5⟩;rename_i e;obtain⟨i,k',H,s,L,k4,Q⟩:=t.ob Z ob f;have g:i≠b:=λU=>by subst U;rw[y]at s;cases s;exact e rfl
 exact⟨i,k',H,s,L,by rw[D i g];exact k4.keep j,Q⟩;intro S X;have O:st.tk S=true:=by simpa[St.app,Xs] using X
 obtain⟨i,n,N,sz,H,s,L,k4,Q⟩:=t.tk S O;have g:i≠b:=λU=>by subst U;rw[y]at s;cases s
 exact⟨i,n,N,sz,H,s,L,by rw[D i g];exact k4,Q⟩;intro i ow p;rw[g4];exact t.lt i ow p;exact Grow.frame q.fr (T:=λk=>k=b) ⟨g1,g2,g3,fh g4.symm,λk _ K=>D k K,λk K=>K▸h3 (by simpa[bY] using J)⟩
end
section
variable {P:Program}{E:Env}{w0 w:World}{I0:IMap}{nt:Nat}{γ:Nat->Option Place}{I:IMap}{st:St}{a:Act}{o:Oper}{ub:Nat}{δ:Delta}
def jbq (tk:Nat->Bool) (b:Bool) (l:List Nat) (u:Nat):Xs tk b l u=if u∈l then b else tk u:=by
 induction l with
 |nil=>simp[Xs]
 |cons x l c=>simp only[Xs,yg,c,bt];by_cases h:u=x<;>simp[h]
def jwq (M:R E w0 I0 nt γ I st a w) (hd:∀d,o.dst=some d->d<nt) (hf:γ ub=none) {b n cap sz:Nat}{cs:List V}{w':World}{del:Option Nat}{arr:Array Value}{e:TypeId}
 (b7:(execOp a.eval o).run P w=.ok (.value (.slice (some ⟨b,0,none⟩) n cap)) w')
 (hb:(b=w.heap.size/\w'.heap.size=w.heap.size+1)\/(∃u n0 b9 c8,st.tk u=true/\γ u=some (.tok b n0 b9 c8)/\del=some u/\w'.heap.size=w.heap.size))
 (U:w'.os=w.os/\w'.tape=w.tape/\w'.output=w.output) (hk:∀k,k<w.heap.size->k≠b->w'.heap[k]? = w.heap[k]?)
 (J:w'.heap[b]? = some (.cells arr e (0,0))) (c3:cap*sz<=arr.size) (Z:n<=cap) (hm:cap<=maxLen)
 (H:∀j x,I b j=some x->j<n*sz/\arr[j]? = some x) (b5:cs.length=n*sz)
 (s:∀(j:Nat) (v:V),cs[j]? = some v->v.pureLeaf=true/\∃x,arr[j]? = some x/\RepP I x v)
 (b6:some { v:=V.sl (some (ub,sz)) false n cs,del:=del,add:=[ub] }=some δ):XY P E w0 I0 nt γ I st a w o ub δ:=by
 simp only[ae]at b6
 subst b6
 obtain⟨Ω,K⟩:=M.own
 have q:=Q7 (f:=γ) (k:=ub) (v:=Place.tok b n cap sz) hf
 let B:IMap:=λi j=>if i=b/\j<n*sz then arr[j]? else I i j
 have hI:∀i j x,I i j=some x->B i j=some x:=by
  intro i j x L
  by_cases h:i=b
  ·subst h
   obtain⟨h1,h2⟩:=H j x L
   simp only[B,h1,and_self,zd,h2]
  ·simp only[B,h,false_and,zc,L]
 have d1:n*sz<=cap*sz:=bf _ Z
 have hB:w0.heap.size<=b:=by
  rcases hb with⟨h,_⟩|⟨u,n0,c0,s0,D,hg,_,_⟩
  ·rw[h];exact M.fr.size
  ·obtain⟨i,n',c',s',N,F,X,k4,k5⟩:=K.tk u D
   rw[hg]at N
   cases N
   exact X
 have c9:w.heap.size<=w'.heap.size:=by rcases hb with⟨_,h⟩|⟨_,_,_,_,_,_,_,h⟩<;>omega
 have c6:b<w'.heap.size:=(aO.1 J).1
 -- who owns what is not b
 have y:∀i ow,Ω i=some ow->(∀u,ow=.tk u->del≠some u)->i≠b:=by
  intro i ow h1 h2 e
  subst e
  rcases hb with⟨h,_⟩|⟨u,n0,c0,s0,D,hg,z,_⟩
  ·have:=K.lt _ _ h1;omega
  ·obtain⟨d2,n',c',s',N,F,X,k4,k5⟩:=K.tk u D
   rw[hg]at N
   cases N
   rw[h1]at F
   cases F
   exact h2 u rfl z
 refine⟨.slice (some ⟨b,0,none⟩) n cap,w',upd γ ub (some (.tok b n cap sz)),B,.inl b7,⟨(WO _ _ _).trans M.sz,jep M q _ _,?_,⟨?_,?_,⟨upd Ω b (some (.tk ub)),⟨?_,?_,?_⟩⟩,?_,λi j r=>?_⟩⟩,?_,q,hI⟩
 ·refine Qq (by rw[M.sz];exact hd) (λt=>(M.tm t).mono q hI) ?_
  refine .tsl ub b n cap sz cs (λj=>(arr[j]?).getD undef) zS b5 Z hm (λj hj=>?_) (λj v hv=>(s j v hv).1) (λj v hv=>?_)
  ·have O:j<n*sz:=zO
   have:j<arr.size:=zO
   simp[B,O,this]
  ·obtain⟨_,x,L,hr⟩:=s j v hv
   simp only[L,cy]
   exact hr.mono hI
 ·intro i j x L
  by_cases h:i=b/\j<n*sz
  ·simp only[B,h,and_self,zd]at L
   obtain⟨rfl,_⟩:=h
   simp[World.cell?,J,L]
  ·simp only[B,h,zc]at L
   by_cases r:i=b
   ·subst r
    obtain⟨h1,_⟩:=H j x L
    exact zf ⟨rfl,h1⟩ h
   ·have Z:=M.imm _ _ _ L
    rw[ew (w:=w) (w':=w') (a:=⟨i,j,none⟩) (hk i (bT _ _ Z) r)]
    exact Z
 ·exact λg c4 hg=>(M.gl g c4 hg).mono hI
 ·intro l ob hl
  have a0:(st.app o.dst { v:=V.sl (some (ub,sz)) false n cs,del:=del,add:=[ub] }).ob=st.ob:=by simp[St.app,Ji]
  rw[a0]at hl ⊢
  obtain⟨i,k',N,F,X,k4,k5⟩:=K.ob l ob hl
  have p:=y i _ F (λu h=>by cases h)
  have G:=K.lt _ _ F
  have S:YO γ st.ob st.ob w.heap w'.heap:=by
   intro l2 u2 d0 d4 mb mk c1 b0
   refine .inl ⟨b0,λm c c7=>?_⟩
   obtain⟨b2,d3,q1,q2,_⟩:=K.ob l2 _ b0
   rw[c1]at q1
   cases q1
   rw[hk mb (K.lt _ _ q2) (y mb _ q2 (λu h=>by cases h))]
   exact c7
  refine⟨i,k',q _ _ N,?_,X,?_,λj=>?_⟩
  ·rw[JQ _ _ p];exact F
  ·rw[hk i G p];exact(k4.keep S).mono q hI
  ·simp only[B,p,false_and,zc,k5]
 ·intro u D
  simp only[St.app,jbq,ag]at D
  by_cases b8:u=ub
  ·subst b8
   refine⟨b,n,cap,sz,zS,zS,hB,⟨arr,e,J,c3,Z,hm⟩,λj hj=>?_⟩
   have O:¬j<n*sz:=zO
   simp only[B,O,and_false,zc]
   cases c2:I b j with
   |none=>rfl
   |some x=>exact zf (H j x c2).1 O
  ·simp only[b8,zc]at D
   split at D
   ·cases D
   ·rename_i z
    obtain⟨i,n',c',s',N,F,X,k4,k5⟩:=K.tk u D
    have p:=y i _ F (λu' h c5=>by cases h;simp[c5]at z)
    have G:=K.lt _ _ F
    refine⟨i,n',c',s',q _ _ N,?_,X,?_,λj hj=>?_⟩
    ·rw[JQ _ _ p];exact F
    ·rw[hk i G p];exact k4
    ·simp only[B,p,false_and,zc,k5 j hj]
 ·intro i ow r
  rw[yg]at r
  split at r
  ·rename_i h;subst h;exact c6
  ·have:=K.lt i _ r;omega
 ·refine Grow.frame M.fr (T:=λk=>k=b) ⟨U.1,U.2.1,U.2.2,c9,λk Q p=>hk k Q p,λk Q=>Q▸hB⟩
 ·have p:i≠b:=zO
  simp only[B,p,false_and,zc]
  exact M.old i j r
 ·intro u D
  exact JQ _ _ (λe=>D ⟨zO,zO⟩)
def jqx (F:R E w0 I0 nt γ I st a w) (s:∀d,o.dst=some d->d<nt) (t:γ ub=none) {b n cap sz:Nat}{cs:List V}{w':World}{del:Option Nat}{arr:Array Value}{e:TypeId}
 (f:(execOp a.eval o).run P w=.ok (.value (.slice (some ⟨b,0,none⟩) n cap)) w')
 (y:(b=w.heap.size/\w'.heap.size=w.heap.size+1)\/(∃u z h m,st.tk u=true/\γ u=some (.tok b z h m)/\del=some u/\w'.heap.size=w.heap.size))
 (p:w'.os=w.os/\w'.tape=w.tape/\w'.output=w.output) (D:∀k,k<w.heap.size->k≠b->w'.heap[k]? = w.heap[k]?)
 (l:w'.heap[b]? = some (.cells arr e (0,0))) (r:arr.size=cap*sz) (G:n<=cap) (B:cap<=maxLen)
 (i:∀j x,I b j=some x->j<n*sz/\arr[j]? = some x) (g:cs.length=n*sz)
 (c:∀(j:Nat) (v:V),cs[j]? = some v->v.pureLeaf=true/\∃x,arr[j]? = some x/\RepP I x v)
 (q:some { v:=V.sl (some (ub,sz)) false n cs,del:=del,add:=[ub] }=some δ):XY P E w0 I0 nt γ I st a w o ub δ :=
 jwq F s t f y p D l (fh r.symm) G B i g c q
end
section
variable {γ:Nat->Option Place}{I:IMap}{x:Value}
def Xd {b:Bool}(h:Rep γ I x (.bool b)):x=.bool b:=by cases h with|pure x v h=>cases h;rfl
def JE {k:IntKind}{n:Int}(h:Rep γ I x (.int k n)):x=.int k n:=by cases h with|pure x v h=>cases h;rfl
def XU {l:List UInt8}(h:Rep γ I x (.str l)):∃s:ByteArray,x=.string s/\s.data.toList=l:=by cases h with|pure x v h=>cases h;exact⟨_,rfl,rfl⟩
def YD (h:Rep γ I x .nilptr):x=.pointer none:=by cases h with|pure x v h=>cases h;rfl
def Xo (h:Rep γ I x .nilmap):x=.map none:=by cases h with|pure x v h=>cases h;rfl
def jcz (h:Rep γ I x .nilfn):x=.nilFunc:=by cases h with|pure x v h=>cases h;rfl
def Wt (h:Rep γ I x .nilif):x=.nilIface:=by cases h with|pure x v h=>cases h;rfl
def W5 {l u off:Nat}(h:Rep γ I x (.ptr l u off)):∃b k,γ u=some (.obj b k)/\x=.pointer (some ⟨b,off,none⟩):=by
 cases h with
 |pure x v h=>cases h
 |ptr _ _ _ b k a=>exact⟨b,k,a,rfl⟩
def QL {l u:Nat}(h:Rep γ I x (.map l u)):∃b k,γ u=some (.obj b k)/\x=.map (some b):=by
 cases h with
 |pure x v h=>cases h
 |map _ _ b k a=>exact⟨b,k,a,rfl⟩
def je7 {l u:Nat}(h:Rep γ I x (.iter l u)):∃b k,γ u=some (.obj b k)/\x=.pointer (some ⟨b,0,none⟩):=by
 cases h with
 |pure x v h=>cases h
 |iter _ _ b k a=>exact⟨b,k,a,rfl⟩
def jz4 {l u:Nat}(h:Rep γ I x (.yld l u)):∃b k,γ u=some (.obj b k)/\x=.func (.yield b) #[] #[]:=by
 cases h with
 |pure x v h=>cases h
 |yld _ _ b k a=>exact⟨b,k,a,rfl⟩
def YC {l u off n sz:Nat}(h:Rep γ I x (.osl l u off n sz)):∃b k a c,γ u=some (.obj b k)/\x=.slice (some a) n c/\(0<c->a=⟨b,off,none⟩/\off+c*sz<=k.size)/\n<=c/\c<=maxLen:=by
 cases h with
 |pure x v h=>cases h
 |osl _ _ _ _ _ c b k a d f g e=>exact⟨b,k,a,c,d,rfl,f,g,e⟩
def jav {cs:List V}{off:Nat}(h:Rep γ I x (.eptr cs off)):∃b a,x=.pointer (some ⟨b,a+off,none⟩) /\
 ∃c:Nat->Value,(∀j,j<cs.length->I b (a+j)=some (c j))/\(∀(j:Nat) (v:V),cs[j]? = some v->v.pureLeaf=true)/\∀(j:Nat) (v:V),cs[j]? = some v->RepP I (c j) v:=by
 cases h with
 |pure x v h=>cases h with|eptr b a off cs c f d e=>exact⟨b,a,rfl,c,f,d,e⟩
def j93 {vs:List V}(h:Rep γ I x (.tup vs)):∃a:Array Value,x=.tuple a/\a.size=vs.length/\∀(j:Nat) (y:Value) (v:V),a[j]? = some y->vs[j]? = some v->Rep γ I y v:=by
 cases h with
 |pure x v h=>cases h
 |tup a vs b c=>exact⟨a,rfl,b,c⟩
def Yd {cs:List V}(h:Rep γ I x (.agg cs)):∃b:Array Value,x=.agg b/\b.size=cs.length/\(∀(j:Nat) (v:V),cs[j]? = some v->v.leaf=true) /\
 ∀(j:Nat) (y:Value) (v:V),b[j]? = some y->cs[j]? = some v->Rep γ I y v:=by
 cases h with
 |pure x v h=>cases h with|agg b cs a c d=>exact⟨b,rfl,a,c,λj y v f e=>.pure _ _ (d j y v f e)⟩
 |agg b cs a c d=>exact⟨b,rfl,a,c,d⟩
def jeo {f:Fn}{asg bs:List V}(h:Rep γ I x (.fn f asg bs)):∃c d:Array Value,x=.func f c d/\c.size=asg.length/\d.size=bs.length /\
 (∀(j:Nat) (y:Value) (v:V),c[j]? = some y->asg[j]? = some v->Rep γ I y v)/\∀(j:Nat) (y:Value) (v:V),d[j]? = some y->bs[j]? = some v->Rep γ I y v:=by
 cases h with
 |pure x v h=>cases h with|fn f c d asg bs i e k g=>exact⟨c,d,rfl,i,e,λj y v a b=>.pure _ _ (k j y v a b),λj y v a b=>.pure _ _ (g j y v a b)⟩
 |fn f c d asg bs i e k g=>exact⟨c,d,rfl,i,e,k,g⟩
def jc0 {t:TypeId}{v:V}(h:Rep γ I x (.iface t v)):∃y,x=.iface t y/\Rep γ I y v:=by
 cases h with
 |pure x v h=>cases h with|iface t x v a=>exact⟨x,rfl,.pure _ _ a⟩
 |iface t x v a=>exact⟨x,rfl,a⟩
def YX {t:Option (Nat×Nat)}{nl:Bool}{n:Nat}{cs:List V}(h:Rep γ I x (.sl t nl n cs)) :
 (x=.slice none 0 0/\t=none/\nl=true/\n=0/\cs=[]) \/
 ∃(a:Addr) (cap:Nat) (xs:Nat->Value),x=.slice (some a) n cap/\nl=false/\(cs≠[]->a.spot=none)/\n<=cap/\cap<=maxLen /\
  (∀j,j<cs.length->I a.block (a.off+j)=some (xs j))/\(∀(j:Nat) (v:V),cs[j]? = some v->v.pureLeaf=true)/\(∀(j:Nat) (v:V),cs[j]? = some v->RepP I (xs j) v) /\
  (∀u d,t=some (u,d)->γ u=some (.tok a.block n cap d)/\a=⟨a.block,0,none⟩/\cs.length=n*d):=by
 cases h with
 |pure x v h=>
  cases h with
  |slnil=>exact .inl ⟨rfl,rfl,rfl,rfl,rfl⟩
  |sl a n cap cs xs p m l k f g=>exact .inr ⟨a,cap,xs,rfl,rfl,p,m,l,k,f,g,λu d i=>by cases i⟩
 |tsl u b n cap d cs xs i c m l k f g=>exact .inr ⟨⟨b,0,none⟩,cap,xs,rfl,rfl,λ_=>rfl,m,l,by simpa using k,f,g,λq o e=>by cases e;exact⟨i,rfl,c⟩⟩
def RepP.strip1 {v:V}(h:RepP I x v):RepP I x v.strip1:=by cases h<;>first|exact .slnil|(rename_i a b c d e f g;exact .sl _ _ _ _ _ d e f g ‹_› ‹_›)|(constructor<;>assumption)|(constructor)
end
section
variable {P:Program}{E:Env}{w0 w:World}{I0:IMap}{nt:Nat}{γ:Nat->Option Place}{I:IMap}{st:St}{a:Act}{o:Oper}{ub:Nat}{δ:Delta}
def yc {d c:Type}{x:Option d}{f:d->Option c}{b:c}(h:x.bind f=some b):∃y,x=some y/\f y=some b:=dU.1 h
def yh {d c:Type}{x:Option d}{f:d->c}{b:c}(h:x.map f=some b):∃y,x=some y/\f y=b:=bn.1 h
def jyc (b:R E w0 I0 nt γ I st a w) (c:∀d,o.dst=some d->d<nt) {x:Operand}{y:A}(e:o.op=.move x\/o.op=.assign x) (g:opd x=some y)
 (f:one (ye E st.tm y)=some δ):XY P E w0 I0 nt γ I st a w o ub δ :=
 jc b c (x:=a.eval x) (by rcases e with h|h<;>simp only[execOp,h]<;>rfl) (jD b g) f
def j8q (e:R E w0 I0 nt γ I st a w) (j:∀d,o.dst=some d->d<nt) {c x y:Operand}{g i h:A}(k:o.op=.pick c x y) (n:opd c=some g) (p:opd x=some i) (l:opd y=some h)
 (f:(match ye E st.tm g with|.bool t=>one (cond t (ye E st.tm i) (ye E st.tm h))|_=>none)=some δ):XY P E w0 I0 nt γ I st a w o ub δ:=by
 have b:=jD e n;split at f;rename_i t m;rw[m]at b;have:=Xd b;refine jc e j (x:=if t then a.eval x else a.eval y) ?_ ?_ f;simp only[execOp,k,this,asBool,aB,aG,ak];cases t;exact jD e l;exact jD e p;cases f
def jM (op:BinOp) (t:TypeId) (x y:Operand) (u v:Value) (c:¬(u=.nilIface/\v=.nilIface)) (b:∀p q,¬(u=.agg p/\v=.agg q)):(eqGuard op t x y u v).run P w=.ok () w:=by
 unfold eqGuard;cases u<;>cases v<;>first
  |(exact zf ⟨rfl,rfl⟩ c)
  |(exact zf ⟨rfl,rfl⟩ (b _ _))
  |(simp only[aG,ite_self])
def jt4 (op:BinOp) (k:IntKind) (x y:Int) {v:V}(h:Xb op k x y=some v) (t:TypeId) (b:op≠.shl/\op≠.shr) :
 ∃z,(binOp op t (.int k x) (.int k y)).run P w=.ok z w/\∀γ I,Rep γ I z v:=by
 cases op<;>simp only[Xb,ae,reduceCtorEq]at h<;>
  first
  |exact zf rfl b.1
  |exact zf rfl b.2
  |(subst h;exact⟨_,by simp only[binOp,Op.intArith,Op.intBits,Op.intCmp,ne_eq,not_true_eq_false,zc];rfl,λ_ _=>.pure _ _ (by constructor)⟩)
  | (split at h <;> simp only [ae               ,reduceCtorEq] at h;subst h;rename_i c
     exact⟨_,by simp only[binOp,Op.intDiv,ne_eq,not_true_eq_false,zc,c];rfl,λ_ _=>.pure _ _ (by constructor)⟩)
def jee (op:BinOp) (k c:IntKind) (x y:Int) {v:V}(h:jal op k x y=some v) (t:TypeId) :
 ∃z,(binOp op t (.int k x) (.int c y)).run P w=.ok z w/\∀γ I,Rep γ I z v:=by
 unfold jal at h;split at h;cases h
 ·rename_i b;cases op<;>simp only[ae,reduceCtorEq]at h;all_goals
   subst h
   exact⟨_,by simp only[binOp,Op.shift,b,zc];rfl,λ_ _=>.pure _ _ (.int _ _)⟩
def Yt (s:ByteArray):s.toList=s.data.toList:=by
 have b:∀(n i:Nat) (r:List UInt8),s.size-i=n->ByteArray.toList.loop s i r=r.reverse++s.data.toList.drop i:=by
  intro n;induction n with
  |zero=>
   intro i r h;unfold ByteArray.toList.loop;have:¬i<s.size:=zO;have c:s.data.toList.length<=i:=by simp only[aL];exact Nat.le_of_not_lt this
   simp[this,List.drop_eq_nil_of_le c]
  |succ n e=>
   intro i r h;unfold ByteArray.toList.loop;have d:i<s.size:=zO;simp only[d,zd];rw[e (i+1) _ zO];have c:i<s.data.toList.length:=by simpa using d
   rw[aR c];have:s.get! i=s.data.toList[i]:=by simp[ByteArray.get!,d]
   simp[this]
 unfold ByteArray.toList;rw[b s.size 0 [] zO];simp
def jt3 (op:BinOp) (x y:ByteArray) {v:V}(h:jl0 op x.data.toList y.data.toList=some v) (t:TypeId) :
 ∃z,(binOp op t (.string x) (.string y)).run P w=.ok z w/\∀γ I,Rep γ I z v:=by
 cases op<;>simp only[jl0,ae,reduceCtorEq]at h;case add=>
  split at h;rename_i b;simp only[ae]at h;subst h;have c:¬(((x.size+y.size:Nat):Int) > IntKind.i64.max):=by
   simp only[aL]at b;have:x.size+y.size<=9223372036854775807:=b;have d:IntKind.i64.max=9223372036854775807:=by decide
   rw[d];omega
  refine⟨.string (x++y),by simp only[binOp,Op.stringOp,c,zc];rfl,λ_ _=>.pure _ _ ?_⟩;have:x.data.toList++y.data.toList=(x++y).data.toList:=zS;rw[this];exact .str _;cases h
 all_goals
  subst h
  exact⟨_,by simp only[binOp,Op.stringOp,Yt];rfl,λ_ _=>.pure _ _ (.bool _)⟩
end
section
variable {P:Program}{E:Env}{w0 w:World}{I0:IMap}{nt:Nat}{γ:Nat->Option Place}{I:IMap}{st:St}{a:Act}{o:Oper}{ub:Nat}{δ:Delta}
def j2o {x y:Value}{g f v:V}(op:BinOp) (t:TypeId) (i:Rep γ I x g) (e:Rep γ I y f) (h:YN op g f=some v) :
 (∃z,(binOp op t x y).run P w=.ok z w/\∀γ I,Rep γ I z v)/\¬(x=.nilIface/\y=.nilIface)/\(∀p q,¬(x=.agg p/\y=.agg q)):=by
 unfold YN at h;split at h;rename_i k a j b;have d:=JE i;have c:=JE e;subst d;subst c;refine⟨?_,zS,zS⟩;split at h;exact jee .shl k j a b h t;exact jee .shr k j a b h t;rename_i d c;split at h;rename_i m;subst m;exact jt4 op k a b h t ⟨d,c⟩;cases h;rename_i a b;obtain⟨s,rfl,rfl⟩:=XU i;obtain⟨l,rfl,rfl⟩:=XU e;exact⟨jt3 op s l h t,zS,zS⟩;cases h
def jym (b:R E w0 I0 nt γ I st a w) (g:∀d,o.dst=some d->d<nt) {op:BinOp}{t l:TypeId}{x y:Operand}{f e:A}(h:o.op=.binOp op t x y l) (m:opd x=some f) (i:opd y=some e)
 (p:(YN op (ye E st.tm f) (ye E st.tm e)).bind one=some δ):XY P E w0 I0 nt γ I st a w o ub δ:=by
 obtain⟨v,n,c⟩:=yc p;obtain⟨⟨z,r,k⟩,q,j⟩:=j2o (P:=P) (w:=w) op t (jD b m) (jD b i) n;exact jc b g (x:=z) (by simp only[execOp,h,aB,jM op t x y _ _ q j,ak,r,aG]) (k γ I) c
def LKOk (P:Program) (t:TypeId):LK->Prop
 | .bool=>P.underlying t=some .bool
 | .int=>∃q,P.underlying t=some (.int q)
 | .str=>P.underlying t=some .string
def jij {t:TypeId}{x y:Value}{m l:V}{b:Bool}{k:LK}(d:Nat)
 (c:LKOk P t k)
 (i:Rep γ I x m) (g:Rep γ I y l) (h:Ww k m l=some b):(Op.equalIn (d+1) t x y).run P w=.ok b w:=by
 unfold Ww at h;split at h;have j:=Xd i;have f:=Xd g;subst j;subst f;simp only[ae]at h;rw[<- h];exact run_equalIn_bool' w d t _ _ c;rename_i k n u r;have j:=JE i;have f:=JE g;subst j;subst f;obtain⟨q,c⟩:=c;split at h;rename_i e;subst e;simp only[ae]at h;rw[<- h];exact run_equalIn_int w d t k q n r c;cases h;obtain⟨s,rfl,rfl⟩:=XU i;obtain⟨p,rfl,rfl⟩:=XU g;simp only[ae]at h;rw[run_equalIn_string w d t s p c,Yt,Yt,h];cases h
def jbk:∀(l l':List LK) (x y:List V) (b:Bool),J7 (l++l') x y=some b ->
 ∃b1 b2,J7 l (x.take l.length) (y.take l.length)=some b1/\J7 l' (x.drop l.length) (y.drop l.length)=some b2/\b=(b1&&b2)
 |[],l',x,y,b,h=>⟨true,b,rfl,by simpa using h,zS⟩
 |k::l,l',x,y,b,h=>by
  cases x with
  |nil=>simp[J7]at h
  |cons a x=>
   cases y with
   |nil=>simp[J7]at h
   |cons c y=>simp only[de,J7]at h;obtain⟨r,e,d⟩:=yc h;obtain⟨q,i,f⟩:=yh d;obtain⟨b1,b2,j,m,g⟩:=jbk l l' x y q i;refine⟨r&&b1,b2,?_,by simpa using m,by rw[<- f,g,fw]⟩;simp only[bh,eZ,J7,e,ap,j,aU]
def WG (γ:Nat->Option Place) (I:IMap) (P:Program) (t:TypeId) (x:Value) (cs:List V):Prop :=
 match P.underlying t with
 |some (.struct _)=>∃xs:Array Value,x=.agg xs/\xs.size=cs.length/\∀(j:Nat) (y:Value) (v:V),xs[j]? = some y->cs[j]? = some v->Rep γ I y v
 |_=>∃v,cs=[v]/\Rep γ I x v
def Yv {t:TypeId}{d:TypeDesc}(h:P.underlying t=some d):(isAgg t).run P w=.ok (jcy d) w:=by unfold isAgg;rw[aB,run_underlying h w];cases d<;>rfl
def jr {t:TypeId}{n:Nat}(h:QY P t=some n):(sizeOf t).run P w=.ok n w:=by unfold QY at h;obtain⟨i,b,rfl⟩:=yh h;simp[sizeOf,typeInfo,b]
def jcg {t:TypeId}{n off:Nat}{xs:Array Value}{cs:List V}(d:Nat) {l:List LK}(c:eqTs P d t=some l) (p:QY P t=some n) (u:xs.size=cs.length)
 (i:∀(j:Nat) (y:Value) (v:V),xs[j]? = some y->cs[j]? = some v->Rep γ I y v) (m:off+n<=cs.length) (z:n=l.length) :
 ∃x,(part t xs off).run P w=.ok x w/\WG γ I P t x ((cs.drop off).take n):=by
 cases d with
 |zero=>simp[eqTs]at c
 |succ d=>
  have one:∀(dd:TypeDesc),P.underlying t=some dd->jcy dd=false->l.length=1->∃x,(part t xs off).run P w=.ok x w/\WG γ I P t x ((cs.drop off).take n):=by
   intro dd b k s;have h:n=1:=zO;subst h;have e:off<xs.size:=zO;have f:cs[off]? = some cs[off]:=aa zO;refine⟨xs[off],?_,?_⟩;unfold part;simp only[aB,Yv b,k,ak,ah,zc,aA e,aG];have hd1:(cs.drop off).take 1=[cs[off]]:=by rw[aR zO];rfl
   rw[hd1];have:=i off _ _ (aA e) f;unfold WG;rw[b];cases dd<;>first|exact⟨_,rfl,this⟩|(simp[jcy]at k)
  unfold eqTs at c;split at c;rename_i b;cases c;exact one _ b rfl rfl;rename_i q b;cases c;exact one _ b rfl rfl;rename_i b;cases c;exact one _ b rfl rfl;rename_i fs b;refine⟨.agg (xs.extract off (off+n)),?_,?_⟩;unfold part;simp only[aB,Yv b,jcy,ak,zd,jr p,aG];unfold WG;rw[b];refine⟨_,rfl,?_,?_⟩;simp only[Array.size_extract,ai,aY];omega;intro j y v g f;have r:j<n:=by have:=(aj.1 f).1;simp only[ai]at this;omega
  simp only[iE]at g;rw[bi r,bC]at f;split at g;exact i _ _ _ g f;cases g;cases c
def jt5:∀(d:Nat) (t:TypeId) (l:List LK) (D:Nat) (x y:Value) (m j:List V) (b:Bool),eqTs P d t=some l->d<=D->WG γ I P t x m->WG γ I P t y j ->
 J7 l m j=some b->(Op.equalIn D t x y).run P w=.ok b w:=by
 intro d
 induction d with
 |zero=>intro t l D x y m j b h;simp[eqTs]at h
 |succ d ih=>
  intro t l D x y m j b n hD J H h
  obtain⟨D,rfl⟩:∃D',D=D'+1:=⟨D-1,zO⟩
  unfold eqTs at n
  have leaf:∀(k:LK) (dd:TypeDesc),P.underlying t=some dd->jcy dd=false->l=[k]->LKOk P t k ->
   (Op.equalIn (D+1) t x y).run P w=.ok b w:=by
   intro k dd g ha b9 ht
   subst b9
   have s:∃v,m=[v]/\Rep γ I x v:=by unfold WG at J;rw[g]at J;cases dd<;>first|exact J|(simp[jcy]at ha)
   have F:∃v,j=[v]/\Rep γ I y v:=by unfold WG at H;rw[g]at H;cases dd<;>first|exact H|(simp[jcy]at ha)
   obtain⟨v,rfl,s⟩:=s
   obtain⟨v',rfl,F⟩:=F
   simp only[J7]at h
   obtain⟨r,hr,z⟩:=yc h
   simp only[aU,eA,ae]at z
   subst z
   exact jij D ht s F hr
  split at n
  ·rename_i g;cases n;exact leaf .bool _ g rfl rfl g
  ·rename_i q g;cases n;exact leaf .int _ g rfl rfl ⟨q,g⟩
  ·rename_i g;cases n;exact leaf .str _ g rfl rfl g
  ·rename_i fs g
   split at n
   ·cases n
   ·rename_i a0
    unfold WG at J H
    rw[g]at J H
    obtain⟨xs,rfl,Z,U⟩:=J
    obtain⟨ys,rfl,b7,b6⟩:=H
    have hf:P.fieldsOf t=fs:=by unfold Program.fieldsOf;rw[g]
    rw[run_equalIn_struct w D t xs ys (by rw[hf];exact g) (by simpa using a0),hf]
    -- field by field
    have b8:∀(M:List Field) (off:Nat) (i:List LK) (b:Bool),eqFs (eqTs P d) P off M=some i->off+i.length<=m.length->off+i.length<=j.length->J7 i (m.drop off) (j.drop off)=some b ->
     (Op.eqFields D xs ys M).run P w=.ok b w:=by
     intro M
     induction M with
     |nil=>
      intro off i b B z h3 N
      simp only[eqFs,ae]at B
      subst B
      cases S:m.drop off<;>cases b5:j.drop off<;>simp[S,b5,J7]at N
      subst N
      rfl
     |cons f M X=>
      intro off i b B z h3 N
      simp only[eqFs]at B
      split at B
      ·cases B
      ·rename_i e
       simp only[not_or,Decidable.not_not]at e
       obtain⟨O,G,h5⟩:=yc B
       split at h5
       ·rename_i L
        obtain⟨l2,b0,rfl⟩:=yh h5
        simp only[aw]at z h3
        obtain⟨b1,b2,e1,e2,rfl⟩:=jbk O l2 _ _ b N
        obtain⟨p,hp,Q⟩:=jcg (P:=P) (w:=w) (off:=off) d G L Z U zO rfl
        obtain⟨q,hq,T⟩:=jcg (P:=P) (w:=w) (off:=off) d G L b7 b6 zO rfl
        have hr:=ih f.type O D p q _ _ b1 G zO Q T e1
        simp only[Op.eqFields,e.1,ne_eq,not_false_eq_true,zd,aB,e.2,hp,hq,hr,ak,Sem.run_ite,aG]
        cases b1
        ·simp
        ·simp only[bN,ah,zc,bF]
         refine X (off+O.length) l2 b2 b0 zO zO ?_
         simpa[dI] using e2
       ·cases h5
    have K:∀(i:List LK) (u v:List V) (b:Bool),J7 i u v=some b->i.length=u.length/\i.length=v.length:=by
     intro i
     induction i with
     |nil=>intro u v b h;cases u<;>cases v<;>simp[J7]at h;exact⟨rfl,rfl⟩
     |cons k i c0=>
      intro u v b h
      cases u with
      |nil=>simp[J7]at h
      |cons c u=>
       cases v with
       |nil=>simp[J7]at h
       |cons c' v=>
        simp only[J7]at h
        obtain⟨r,_,z⟩:=yc h
        obtain⟨q,hq,_⟩:=yh z
        have:=c0 u v q hq
        simp only[bh]
        omega
    obtain⟨O,l2⟩:=K l m j b h
    exact b8 fs.toList 0 l b n zO zO (by simpa using h)
  ·cases n
def j82 {t:TypeId}{k:LK}(h:joj P t=some k):LKOk P t k/\∃d,P.underlying t=some d/\jcy d=false:=by unfold joj at h;split at h;rename_i b;cases h;exact⟨b,_,b,rfl⟩;rename_i q b;cases h;exact⟨⟨q,b⟩,_,b,rfl⟩;rename_i b;cases h;exact⟨b,_,b,rfl⟩;cases h
def jxe {t e:TypeId}{n:Nat}{k:LK}(D:Nat) (Z:P.underlying t=some (.array n e)) (N:joj P e=some k) (hs:QY P e=some 1) {xs ys:Array Value}{g f:List V}{b:Bool}(M:xs.size=g.length) (Q:ys.size=f.length)
 (hx:∀(j:Nat) (y:Value) (v:V),xs[j]? = some y->g[j]? = some v->Rep γ I y v) (U:∀(j:Nat) (y:Value) (v:V),ys[j]? = some y->f[j]? = some v->Rep γ I y v) (h:J7 (List.replicate n k) g f=some b) :
 (Op.equalIn (D+2) t (.agg xs) (.agg ys)).run P w=.ok b w:=by
 obtain⟨T,d,L,ha⟩:=j82 N;have p:=hs;unfold QY at p;obtain⟨i,J,s⟩:=yh p;have hc:P.cellsOf e=1:=by simp[Program.cellsOf,J,s]
 rw[run_equalIn_array w (D+1) xs ys Z J,hc,List.range_eq_range'];have c:∀(x:Array Value) (j:Nat) (z:Value),x[j]? = some z->(part e x (j*1)).run P w=.ok z w:=λx j z S=>by unfold part;simp only[aB,Yv L,ha,ak,ah,zc,bB,S,aG]
 have F:∀(m off:Nat) (b:Bool),J7 (List.replicate m k) (g.drop off) (f.drop off)=some b->(Op.eqItems (D+1) e 1 xs ys (List.range' off m)).run P w=.ok b w:=by
  intro m;induction m with
  |zero=>intro off b h;rw[fe]at h;cases u:g.drop off<;>cases l:f.drop off<;>simp[u,l,J7]at h;subst h;rfl
  |succ m ih=>intro off b h;rw[List.replicate_succ]at h;by_cases B:off<g.length;by_cases G:off<f.length;rw[aR B,aR G]at h;simp only[J7]at h;obtain⟨r,X,h3⟩:=yc h;obtain⟨q,O,rfl⟩:=yh h3;have K:xs[off]? = some xs[off]:=aA zO;have H:ys[off]? = some ys[off]:=aA zO;have e1:=jij (P:=P) (w:=w) D T (hx off _ _ K (aa B)) (U off _ _ H (aa G)) X;rw[List.range'_succ];simp only[Op.eqItems,aB,c _ _ _ K,c _ _ _ H,e1,ak];cases r;rfl;simpa using ih (off+1) q O;rw[aR B,bM (by omega:f.length<=off)]at h;simp[J7]at h;rw[bM (by omega:g.length<=off)]at h;cases l:f.drop off<;>simp[l,J7]at h
 exact F n 0 b (by simpa using h)
def ok_un (h:R E w0 I0 nt γ I st a w) (i:∀d,o.dst=some d->d<nt) {op:UnOp}{t:TypeId}{x:Operand}{l:A}(j:o.op=.unOp op t x) (m:opd x=some l)
 (p:(unV op (ye E st.tm l)).bind one=some δ):XY P E w0 I0 nt γ I st a w o ub δ:=by
 obtain⟨v,c,e⟩:=yc p;have f:=jD h m;unfold unV at c;split at c;rename_i b g;rw[g]at f;have:=Xd f;simp only[ae]at c;subst c;exact jc h i (x:=.bool (!b)) (by simp only[execOp,j,this,Op.unary];rfl) (.pure _ _ (.bool _)) e;rename_i k n g;rw[g]at f;have:=JE f;simp only[ae]at c;subst c;exact jc h i (x:=.int k (k.wrap (0-n))) (by simp only[execOp,j,this,Op.unary,Op.intArith];rfl) (.pure _ _ (.int _ _)) e;rename_i k n g;rw[g]at f;have:=JE f;simp only[Xb,ae]at c;subst c;exact jc h i (x:=.int k _) (by simp only[execOp,j,this,Op.unary,Op.intBits];rfl) (.pure _ _ (.int _ _)) e;cases c
end
section
variable {P:Program}{E:Env}{w0 w:World}{I0:IMap}{nt:Nat}{γ:Nat->Option Place}{I:IMap}{st:St}{a:Act}{o:Oper}{ub:Nat}{δ:Delta}
def jeh (t:TypeId) (x y:Value) (b:Bool) (e:∀k n,x≠.int k n) (c:∀s,x≠.string s) (g:∀k f,x≠.float k f) (d:∀k r i,x≠.complex k r i) (h:(Op.equal t x y).run P w=.ok b w) :
 (binOp .eql t x y).run P w=.ok (.bool b) w/\(binOp .neq t x y).run P w=.ok (.bool (!b)) w:=by
 constructor;unfold binOp;cases x<;>cases y<;>first|(exact zf rfl (e _ _))|(exact zf rfl (c _))|(exact zf rfl (g _ _))|(exact zf rfl (d _ _ _))|(simp only[aB,h,ak,aG])
 unfold binOp;cases x<;>cases y<;>first|(exact zf rfl (e _ _))|(exact zf rfl (c _))|(exact zf rfl (g _ _))|(exact zf rfl (d _ _ _))|(simp only[aB,h,ak,aG])
def EqKOk (P:Program) (t:TypeId) (x y:Operand):EqK->Prop
 | .bool=>P.underlying t=some .bool
 | .ptr=>∃e,P.underlying t=some (.pointer e)/\∃n,QY P e=some n/\n≠0
 | .sl=>∃e,P.underlying t=some (.slice e)
 | .map=>∃k e,P.underlying t=some (.map k e)
 | .fn=>∃p r v,P.underlying t=some (.func p r v)
 | .iface=>(∃ms,P.underlying t=some (.interface ms))/\((∃v,x=.const v)\/∃v,y=.const v)
 | .struct l=>P.eqGuardType P.depth t=false/\((∃fs,P.underlying t=some (.struct fs))/\eqTs P 8 t=some l\/∃n e k,P.underlying t=some (.array n e)/\joj P e=some k/\QY P e=some 1/\l=List.replicate n k)
def j0l {t:TypeId}{x y:Operand}{k:EqK}(h:eqK P t x y=some k):EqKOk P t x y k:=by unfold eqK at h;split at h;cases h;assumption;split at h;rename_i e;cases h;exact⟨_,by assumption,_,e,Nat.succ_ne_zero _⟩;cases h;cases h;exact⟨_,by assumption⟩;cases h;exact⟨_,_,by assumption⟩;cases h;exact⟨_,_,_,by assumption⟩;split at h;cases h;exact⟨⟨_,by assumption⟩,.inl ⟨_,rfl⟩⟩;cases h;exact⟨⟨_,by assumption⟩,.inr ⟨_,rfl⟩⟩;cases h;split at h;cases h;rename_i b;obtain⟨l,d,rfl⟩:=yh h;exact⟨by simpa using b,.inl ⟨⟨_,by assumption⟩,d⟩⟩;split at h;cases h;rename_i b;simp only[not_or,Decidable.not_not]at b;obtain⟨k,c,rfl⟩:=yh h;exact⟨by simpa using b.1,.inr ⟨_,_,k,by assumption,c,b.2,rfl⟩⟩;cases h
def jm {t:TypeId}{d:TypeDesc}{X Y:Value}{b:Bool}{r:Result Bool}(e:P.underlying t=some d)
 (h:(match d,X,Y with
  | .bool,.bool a,.bool b=>some (a==b)
  | .pointer _,.pointer none,.pointer b=>some b.isNone
  | .pointer _,.pointer (some _),.pointer none=>some false
  | .slice _,.slice none _ _,.slice b _ _=>some b.isNone
  | .slice _,.slice (some _) _ _,.slice none _ _=>some false
  | .map _ _,.map none,.map b=>some b.isNone
  | .map _ _,.map (some _),.map none=>some false
  | .func _ _ _,.nilFunc,.nilFunc=>some true
  | .func _ _ _,.nilFunc,.func _ _ _|.func _ _ _,.func _ _ _,.nilFunc=>some false
  | .interface _,.nilIface,.nilIface=>some true
  | .interface _,.nilIface,.iface _ _|.interface _,.iface _ _,.nilIface=>some false
  |_,_,_=>none)=some b) (c:r=.ok b w):(Op.equal t X Y).run P w=r:=by
 subst c;unfold Op.equal;show(Op.equalIn (9999+1) t X Y).run P w=_;unfold Op.equalIn;simp only[aB,run_underlying e,ak];split at h<;>first|(cases h;rfl)|(simp only[ae]at h;subst h;rfl)|(cases h)
def ok_eq (K:R E w0 I0 nt γ I st a w) (N:∀d,o.dst=some d->d<nt) {neg:Bool}{t O:TypeId}{x y:Operand}{G F:A}{k:EqK}(ho:o.op=.binOp (if neg then .neq else .eql) t x y O) (hx:opd x=some G) (hy:opd y=some F)
 (U:eqK P t x y=some k) (ha:((eqV k (ye E st.tm G) (ye E st.tm F)).bind λb=>one (.bool (xor neg b)))=some δ):XY P E w0 I0 nt γ I st a w o ub δ:=by
 obtain⟨b,p,H⟩:=yc ha;have j:=jD K hx;have c:=jD K hy;generalize ye E st.tm G=vx at j p;generalize ye E st.tm F=vy at c p;generalize S:a.eval x=X at j;generalize hY:a.eval y=Y at c;have l:(eqGuard (if neg then .neq else .eql) t x y X Y).run P w=.ok () w->(∀k n,X≠.int k n)->(∀s,X≠.string s)->(∀k f,X≠.float k f)->(∀k r i,X≠.complex k r i)->(Op.equal t X Y).run P w=.ok b w ->
  XY P E w0 I0 nt γ I st a w o ub δ:=by
  intro Q B u D z Z
  obtain⟨e1,e2⟩:=jeh t X Y b B u D z Z
  refine jc K N (x:=.bool (xor neg b)) ?_ (.pure _ _ (.bool _)) H
  simp only[execOp,ho,aB,S,hY,Q,ak]
  cases neg
  ·simp only[ah,zc,e1,ak,aG,Bool.false_xor]
  ·simp only[zd,e2,ak,aG,Bool.true_xor]
 have g:=j0l U;unfold eqV at p;split at p<;>first|(cases p;done)|skip
 have:=Xd j;subst this;have:=Xd c;subst this;cases p;exact l (jM _ _ _ _ _ _ zS zS) zS zS zS zS (jm g rfl rfl);have:=YD j;subst this;have:=YD c;subst this;cases p;obtain⟨e,m,_⟩:=g;exact l (jM _ _ _ _ _ _ zS zS) zS zS zS zS (jm m rfl rfl);obtain⟨_,_,_,rfl⟩:=W5 j;have:=YD c;subst this;cases p;obtain⟨e,m,_⟩:=g;exact l (jM _ _ _ _ _ _ zS zS) zS zS zS zS (jm m rfl rfl);have:=YD j;subst this;obtain⟨_,_,_,rfl⟩:=W5 c;cases p;obtain⟨e,m,_⟩:=g;exact l (jM _ _ _ _ _ _ zS zS) zS zS zS zS (jm m rfl rfl);obtain⟨_,_,rfl,_⟩:=jav j;have:=YD c;subst this;cases p;obtain⟨e,m,_⟩:=g;exact l (jM _ _ _ _ _ _ zS zS) zS zS zS zS (jm m rfl rfl);have:=YD j;subst this;obtain⟨_,_,rfl,_⟩:=jav c;cases p;obtain⟨e,m,_⟩:=g;exact l (jM _ _ _ _ _ _ zS zS) zS zS zS zS (jm m rfl rfl);obtain⟨e,m⟩:=g;rcases YX c with⟨rfl,_⟩|⟨_,_,_,_,h,_⟩;rcases YX j with⟨rfl,_,rfl,_⟩|⟨_,_,_,rfl,rfl,_⟩;cases p;exact l (jM _ _ _ _ _ _ zS zS) zS zS zS zS (jm m rfl rfl);cases p;exact l (jM _ _ _ _ _ _ zS zS) zS zS zS zS (jm m rfl rfl);cases h;have:=Xo j;subst this;have:=Xo c;subst this;cases p;obtain⟨_,_,m⟩:=g;exact l (jM _ _ _ _ _ _ zS zS) zS zS zS zS (jm m rfl rfl);obtain⟨_,_,_,rfl⟩:=QL j;have:=Xo c;subst this;cases p;obtain⟨_,_,m⟩:=g;exact l (jM _ _ _ _ _ _ zS zS) zS zS zS zS (jm m rfl rfl);have:=jcz j;subst this;have:=jcz c;subst this;cases p;obtain⟨_,_,_,m⟩:=g;exact l (jM _ _ _ _ _ _ zS zS) zS zS zS zS (jm m rfl rfl);obtain⟨_,_,rfl,_⟩:=jeo j;have:=jcz c;subst this;cases p;obtain⟨_,_,_,m⟩:=g;exact l (jM _ _ _ _ _ _ zS zS) zS zS zS zS (jm m rfl rfl);have:=Wt j;subst this;have:=Wt c;subst this;cases p;obtain⟨⟨ms,m⟩,q⟩:=g;refine l ?_ zS zS zS zS (jm m rfl rfl);unfold eqGuard;rcases q with⟨v,rfl⟩|⟨v,rfl⟩<;>cases neg<;>simp;obtain⟨_,rfl,_⟩:=jc0 j;have:=Wt c;subst this;cases p;obtain⟨⟨_,m⟩,_⟩:=g;exact l (jM _ _ _ _ _ _ zS zS) zS zS zS zS (jm m rfl rfl);have:=Wt j;subst this;obtain⟨_,rfl,_⟩:=jc0 c;cases p;obtain⟨⟨_,m⟩,_⟩:=g;exact l (jM _ _ _ _ _ _ zS zS) zS zS zS zS (jm m rfl rfl)
 ·obtain⟨T,g⟩:=g;obtain⟨L,rfl,B,_,u⟩:=Yd j;obtain⟨M,rfl,D,_,z⟩:=Yd c;refine l (run_eqGuard_agg (P:=P) w _ t x y L M T) zS zS zS zS ?_;rcases g with⟨⟨fs,m⟩,hl⟩|⟨n,e,k,m,J,hs,rfl⟩;rotate_left
  exact jxe (γ:=γ) (I:=I) 9998 m J hs B D u z p;refine jt5 (γ:=γ) (I:=I) 8 t _ 10000 _ _ _ _ b hl zO ?_ ?_ p;unfold WG;rw[m];exact⟨L,rfl,B,u⟩;unfold WG;rw[m];exact⟨M,rfl,D,z⟩
end
section
variable {P:Program}{E:Env}{w0 w:World}{I0:IMap}{nt:Nat}{γ:Nat->Option Place}{I:IMap}{st:St}{a:Act}{o:Oper}{ub:Nat}{δ:Delta}
def JO {t:TypeId}{i:TypeInfo}{z:Value}(hi:P.info? t=some i) (b:i.zero=some z):(zeroValue t).run P w=.ok z w:=by simp[zeroValue,typeInfo,hi,b]
def leafOk {v:Value}{z:V}(b:jco v=some z):RepP I v z/\z.leaf=true:=by unfold jco at b;split at b<;>simp only[ae,reduceCtorEq]at b<;>subst b;exact⟨.bool _,rfl⟩;exact⟨.int _ _,rfl⟩;exact⟨.str _,rfl⟩;exact⟨.nilptr,rfl⟩;exact⟨.slnil,rfl⟩;exact⟨.nilmap,rfl⟩;exact⟨.nilfn,rfl⟩;exact⟨.nilif,rfl⟩
def jsb {cs:List Value}{l:List V}(h:cs.mapM jco=some l):l.length=cs.length/\∀(j:Nat) (x:Value) (v:V),cs[j]? = some x->l[j]? = some v->v.leaf=true/\RepP I x v:=by obtain⟨e,d⟩:=JA h;exact⟨e,λj x v f c=>let ⟨a,b⟩:=leafOk (I:=I) (d j x v f c);⟨b,a⟩⟩
def Yo {t:TypeId}{zs:List V}(h:Wj P t=some zs):∃i z,P.info? t=some i/\i.zero=some z/\zs.length=z.cells.size/\∀(j:Nat) (x:Value) (v:V),z.cells[j]? = some x->zs[j]? = some v->v.leaf=true/\RepP I x v:=by unfold Wj at h;obtain⟨i,d,b⟩:=yc h;obtain⟨z,l,c⟩:=yc b;obtain⟨g,k⟩:=jsb (I:=I) c;exact⟨i,z,d,l,by simpa using g,λj x v e f=>k j x v (by simpa using e) f⟩
def jhh {x:Value}{v:V}(h:Rep γ I x v) (d:v.cells.all V.leaf=true):x.cells.size=v.cells.length/\∀(j:Nat) (y:Value) (u:V),x.cells[j]? = some y->v.cells[j]? = some u->u.leaf=true/\Rep γ I y u:=by
 have one:∀{x:Value}{v:V},v.cells=[v]->x.cells=#[x]->v.leaf=true->Rep γ I x v->x.cells.size=v.cells.length/\∀(j:Nat) (y:Value) (u:V),x.cells[j]? = some y->v.cells[j]? = some u->u.leaf=true/\Rep γ I y u:=by
  intro x v p m d h;rw[p,m];refine⟨rfl,λj y u e c=>?_⟩;cases j with
  |zero=>simp at e c;subst e;subst c;exact⟨d,h⟩
  |succ j=>simp at c
 cases v with
 |agg cs=>obtain⟨D,rfl,r,g,i⟩:=Yd h;exact⟨r,λj y u e c=>⟨g j u c,i j y u e c⟩⟩
 |undef=>simp[V.cells,V.leaf]at d
 |tup H=>simp[V.cells,V.leaf]at d
 |bool b=>have:=Xd h;subst this;exact one rfl rfl rfl h
 |int k n=>have:=JE h;subst this;exact one rfl rfl rfl h
 |str s=>obtain⟨z,rfl,_⟩:=XU h;exact one rfl rfl rfl h
 |nilptr=>have:=YD h;subst this;exact one rfl rfl rfl h
 |nilmap=>have:=Xo h;subst this;exact one rfl rfl rfl h
 |nilfn=>have:=jcz h;subst this;exact one rfl rfl rfl h
 |nilif=>have:=Wt h;subst this;exact one rfl rfl rfl h
 |sl t G n cs=>rcases YX h with⟨rfl,_⟩|⟨_,_,_,rfl,_⟩<;>exact one rfl rfl rfl h
 |eptr cs off=>obtain⟨_,_,rfl,_⟩:=jav h;exact one rfl rfl rfl h
 |ptr l u off=>obtain⟨_,_,_,rfl⟩:=W5 h;exact one rfl rfl rfl h
 |osl l u off n B=>obtain⟨_,_,_,_,_,rfl,_⟩:=YC h;exact one rfl rfl rfl h
 |map l u=>obtain⟨_,_,_,rfl⟩:=QL h;exact one rfl rfl rfl h
 |iter l u=>obtain⟨_,_,_,rfl⟩:=je7 h;exact one rfl rfl rfl h
 |yld l u=>obtain⟨_,_,_,rfl⟩:=jz4 h;exact one rfl rfl rfl h
 |fn f q F=>obtain⟨_,_,rfl,_⟩:=jeo h;exact one rfl rfl rfl h
 |iface t v=>obtain⟨_,rfl,_⟩:=jc0 h;exact one rfl rfl rfl h
def j3d (t:R E w0 I0 nt γ I st a w) (m:∀d,o.dst=some d->d<nt) (p:γ ub=none) {e:TypeId}{zs:List V}{d:Nat}(q:o.op=.alloc e) (y:Wj P e=some zs)
 (s:Jo d ub (.cells zs) (.ptr d ub 0)=some δ):XY P E w0 I0 nt γ I st a w o ub δ:=by
 obtain⟨i,z,r,f,c,b⟩:=Yo (I:=I) y;refine WU t m p (x:=.pointer (some ⟨w.heap.size,0,none⟩)) (obj:=.cells z.cells e) (k:=.n z.cells.size) ?_ rfl (λu h=>.ptr _ _ _ _ _ h) ?_ s;simp only[execOp,q,Instr.alloc,aB,JO r f,ak];simp[newVar,newRow];exact⟨z.cells,e,rfl,rfl,fh c,λj x v g l=>⟨(b j x v g l).1,.pure _ _ (b j x v g l).2⟩⟩
def ok_box (f:R E w0 I0 nt γ I st a w) (g:∀d,o.dst=some d->d<nt) (i:γ ub=none) {e:TypeId}{x:Operand}{b:A}{n d:Nat}(j:o.op=.box e x) (r:opd x=some b)
 (c:(if (ye E st.tm b).cells.length=n/\(ye E st.tm b).cells.all V.leaf=true then Jo d ub (.cells (ye E st.tm b).cells) (.ptr d ub 0) else none)=some δ):XY P E w0 I0 nt γ I st a w o ub δ:=by
 split at c;rename_i h;have m:=jD f r;obtain⟨p,l⟩:=jhh m h.2;refine WU f g i (x:=.pointer (some ⟨w.heap.size,0,none⟩)) (obj:=.cells (a.eval x).cells e) (k:=.n (a.eval x).cells.size) ?_ rfl (λq h=>.ptr _ _ _ _ _ h) ?_ c;simp[execOp,j,Instr.box,newVar,newRow];exact⟨_,e,rfl,rfl,fh p.symm,l⟩;cases c
def Xe (b off n:Nat):(⟨b,off,none⟩:Addr).add n=⟨b,off+n,none⟩:=by unfold Addr.add;split;rename_i h;subst h;rfl;rfl
def jxg (g:Option Nat) (f:Nat->Value):Value :=
 match g with
 |some n=>.agg ((List.range n).map f).toArray
 |none=>f 0
def jbs {t:TypeId}{g:Option Nat}(k:jf4 P t=some g) {b off:Nat}(f:Nat->Value) (n:Nat) (e:n=g.getD 1) (l:∀j,j<n->w.cell? ⟨b,off+j,none⟩=some (f j)) :
 (loadVar t ⟨b,off,none⟩).run P w=.ok (jxg g f) w:=by
 unfold jf4 at k;obtain⟨d,i,h⟩:=yc k;unfold loadVar;split at h;rename_i c;obtain⟨m,p,rfl⟩:=yh h;simp only[cy]at e;subst e;simp only[aB,Yv i,c,ak,zd,jr p];rw[run_loadCells w ⟨b,off,none⟩ n f (λj q=>by rw[Xe];exact l j q)];rfl;rename_i c;cases h;simp only[Option.getD_none]at e;subst e;have:=l 0 zO;simp only[bp]at this;simp only[aB,Yv i,c,ak,ah,zc,run_load,this,jxg]
def jky {I:IMap}{g:Option Nat}{cs:List V}{off:Nat}{v:V}(hp:Xz g cs off=some v) (f:Nat->Value)
 (d:∀(j:Nat) (u:V),j<g.getD 1->cs[off+j]? = some u->u.leaf=true/\Rep γ I (f j) u) :
 (∀j,j<g.getD 1->off+j<cs.length)/\Rep γ I (jxg g f) v:=by
 unfold Xz at hp;cases g with
 |none=>simp only at hp;have h:=(aj.1 hp).1;refine⟨λj b=>?_,(d 0 v zS (by simpa using hp)).2⟩;simp only[Option.getD_none]at b;omega
 |some n=>
  simp only at hp;split at hp;rename_i i;simp only[ae]at hp;subst hp;refine⟨λj b=>by simp only[cy]at b;omega,?_⟩;refine .agg _ _ (by simp;omega) (λj u c=>?_) (λj x u e c=>?_);have b:j<n:=by have:=(aj.1 c).1;simp only[ai]at this;omega
  rw[bi b,bC]at c;exact(d j u b c).1;have b:j<n:=by have:=(aj.1 c).1;simp only[ai]at this;omega
  rw[bi b,bC]at c;simp[b]at e;subst e;exact(d j u b c).2;cases hp
def j8t (q:R E w0 I0 nt γ I st a w) (G:∀d,o.dst=some d->d<nt) {t:TypeId}{x:Operand}{L:A}{g:Option Nat}(M:o.op=.load t x) (hx:opd x=some L) (K:jf4 P t=some g)
 (m:(match ye E st.tm L with
  | .eptr cs off=>(Xz g cs off).bind one
  | .ptr l u off=>(j0 st.ob l u).bind λcs=>(Xz g cs off).bind one
  |_=>none)=some δ):XY P E w0 I0 nt γ I st a w o ub δ:=by
 have r:=jD q hx;split at m;rename_i cs off F;rw[F]at r;obtain⟨b,J,h,N,S,O,U⟩:=jav r;obtain⟨v,D,i⟩:=yc m;obtain⟨s,z⟩:=jky (γ:=γ) (I:=I) D (λj=>N (off+j)) (λj u n k=>by
  have:=O _ _ k;refine⟨?_,.pure _ _ (U _ _ k)⟩;cases u<;>first|rfl|(simp[V.pureLeaf]at this))
 refine jc q G ?_ z i;simp only[execOp,M,h,Instr.loadAt,Instr.sureAddr,aB,aG,ak];rw[jbs K (λj=>N (off+j)) _ rfl (λj n=>by
  rw[aI];exact q.imm _ _ _ (S _ (s j n)))]
 rfl;rename_i l u off F;rw[F]at r;obtain⟨b,kb,k,h⟩:=W5 r;obtain⟨cs,c,m⟩:=yc m;obtain⟨v,D,i⟩:=yc m;unfold j0 at c;split at c;rename_i u' T y;split at c;rename_i B;cases c;subst B;obtain⟨Ω,p⟩:=q.own;obtain⟨b',X,H,k2,k3,k4,k5⟩:=p.ob l _ y;rw[k]at H;cases H;obtain⟨arr,e,Z,m2,m4,Q⟩:=k4;have f:∀j,off+j<cs.length->arr[off+j]? = some (arr.getD (off+j) undef):=by intro j n;have:off+j<arr.size:=zO;simp[this]
 obtain⟨s,z⟩:=jky (γ:=γ) (I:=I) D (λj=>arr.getD (off+j) undef) (λj u n k=>Q _ _ _ (f j (aj.1 k).1) k);refine jc q G ?_ z i;simp only[execOp,M,h,Instr.loadAt,Instr.sureAddr,aB,aG,ak];rw[jbs K (λj=>arr.getD (off+j) undef) _ rfl (λj n=>by
  simp only[World.cell?,Z,cM,ah,zc];exact f j (s j n))]
 rfl;cases c;cases c;cases m
end
section
variable {P:Program}{E:Env}{w0 w:World}{I0:IMap}{nt:Nat}{γ:Nat->Option Place}{I:IMap}{st:St}{a:Act}{o:Oper}{ub:Nat}{δ:Delta}
def ji {ob:ZO}{l u:Nat}{cs:List V}(h:j0 ob l u=some cs):ob l=some ⟨u,.cells cs⟩:=by unfold j0 at h;split at h;rename_i e c b;split at h;rename_i d;cases h;subst d;exact b;cases h;cases h
def XO {ob:ZO}{l u:Nat}{es:List (V×V)}(h:jY ob l u=some es):ob l=some ⟨u,.mp (jn ob l) es⟩:=by unfold jY at h;split at h;rename_i f d c b;unfold jn;rw[b];simp only;split at h;rename_i e;cases h;subst e;rfl;cases h;cases h
def Qu (i:R E w0 I0 nt γ I st a w) {l u b:Nat}{k:Kd}{cs:List V}(h:st.ob l=some ⟨u,.cells cs⟩) (f:γ u=some (.obj b k)) :
 ∃arr e,w.heap[b]? = some (.cells arr e (0,0))/\arr.size=k.size/\cs.length<=k.size/\∀(j:Nat) (x:Value) (v:V),arr[j]? = some x->cs[j]? = some v->v.leaf=true/\Rep γ I x v:=by
 obtain⟨r,c⟩:=i.own;obtain⟨n,g,d,p,q,m,s⟩:=c.ob l _ h;rw[f]at d;cases d;exact m
def Q9 (cs:List V) (off:Nat) (vs:List V) (h:off+vs.length<=cs.length):(j6 cs off vs).length=cs.length:=by simp only[j6,aw,ai,aY];omega
def jdl (cs:List V) (off:Nat) (vs:List V) (h:off+vs.length<=cs.length) (j:Nat) :
 (j6 cs off vs)[j]? = if off<=j/\j<off+vs.length then vs[j-off]? else cs[j]?:=by
 simp only[j6];by_cases b:j<off;rw[bj,bl (by simp only[ai];omega),bi b,za zO];by_cases c:j<off+vs.length;rw[bl (by simp only[aw,ai];omega),bw (by simp only[ai];omega),zb zO];congr 1;simp only[ai];omega;rw[bw (by simp only[aw,ai];omega),za zO,bC];congr 1;simp only[aw,ai];omega
def j21 (D:R E w0 I0 nt γ I st a w) (X:∀d,o.dst=some d->d<nt) {t:TypeId}{x y:Operand}{Q f:A}{n:Nat}(ho:o.op=.store t x y) (c:opd x=some Q) (hy:opd y=some f) (hn:QY P t=some n)
 (g:(match ye E st.tm Q with
  | .ptr l u off=>(j0 st.ob l u).bind λcs=>
   if Nat.ble st.ro u=true/\(ye E st.tm f).cells.length=n/\off+n<=cs.length/\(ye E st.tm f).cells.all V.leaf=true then
    some { v:=js,obs:=[(l,⟨u,.cells (j6 cs off (ye E st.tm f).cells)⟩)] } else none
  |_=>none)=some δ):XY P E w0 I0 nt γ I st a w o ub δ:=by
 have z:=jD D c;have L:=jD D hy;split at g;rename_i l u off he;rw[he]at z;obtain⟨b,kb,T,F⟩:=W5 z;obtain⟨cs,M,g⟩:=yc g;split at g;rename_i hc;obtain⟨H,O,h2,h3⟩:=hc;have q:=ji M;obtain⟨arr,e,U,m2,m4,m3⟩:=Qu D q T;obtain⟨c1,J⟩:=jhh L h3;generalize hV:(a.eval y).cells=vals at c1 J;have r:∀v∈vals.toList,v.oneCell'=true:=by
  intro v i;obtain⟨j,B,rfl⟩:=cw.1 i;have K:j<vals.size:=by simpa using B
  have p:(ye E st.tm f).cells[j]? = some ((ye E st.tm f).cells[j]' zO):=aa _;obtain⟨l1,l2⟩:=J j _ _ (aA K) p;have:=l2.oneCell l1;simpa using this
 have S:vals.toList.length=n:=by simp;omega
 have m:=run_storeCells_at P b off e vals.toList 0 arr w U (by simp only[bp];omega) r;simp only[bp]at m;refine Wm D X q H (body':=.cells (j6 cs off (ye E st.tm f).cells)) (x:=undef) (v:=js)
  (w':=w.setRow b (arr.toList.take off++vals.toList++arr.toList.drop (off+vals.toList.length)).toArray) (.inr ⟨?_,rfl⟩) (.tup _ _ rfl zS) (λv es h=>by cases h) ?_ g
 have G:(storeVar t ⟨b,off,none⟩ (a.eval y)).run P w=.ok () (w.setRow b (arr.toList.take off++vals.toList++arr.toList.drop (off+vals.toList.length)).toArray):=by unfold storeVar;rw[hV];have N:¬(vals.size≠n):=zO;simp only[aB,jr hn,ak,N,zc,m]
 simp only[execOp,ho,F,Instr.storeAt,Instr.sureAddr,aB,aG,ak,G];intro b' k' s Z;rw[T]at s;cases s;refine⟨rfl,rfl,rfl,zS,λk hk=>setRow_other w b k _ hk,?_⟩;rw[setRow_heap w b arr _ e _ U];refine⟨_,e,rfl,?_,by rw[Q9 _ _ _ zO];exact m4,?_⟩;simp only[cR,aw,ai,aY,aL];omega;intro j x v c i;rw[jdl _ _ _ zO]at i;simp only[bO]at c;by_cases B:off<=j/\j<off+(ye E st.tm f).cells.length;rw[zb B]at i;rw[bl (by simp only[aw,ai,aL];omega),bw (by simp only[ai,aL];omega)]at c;have p:j-(List.take off arr.toList).length=j-off:=by simp only[ai,aL];omega
 rw[p]at c;exact J (j-off) x v (by simpa using c) i;rw[za B]at i;refine m3 j x v ?_ i;by_cases O:j<off;rw[bj,bl (by simp only[ai,aL];omega),bi O]at c;simpa using c;rw[bw (by simp only[aw,ai,aL];omega),bC]at c;have p:off+vals.toList.length+(j-(List.take off arr.toList++vals.toList).length)=j:=by simp only[aw,ai,aL];omega
 rw[p]at c;simpa using c;cases g;cases g
def jpg (j:R E w0 I0 nt γ I st a w) (k:∀d,o.dst=some d->d<nt) {x:Operand}{n:A}(m:o.op=.nilCheck x) (p:opd x=some n)
 (i:(match ye E st.tm n with
  | .ptr l u o=>one (.ptr l u o)
  | .eptr cs o=>one (.eptr cs o)
  | .fn (.func f) a b=>one (.fn (.func f) a b)
  |_=>none)=some δ):XY P E w0 I0 nt γ I st a w o ub δ:=by
 have g:=jD j p;split at i;rename_i h;rw[h]at g;have e:=g;obtain⟨b,_,_,c⟩:=W5 e;exact jc j k (x:=a.eval x) (by simp only[execOp,m,c,aG]) g i;rename_i h;rw[h]at g;have e:=g;obtain⟨b,_,c,_⟩:=jav e;exact jc j k (x:=a.eval x) (by simp only[execOp,m,c,aG]) g i;rename_i h;rw[h]at g;have e:=g;obtain⟨_,_,c,_⟩:=jeo e;exact jc j k (x:=a.eval x) (by simp only[execOp,m,c,aG]) g i;cases i
def jfh {X:Value}{v d:V}{n:Nat}(h:Rep γ I X v) (k:(∃l u o,v=.ptr l u o/\d=.ptr l u (o+n))\/∃cs o,v=.eptr cs o/\d=.eptr cs (o+n)) :
 ∃e,X=.pointer (some e)/\e.spot=none/\Rep γ I (.pointer (some (e.add n))) d:=by
 rcases k with⟨l,u,o,rfl,rfl⟩|⟨cs,o,rfl,rfl⟩;obtain⟨b,p,i,rfl⟩:=W5 h;exact⟨_,rfl,rfl,by rw[Xe];exact .ptr _ _ _ _ _ i⟩;obtain⟨b,c,rfl,g,m,f,j⟩:=jav h;exact⟨_,rfl,rfl,by rw[Xe,aI];exact .pure _ _ (.eptr b c (o+n) cs g m f j)⟩
def jmv (s:R E w0 I0 nt γ I st a w) (y:∀d,o.dst=some d->d<nt) {t:TypeId}{x:Operand}{v:A}{f:Nat}{g:Field}{n:Nat}(B:o.op=.fieldAddr t x f) (F:opd x=some v) (e:jd5 P t f=some g)
 (G:QY P g.type=some n) (q:n≠0)
 (j:(match ye E st.tm v with
  | .ptr l u o=>one (.ptr l u (o+g.offset))
  | .eptr cs o=>one (.eptr cs (o+g.offset))
  |_=>none)=some δ):XY P E w0 I0 nt γ I st a w o ub δ:=by
 have i:=jD s F;have m:∃fs,P.underlying t=some (.struct fs)/\fs[f]? = some g:=by unfold jd5 at e;split at e;exact⟨_,by assumption,e⟩;cases e
 obtain⟨fs,m,z⟩:=m;have go:∀(h:Addr) (k:V),a.eval x=.pointer (some h)->Rep γ I (.pointer (some (h.add g.offset))) k->one k=some δ->XY P E w0 I0 nt γ I st a w o ub δ:=by intro h k c b r;refine jc s y ?_ b r;simp only[execOp,B,c,Instr.fieldAt,Instr.sureAddr,aB,run_underlying m,ak,z,aG,fieldPlace,jr G,q,zc,Sem.run_ite]
 split at j;rename_i l u D p;rw[p]at i;obtain⟨h,c,_,b⟩:=jfh (n:=g.offset) i (.inl ⟨_,_,_,rfl,rfl⟩);exact go h _ c b j;rename_i cs D p;rw[p]at i;obtain⟨h,c,_,b⟩:=jfh (n:=g.offset) i (.inr ⟨_,_,rfl,rfl⟩);exact go h _ c b j;cases j
def jyk (v:R E w0 I0 nt γ I st a w) (F:∀d,o.dst=some d->d<nt) {t e:TypeId}{x i:Operand}{D B:A}{len n:Nat}(G:o.op=.indexAddr t x i) (J:opd x=some D) (hi:opd i=some B) (H:P.underlying t=some (.array len e))
 (K:QY P e=some n)
 (h:(match ye E st.tm D,ye E st.tm B with
  | .ptr l u off,.int _ i=>if 0<=i/\i<len then one (.ptr l u (off+i.toNat*n)) else none
  | .eptr cs off,.int _ i=>if 0<=i/\i<len then one (.eptr cs (off+i.toNat*n)) else none
  |_,_=>none)=some δ):XY P E w0 I0 nt γ I st a w o ub δ:=by
 have r:=jD v J;have g:=jD v hi;have go:∀(k:IntKind) (j:Int) (p:Addr) (s:V),a.eval x=.pointer (some p)->a.eval i=.int k j->0<=j/\j<len->Rep γ I (.pointer (some (p.add (j.toNat*n)))) s->one s=some δ->XY P E w0 I0 nt γ I st a w o ub δ:=by intro k j p s c f q b z;refine jc v F ?_ b z;simp only[execOp,G,c,f,Instr.indexAt,Instr.sureAddr,asIntOf,aB,run_underlying H,ak,aG,q,and_self,zd,jr K]
 split at h;rename_i y m;rw[y]at r;rw[m]at g;have f:=JE g;split at h;rename_i q;obtain⟨p,c,_,b⟩:=jfh (n:=_) r (.inl ⟨_,_,_,rfl,rfl⟩);exact go _ _ p _ c f q b h;cases h;rename_i y m;rw[y]at r;rw[m]at g;have f:=JE g;split at h;rename_i q;obtain⟨p,c,_,b⟩:=jfh (n:=_) r (.inr ⟨_,_,rfl,rfl⟩);exact go _ _ p _ c f q b h;cases h;cases h
def j28 (J:R E w0 I0 nt γ I st a w) (S:∀d,o.dst=some d->d<nt) {t e:TypeId}{x i:Operand}{O Q:A}{n:Nat}(X:o.op=.indexAddr t x i) (hx:opd x=some O) (hi:opd i=some Q) (hu:P.underlying t=some (.slice e))
 (hn:QY P e=some n) (K:n≠0)
 (s:(match ye E st.tm O,ye E st.tm Q with
  | .sl _ _ m cs,.int _ i=>if 0<=i/\i<m/\cs.length=m*n then one (.eptr cs (i.toNat*n)) else none
  | .osl l u off m sz',.int _ i=>if 0<=i/\i<m/\sz'=n then one (.ptr l u (off+i.toNat*n)) else none
  |_,_=>none)=some δ):XY P E w0 I0 nt γ I st a w o ub δ:=by
 have B:=jD J hx;have q:=jD J hi;have go:∀(k:IntKind) (j:Int) (r:Addr) (m p:Nat) (D:V),a.eval x=.slice (some r) m p->a.eval i=.int k j->0<=j/\j<m->Rep γ I (.pointer (some (r.add (j.toNat*n)))) D->one D=some δ->XY P E w0 I0 nt γ I st a w o ub δ:=by intro k j r m p D f g v z G;refine jc J S ?_ z G;simp only[execOp,X,f,g,Instr.indexAt,asIntOf,aB,run_underlying hu,ak,aG,v,and_self,zd,jr hn]
 split at s;rename_i L y;rw[L]at B;rw[y]at q;have g:=JE q;split at s;rename_i t' nl m cs k j v;rcases YX B with⟨_,_,_,rfl,_⟩|⟨r,p,Z,f,_,hs,_,_,U,T,h3,_⟩;omega;have H:cs=[]\/r.spot=none:=by rcases cs with _|⟨c,cs⟩;exact .inl rfl;exact .inr (hs zS)
 refine go _ _ r _ _ _ f g ⟨v.1,v.2.1⟩ ?_ s;rcases H with rfl|hsp;have h:=v.2.2;simp only[ct]at h;rcases eR.1 h.symm with h|h;omega;exact zf h K;obtain⟨b,o',sp⟩:=r;simp only at hsp;subst hsp;rw[Xe];exact .pure _ _ (.eptr b o' _ cs Z U T h3);cases s;rename_i L y;rw[L]at B;rw[y]at q;have g:=JE q;split at s;rename_i v;obtain⟨b,kb,r,p,F,f,M,N,_⟩:=YC B;have:=(M zO).1;subst this;refine go _ _ _ _ _ _ f g ⟨v.1,v.2.1⟩ ?_ s;rw[Xe];exact .ptr _ _ _ _ _ F;cases s;cases s
end
section
variable {P:Program}{E:Env}{w0 w:World}{I0:IMap}{nt:Nat}{γ:Nat->Option Place}{I:IMap}{st:St}{a:Act}{o:Oper}{ub:Nat}{δ:Delta}
def jef {t:TypeId}{g:Option Nat}{off:Nat}{xs:Array Value}{cs:List V}{v:V}(l:jf4 P t=some g) (hp:Xz g cs off=some v) (s:xs.size=cs.length)
 (p:∀(j:Nat) (u:V),cs[j]? = some u->u.leaf=true) (k:∀(j:Nat) (y:Value) (u:V),xs[j]? = some y->cs[j]? = some u->Rep γ I y u) :
 ∃x,(part t xs off).run P w=.ok x w/\Rep γ I x v:=by
 unfold jf4 at l;obtain⟨d,c,h⟩:=yc l;unfold part;split at h;rename_i b;obtain⟨m,q,rfl⟩:=yh h;simp only[Xz]at hp;split at hp;rename_i r;cases hp;refine⟨.agg (xs.extract off (off+m)),by simp only[aB,Yv c,b,ak,zd,jr q,aG],?_⟩;refine .agg _ _ (by simp only[Array.size_extract,ai,aY];omega) (λj u c=>?_) (λj x u f c=>?_);have i:j<m:=by have:=(aj.1 c).1;simp only[ai]at this;omega
 rw[bi i,bC]at c;exact p _ _ c;have i:j<m:=by have:=(aj.1 c).1;simp only[ai]at this;omega
 rw[bi i,bC]at c;simp only[iE]at f;split at f;exact k _ _ _ f c;cases f;cases hp;rename_i b;cases h;simp only[Xz]at hp;have n:=(aj.1 hp).1;have e:off<xs.size:=zO;exact⟨xs[off],by simp only[aB,Yv c,b,ak,ah,zc,aA e,aG],k _ _ _ (aA e) hp⟩
def j29 (m:R E w0 I0 nt γ I st a w) (p:∀d,o.dst=some d->d<nt) {t:TypeId}{x:Operand}{n:A}{f:Nat}{e:Field}{g:Option Nat}(r:o.op=.field t x f) (D:opd x=some n) (b:jd5 P t f=some e)
 (B:jf4 P e.type=some g)
 (j:(match ye E st.tm n with
  | .agg cs=>(Xz g cs e.offset).bind one
  |_=>none)=some δ):XY P E w0 I0 nt γ I st a w o ub δ:=by
 have l:=jD m D;have i:∃fs,P.underlying t=some (.struct fs)/\fs[f]? = some e:=by unfold jd5 at b;split at b;exact⟨_,by assumption,b⟩;cases b
 obtain⟨fs,i,q⟩:=i;split at j;rename_i cs G;rw[G]at l;obtain⟨J,h,H,s,z⟩:=Yd l;obtain⟨v,F,k⟩:=yc j;obtain⟨y,u,c⟩:=jef (P:=P) (w:=w) (γ:=γ) (I:=I) B F H s z;refine jc m p ?_ c k;simp only[execOp,r,h,Instr.field,asAgg,aB,run_underlying i,ak,q,aG,u];cases j
def jyi (p:R E w0 I0 nt γ I st a w) (z:∀d,o.dst=some d->d<nt) {t e:TypeId}{x i:Operand}{r u:A}{len n:Nat}{g:Option Nat}(G:o.op=.index t x i) (L:opd x=some r) (hi:opd i=some u) (J:P.underlying t=some (.array len e))
 (M:QY P e=some n) (D:jf4 P e=some g)
 (c:(match ye E st.tm r,ye E st.tm u with
  | .agg cs,.int _ i=>if 0<=i/\i<len then (Xz g cs (i.toNat*n)).bind one else none
  |_,_=>none)=some δ):XY P E w0 I0 nt γ I st a w o ub δ:=by
 have s:=jD p L;have f:=jD p hi;split at c;rename_i cs k j O q;rw[O]at s;rw[q]at f;have l:=JE f;obtain⟨S,h,F,B,K⟩:=Yd s;split at c;rename_i Q;obtain⟨v,N,m⟩:=yc c;obtain⟨y,H,b⟩:=jef (P:=P) (w:=w) (γ:=γ) (I:=I) D N F B K;refine jc p z ?_ b m;simp only[execOp,G,h,l,Instr.index,asIntOf,aB,run_underlying J,ak,aG,Q,and_self,zd,jr M,H];cases c;cases c
def jyj (m:R E w0 I0 nt γ I st a w) (y:∀d,o.dst=some d->d<nt) {t:TypeId}{x i:Operand}{v u:A}(z:o.op=.index t x i) (D:opd x=some v) (hi:opd i=some u) (B:P.underlying t=some .string)
 (c:(match ye E st.tm v,ye E st.tm u with
  | .str s,.int _ i=>if 0<=i then (s[i.toNat]?).bind λb=>one (.int .u8 b.toNat) else none
  |_,_=>none)=some δ):XY P E w0 I0 nt γ I st a w o ub δ:=by
 have q:=jD m D;have e:=jD m hi;split at c;rename_i s k j G n;rw[G]at q;rw[n]at e;have l:=JE e;obtain⟨h,f,rfl⟩:=XU q;split at c;rename_i H;obtain⟨b,r,p⟩:=yc c;refine jc m y (x:=.int .u8 b.toNat) ?_ (.pure _ _ (.int _ _)) p;have g:j.toNat<h.size:=by have:=(aj.1 r).1;simpa using this
 have F:h[j.toNat]? = some b:=by have J:=(aj.1 r).2;rw[getElem?_pos h j.toNat g];congr 1
 simp only[execOp,z,f,l,Instr.index,asIntOf,aB,run_underlying B,ak,aG,H,zd,F];cases c;cases c
def jum (l:R E w0 I0 nt γ I st a w) (n:∀d,o.dst=some d->d<nt) {x:Operand}{m:A}{i:Nat}(p:o.op=.extract x i) (r:opd x=some m)
 (e:(match ye E st.tm m with
  | .tup j=>(j[i]?).bind one
  |_=>none)=some δ):XY P E w0 I0 nt γ I st a w o ub δ:=by
 have g:=jD l r;split at e;rename_i j s;rw[s]at g;obtain⟨h,c,t,q⟩:=j93 g;obtain⟨v,k,f⟩:=yc e;have b:i<h.size:=by have:=(aj.1 k).1;omega
 refine jc l n (x:=h[i]) ?_ (q i _ _ (aA b) k) f;simp only[execOp,p,c,Instr.extract,aA b,aB,aG,ak];cases e
def QH (g:R E w0 I0 nt γ I st a w) {xs:Array Operand}{ys:List A}(h:opds xs=some ys):(xs.map a.eval).size=(ys.map (ye E st.tm)).length /\
 ∀(j:Nat) (x:Value) (v:V),(xs.map a.eval)[j]? = some x->(ys.map (ye E st.tm))[j]? = some v->Rep γ I x v:=by
 obtain⟨i,e⟩:=JA h;refine⟨by simpa using i.symm,λj x v b c=>?_⟩;simp only[Array.getElem?_map,aV,bn]at b c;obtain⟨p,d,rfl⟩:=b;obtain⟨q,f,rfl⟩:=c;exact jD g (e j p q (by simpa using d) f)
def j8s (e:R E w0 I0 nt γ I st a w) (g:∀d,o.dst=some d->d<nt) {f:Fn}{xs ys:Array Operand}{c b:List A}(h:o.op=.makeFunc f xs ys) (p:opds xs=some c) (j:opds ys=some b)
 (i:one (.fn f (c.map (ye E st.tm)) (b.map (ye E st.tm)))=some δ):XY P E w0 I0 nt γ I st a w o ub δ:=by
 obtain⟨m,k⟩:=QH e p;obtain⟨n,l⟩:=QH e j;exact jc e g (x:=.func f (xs.map a.eval) (ys.map a.eval)) (by simp only[execOp,h,Instr.makeFunc,aB,aG,ak]) (.fn _ _ _ _ _ m n k l) i
def j27 (c:R E w0 I0 nt γ I st a w) (f:∀d,o.dst=some d->d<nt) {t:TypeId}{x:Operand}{e:A}{d:TypeDesc}(h:o.op=.makeInterface t x) (k:opd x=some e) (j:P.underlying t=some d) (b:∀g,d≠.interface g)
 (i:one (.iface t (ye E st.tm e))=some δ):XY P E w0 I0 nt γ I st a w o ub δ:=by
 refine jc c f (x:=.iface t (a.eval x)) ?_ (.iface _ _ _ (jD c k)) i;simp only[execOp,h,Instr.makeInterface,aB,run_underlying j,ak];cases d<;>first|rfl|(exact zf rfl (b _))
def j8v (f:R E w0 I0 nt γ I st a w) (h:∀d,o.dst=some d->d<nt) {s t:TypeId}{x:Operand}{g:A}{k q:IntKind}(i:o.op=.convert s t x) (m:opd x=some g) (l:P.underlying s=some (.int q)) (j:P.underlying t=some (.int k))
 (c:(match ye E st.tm g with
  | .int _ n=>one (.int k (k.wrap n))
  |_=>none)=some δ):XY P E w0 I0 nt γ I st a w o ub δ:=by
 have e:=jD f m;split at c;rename_i p;rw[p]at e;have b:=JE e;refine jc f h (x:=.int k _) ?_ (.pure _ _ (.int _ _)) c;simp only[execOp,i,b,convert,aB,run_underlying l,run_underlying j,ak,Conv.intToInt,aG];cases c
def jyl (g:R E w0 I0 nt γ I st a w) (i:∀d,o.dst=some d->d<nt) {s t:TypeId}{x:Operand}{h:A}(j:o.op=.convert s t x) (m:opd x=some h) (l:P.underlying s=some .string) (k:P.underlying t=some .string)
 (f:(match ye E st.tm h with
  | .str s=>one (.str s)
  |_=>none)=some δ):XY P E w0 I0 nt γ I st a w o ub δ:=by
 have e:=jD g m;split at f;rename_i n;rw[n]at e;have c:=e;obtain⟨p,b,rfl⟩:=XU e;refine jc g i (x:=a.eval x) ?_ c f;simp only[execOp,j,b,convert,aB,run_underlying l,run_underlying k,ak,aG];cases f
def Wn {isS:Bool}{len cap c:Nat}{lo hi:Option Value}{f g:Option V}{l h:Nat}(d:Js len cap f g=some (l,h)) (F:cap<=c)
 (t:∀v,f=some v->∃x,lo=some x/\Rep γ I x v) (p:f=none->lo=none) (u:∀v,g=some v->∃x,hi=some x/\Rep γ I x v) (m:g=none->hi=none) :
 (Instr.sliceBounds isS len c lo hi none).run P w=.ok (l,h,c) w/\l<=h/\(h<=cap\/h=len):=by
 unfold Js at d;obtain⟨i,e,d⟩:=yc d;have j:((hi=none/\len=i)\/∃x,hi=some x/\∀b,(Instr.sliceBound x c b).run P w=.ok i w)/\(i<=cap\/i=len):=by
  cases g with
  |none=>simp only[ae]at e;exact⟨.inl ⟨m rfl,e⟩,.inr e.symm⟩
  |some v=>
   obtain⟨x,rfl,s⟩:=u v rfl;cases v with
   |int k n=>have:=JE s;subst this;simp only at e;split at e;rename_i r;simp only[ae]at e;subst e;exact⟨.inr ⟨_,rfl,λb=>run_sliceBound w k n c b r.1 zO⟩,.inl zO⟩;cases e
   |_=>simp only[reduceCtorEq]at e
 have q:((lo=none/\l=0)\/∃x,lo=some x/\∀b,(Instr.sliceBound x i b).run P w=.ok l w)/\l<=i/\i=h:=by
  cases f with
  |none=>simp only[ae,bZ]at d;obtain⟨rfl,rfl⟩:=d;exact⟨.inl ⟨p rfl,rfl⟩,ch _,rfl⟩
  |some v=>
   obtain⟨x,rfl,s⟩:=t v rfl;cases v with
   |int k n=>have:=JE s;subst this;simp only at d;split at d;rename_i r;simp only[ae,bZ]at d;obtain⟨rfl,rfl⟩:=d;exact⟨.inr ⟨_,rfl,λb=>run_sliceBound w k n i b r.1 r.2⟩,zO,rfl⟩;cases d
   |_=>simp only[reduceCtorEq]at d
 obtain⟨z,B,rfl⟩:=q;refine⟨?_,B,j.2⟩;unfold Instr.sliceBounds;rcases j.1 with⟨rfl,rfl⟩|⟨x,rfl,D⟩<;>rcases z with⟨rfl,rfl⟩|⟨y,rfl,G⟩<;>simp[*]
end
section
variable {P:Program}{E:Env}{w0 w:World}{I0:IMap}{nt:Nat}{γ:Nat->Option Place}{I:IMap}{st:St}{a:Act}{o:Oper}{ub:Nat}{δ:Delta}
def YG (e:R E w0 I0 nt γ I st a w) {x:Option Operand}{c:Option A}(h:Wh x=some c) :
 (∀v,c.map (ye E st.tm)=some v->∃y,x.map a.eval=some y/\Rep γ I y v)/\(c.map (ye E st.tm)=none->x.map a.eval=none):=by
 unfold Wh at h;cases x with
 |none=>cases h;exact⟨λv b=>(by cases b),λ_=>rfl⟩
 |some x=>obtain⟨y,d,rfl⟩:=yh h;refine⟨λv b=>?_,λb=>(by cases b)⟩;simp only[aU,ae]at b;subst b;exact⟨_,rfl,jD e d⟩
def j22 (f:R E w0 I0 nt γ I st a w) (p:∀d,o.dst=some d->d<nt) {t:TypeId}{x:Operand}{n:A}{lo hi:Option Operand}{lo' hi':Option A}(u:o.op=.slice t x lo hi none) (B:opd x=some n) (v:Wh lo=some lo') (y:Wh hi=some hi')
 (z:P.underlying t=some .string)
 (i:(match ye E st.tm n with
  | .str s=>(Js s.length s.length (lo'.map (ye E st.tm)) (hi'.map (ye E st.tm))).bind λ(l,h)=>one (.str ((s.take h).drop l))
  |_=>none)=some δ):XY P E w0 I0 nt γ I st a w o ub δ:=by
 have k:=jD f B;split at i;rename_i s F;rw[F]at k;obtain⟨e,g,rfl⟩:=XU k;obtain⟨⟨l,h⟩,m,j⟩:=yc i;have c:e.data.toList.length=e.size:=zS;rw[c]at m;obtain⟨H,q⟩:=YG f v;obtain⟨G,r⟩:=YG f y;obtain⟨b,D,_⟩:=Wn (P:=P) (w:=w) (γ:=γ) (I:=I) (isS:=false) m zK H q G r;refine jc f p (x:=.string (e.extract l h)) ?_ ?_ j;simp only[execOp,u,g,Instr.sliceAt,Instr.slice,aB,run_underlying z,ak,eC,cM,ah,zc,b,aG];have:(e.data.toList.take h).drop l=(e.extract l h).data.toList:=by rw[ByteArray.data_extract];simp[gp]
 rw[this];exact .pure _ _ (.str _);cases i
def j7o {i:Addr}{n cap sz l h:Nat}{cs:List V}{xs:Nat->Value}(x:cs.length=n*sz) (D:cs≠[]->i.spot=none) (J:n<=cap) (H:cap<=maxLen)
 (hi:∀j,j<cs.length->I i.block (i.off+j)=some (xs j)) (z:∀(j:Nat) (v:V),cs[j]? = some v->v.pureLeaf=true) (B:∀(j:Nat) (v:V),cs[j]? = some v->RepP I (xs j) v)
 (y:l<=h) (u:h<=n):RepP I (.slice (some (if cap=l then i else i.add (l*sz))) (h-l) (cap-l)) (.sl none false (h-l) ((cs.take (h*sz)).drop (l*sz))):=by
 have r:((cs.take (h*sz)).drop (l*sz)).length=(h-l)*sz:=by
  have:h*sz<=n*sz:=bf _ u
  simp only[aY,ai,Nat.sub_mul]
  omega
 have g:∀(j:Nat) (v:V),((cs.take (h*sz)).drop (l*sz))[j]? = some v->cs[l*sz+j]? = some v:=by
  intro j v f
  rw[bC,cN]at f
  split at f
  ·exact f
  ·cases f
 -- where nothing lies behind,there is no cell
 have d:(cs.take (h*sz)).drop (l*sz)≠[]->cap≠l/\i.spot=none:=by
  intro d
  have c:0<((cs.take (h*sz)).drop (l*sz)).length:=dT.2 d
  refine⟨λe=>?_,D (λe=>?_)⟩
  ·have p:h-l=0:=zO
   rw[r,p,dE]at c
   omega
  ·rw[e]at c
   simp at c
 refine .sl _ _ _ _ (λj=>xs (l*sz+j)) ?_ zO zO (λj t=>?_) (λj v f=>z _ _ (g j v f)) (λj v f=>B _ _ (g j v f))
 ·intro s
  obtain⟨q,k⟩:=d s
  rw[za q]
  unfold Addr.add
  split
  ·exact k
  ·rfl
 ·have s:(cs.take (h*sz)).drop (l*sz)≠[]:=by
   intro e
   rw[e]at t
   simp at t
  obtain⟨q,k⟩:=d s
  rw[za q]
  obtain⟨b,off,F⟩:=i
  simp only at k
  subst k
  rw[Xe]
  simp only at hi ⊢
  rw[aI]
  have m:l*sz+j<cs.length:=by
   have:h*sz<=n*sz:=bf _ u
   have G:l*sz<=h*sz:=bf _ y
   simp only[aY,ai]at t
   omega
  exact hi _ m
def jhj {len:Nat}{lo hi:Option V}{l h:Nat}(b:Js len len lo hi=some (l,h)):h<=len:=by
 unfold Js at b;obtain⟨d,c,b⟩:=yc b;have e:d<=len:=by split at c;split at c;rename_i f;simp only[ae]at c;omega;cases c;cases c;simp only[ae]at c;omega
 split at b;split at b;simp only[ae,bZ]at b;omega;cases b;cases b;simp only[ae,bZ]at b;omega
def j8p (s:R E w0 I0 nt γ I st a w) (H:∀d,o.dst=some d->d<nt) {t e:TypeId}{x:Operand}{x':A}{lo hi:Option Operand}{lo' hi':Option A}{n:Nat}(T:o.op=.slice t x lo hi none) (hx:opd x=some x') (hl:Wh lo=some lo') (hh:Wh hi=some hi')
 (U:P.underlying t=some (.slice e)) (X:QY P e=some n)
 (j:(match ye E st.tm x' with
  | .sl _ nl m cs=>if cs.length=m*n then (Js m m (lo'.map (ye E st.tm)) (hi'.map (ye E st.tm))).bind λ(l,h)=>one (.sl none nl (h-l) ((cs.take (h*n)).drop (l*n))) else none
  | .osl q u off m k=>if k=n then (Js m m (lo'.map (ye E st.tm)) (hi'.map (ye E st.tm))).bind λ(l,h)=>one (.osl q u (off+l*n) (h-l) n) else none
  |_=>none)=some δ):XY P E w0 I0 nt γ I st a w o ub δ:=by
 have G:=jD s hx;obtain⟨N,Q⟩:=YG s hl;obtain⟨L,J⟩:=YG s hh;split at j;rename_i tk nl m cs Z;rw[Z]at G;split at j;rename_i z;obtain⟨⟨l,h⟩,r,i⟩:=yc j;have y:=jhj r;rcases YX G with⟨g,_,rfl,rfl,rfl⟩|⟨B,f,xs,g,rfl,hs,F,hm,h1,h2,h3,_⟩;obtain⟨c,p,_⟩:=Wn (P:=P) (w:=w) (γ:=γ) (I:=I) (isS:=true) r zK N Q L J;have S:h=0:=zO;have K:l=0:=zO;subst S;subst K;refine jc s H (x:=.slice none 0 0) ?_ (by simpa using Rep.pure (γ:=γ) _ _ (RepP.slnil (I:=I))) i;simp only[execOp,T,g,Instr.sliceAt,Instr.slice,aB,run_underlying U,ak,eC,c,jr X,aG,zd];obtain⟨c,p,_⟩:=Wn (P:=P) (w:=w) (γ:=γ) (I:=I) (isS:=true) r F N Q L J;refine jc s H (x:=.slice (some (if f=l then B else B.add (l*n))) (h-l) (f-l)) ?_ (.pure _ _ (j7o z hs F hm h1 h2 h3 p y)) i;simp only[execOp,T,g,Instr.sliceAt,Instr.slice,aB,run_underlying U,ak,eC,c,jr X,aG];split<;>rfl;cases j;rename_i q u off m k Z;rw[Z]at G;split at j;rename_i O;subst O;obtain⟨⟨l,h⟩,r,i⟩:=yc j;have y:=jhj r;obtain⟨b,kb,B,f,M,g,a0,F,hm⟩:=YC G;obtain⟨c,p,_⟩:=Wn (P:=P) (w:=w) (γ:=γ) (I:=I) (isS:=true) r F N Q L J;refine jc s H (x:=.slice (some (if f=l then B else B.add (l*k))) (h-l) (f-l)) ?_ (.osl _ _ _ _ _ _ b kb _ M (λb0=>?_) zO zO) i;simp only[execOp,T,g,Instr.sliceAt,Instr.slice,aB,run_underlying U,ak,eC,c,jr X,aG];split<;>rfl;obtain⟨v,D⟩:=a0 zO;subst v;rw[za zO,Xe];refine⟨rfl,?_⟩;rw[aI,<- Nat.add_mul,show l+(f-l)=f by omega];exact D;cases j;cases j
def j23 (i:R E w0 I0 nt γ I st a w) (B:∀d,o.dst=some d->d<nt) {t e:TypeId}{x:Operand}{s:A}{lo hi:Option Operand}{lo' hi':Option A}{len n:Nat}(K:o.op=.slice t x lo hi none) (O:opd x=some s) (L:Wh lo=some lo') (M:Wh hi=some hi')
 (N:P.underlying t=some (.array len e)) (v:len<=maxLen) (Q:QY P e=some n)
 (c:(match ye E st.tm s with
  | .ptr q u off=>(j0 st.ob q u).bind λcs=>if off+len*n<=cs.length then (Js len len (lo'.map (ye E st.tm)) (hi'.map (ye E st.tm))).bind λ(l,h)=>one (.osl q u (off+l*n) (h-l) n) else none
  |_=>none)=some δ):XY P E w0 I0 nt γ I st a w o ub δ:=by
 have z:=jD i O;obtain⟨H,J⟩:=YG i L;obtain⟨F,D⟩:=YG i M;split at c
 ·rename_i q u off T;rw[T]at z;obtain⟨b,X,f,j⟩:=W5 z;obtain⟨cs,m,c⟩:=yc c;split at c;case isFalse=>cases c
  rename_i y;obtain⟨_,_,_,_,U,_⟩:=Qu i (ji m) f;obtain⟨⟨l,h⟩,p,k⟩:=yc c;have G:=jhj p;obtain⟨g,S,_⟩:=Wn (P:=P) (w:=w) (γ:=γ) (I:=I) (isS:=false) p zK H J F D;refine jc i B (x:=.slice (some (if len=l then ⟨b,off,none⟩ else (⟨b,off,none⟩:Addr).add (l*n))) (h-l) (len-l)) ?_ (.osl _ _ _ _ _ _ b X _ f (λr=>?_) zO zO) k;simp only[execOp,K,j,Instr.sliceAt,Instr.sureAddr,aB,run_underlying N,ak,eC,g,jr Q,aG];rw[za zO,Xe];refine⟨rfl,?_⟩;rw[aI,<- Nat.add_mul,show l+(len-l)=len by omega];omega
 cases c
def jyg (f:R E w0 I0 nt γ I st a w) (j:∀d,o.dst=some d->d<nt) {t:TypeId}{x:Operand}{i:A}{b:Array TypeId}(k:o.op=.call { callee:=.builtin .len,args:=#[x],argTypes:=b }) (p:opd x=some i) (n:b[0]? = some t) (m:P.underlying t=some .string)
 (e:(match ye E st.tm i with
  | .str s=>one (.int .i64 s.length)
  |_=>none)=some δ):XY P E w0 I0 nt γ I st a w o ub δ:=by
 have g:=jD f p;split at e;rename_i l;rw[l]at g;obtain⟨h,c,rfl⟩:=XU g;refine jc f j (x:=.int .i64 h.size) ?_ (by simpa using Rep.pure (γ:=γ) (I:=I) _ _ (RepP.int .i64 (h.size:Int))) e;simp only[execOp,k,resolve,aB,aG,ak,invoke,builtin,db,bc,co,c,Builtin.len_,n];simp[run_underlying m,goInt];cases e
def j26 (l:R E w0 I0 nt γ I st a w) (p:∀d,o.dst=some d->d<nt) {t e:TypeId}{x:Operand}{m:A}{g:Array TypeId}(q:o.op=.call { callee:=.builtin .len,args:=#[x],argTypes:=g }) (u:opd x=some m) (s:g[0]? = some t) (r:P.underlying t=some (.slice e))
 (f:(match ye E st.tm m with
  | .sl _ _ n _=>one (.int .i64 n)
  | .osl _ _ _ n _=>one (.int .i64 n)
  |_=>none)=some δ):XY P E w0 I0 nt γ I st a w o ub δ:=by
 have h:=jD l u;have go:∀(k:Option Addr) (n c:Nat),a.eval x=.slice k n c->one (.int .i64 n)=some δ->XY P E w0 I0 nt γ I st a w o ub δ:=by intro k n c b j;refine jc l p (x:=.int .i64 n) ?_ (.pure _ _ (.int _ _)) j;simp only[execOp,q,resolve,aB,aG,ak,invoke,builtin,db,bc,co,b,Builtin.len_,s];simp[run_underlying r,goInt]
 split at f;rename_i i;rw[i]at h;rcases YX h with⟨b,_,_,rfl,_⟩|⟨k,c,v,b,_⟩;exact go _ _ _ b f;exact go _ _ _ b f;rename_i i;rw[i]at h;obtain⟨_,_,_,_,_,b,_⟩:=YC h;exact go _ _ _ b f;cases f
def jyh (n:R E w0 I0 nt γ I st a w) (B:∀d,o.dst=some d->d<nt) {t k e:TypeId}{x:Operand}{G:A}{h:Array TypeId}(H:o.op=.call { callee:=.builtin .len,args:=#[x],argTypes:=h }) (N:opd x=some G) (F:h[0]? = some t) (J:P.underlying t=some (.map k e))
 (j:(match ye E st.tm G with
  | .nilmap=>one (.int .i64 0)
  | .map l u=>(jY st.ob l u).bind λv=>one (.int .i64 v.length)
  |_=>none)=some δ):XY P E w0 I0 nt γ I st a w o ub δ:=by
 have i:=jD n N;split at j;rename_i z;rw[z]at i;have c:=Xo i;refine jc n B (x:=.int .i64 0) ?_ (.pure _ _ (.int _ _)) j;simp only[execOp,H,resolve,aB,aG,ak,invoke,builtin,db,bc,co,c,Builtin.len_,F];simp[run_underlying J,goInt];rename_i z;rw[z]at i;obtain⟨b,kb,r,c⟩:=QL i;obtain⟨v,y,s⟩:=yc j;have q:=XO y;obtain⟨Z,g⟩:=n.own;obtain⟨Q,M,D,X,S,O,T⟩:=g.ob _ _ q;rw[r]at D;cases D;obtain⟨m,f,L,p,U⟩:=O;have p:m.size=v.length:=by rw[<- p.1,aL]
 refine jc n B (x:=.int .i64 m.size) ?_ (by rw[p];exact .pure _ _ (.int _ _)) s;have K:(getObj b).run P w=.ok (.map m f) w:=by simp[getObj,Sem.run,L]
 simp only[execOp,H,resolve,aB,aG,ak,invoke,builtin,db,bc,co,c,Builtin.len_,F];simp[run_underlying J,goInt,K];cases j
end
section
variable {P:Program}{E:Env}{w0 w:World}{I0:IMap}{nt:Nat}{γ:Nat->Option Place}{I:IMap}{st:St}{a:Act}{o:Oper}{ub:Nat}{δ:Delta}
def jtb (γ:Nat->Option Place) (I:IMap) (xs:Array Value) (cs:List V):Prop :=
 xs.size=cs.length/\∀(j:Nat) (x:Value) (v:V),xs[j]? = some x->cs[j]? = some v->v.leaf=true/\Rep γ I x v
def jnn (off:Nat):∀(vs:List Value) (k:Nat) (cells:Array Value),off+k+vs.length<=cells.size ->
 ((vs.zipIdx k).foldl (λcs (c:Value×Nat)=>cs.setIfInBounds (off+c.2) c.1) cells).size=cells.size /\
 ∀j,((vs.zipIdx k).foldl (λcs (c:Value×Nat)=>cs.setIfInBounds (off+c.2) c.1) cells)[j]? = if off+k<=j/\j<off+k+vs.length then vs[j-(off+k)]? else cells[j]?
 |[],k,cells,_=>by simp only[List.zipIdx_nil,List.foldl_nil,ct,bp];refine⟨trivial,λj=>?_⟩;rw[za zO]
 |v::vs,k,cells,h=>by simp only[bh]at h;simp only[List.zipIdx_cons,eU];obtain⟨g,f⟩:=jnn off vs (k+1) (cells.setIfInBounds (off+k) v) (by simp only[fJ];omega);refine⟨by rw[g];simp,λj=>?_⟩;rw[f j];simp only[bh];by_cases d:j=off+k;subst d;rw[za zO,zb zO];have:off+k<cells.size:=zO;simp[this];by_cases b:off+(k+1)<=j/\j<off+(k+1)+vs.length;rw[zb b,zb zO];have:j-(off+k)=(j-(off+(k+1)))+1:=zO;rw[this,bS];rw[za b,za zO,dS (λe=>d e.symm)]
def jfb (t:R E w0 I0 nt γ I st a w) {d:Nat->Option (Nat×Nat)}:∀{ps:List (Nat×Operand)}{l:List (Nat×Nat×A)}{cells:Array Value}{cs e:List V},
 ps.mapM (λ(p:Nat×Operand)=>(d p.1).bind λq=>(opd p.2).map λa=>(q.1,q.2,a))=some l->jtb γ I cells cs->fill cs (JB (ye E st.tm) l)=some e ->
 ∃b,Instr.fill d cells (ps.map λp=>(p.1,a.eval p.2))=some b/\jtb γ I b e
 |[],l,cells,cs,e,h,hr,hf=>by simp at h;subst h;simp only[JB,co,fill,ae]at hf;subst hf;exact⟨cells,rfl,hr⟩
 |p::ps,l,cells,cs,e,h,hr,hf=>by
  simp only[bP]at h;cases g:d p.1 with
  |none=>simp[g]at h
  |some q=>
   cases k:opd p.2 with
   |none=>simp[g,k]at h
   |some y=>
    cases n:ps.mapM (λ(p:Nat×Operand)=>(d p.1).bind λq=>(opd p.2).map λa=>(q.1,q.2,a)) with
    |none=>simp[g,k,n]at h
    |some K=>
     simp[g,k,n]at h;subst h;simp only[JB,bc,fill]at hf;split at hf;rename_i H;obtain⟨M,J,B⟩:=H;obtain⟨L,u⟩:=jhh (jD t k) B;have r:(a.eval p.2).cells.size=q.2:=zO;obtain⟨F,D⟩:=jnn q.1 (a.eval p.2).cells.toList 0 cells (by have:=hr.1;simp only[bp,aL];omega);have m:jtb γ I ((a.eval p.2).cells.zipIdx.foldl (λcs (c:Value×Nat)=>cs.setIfInBounds (q.1+c.2) c.1) cells) (j6 cs q.1 (ye E st.tm y).cells):=by rw[<- Array.foldl_toList,Array.toList_zipIdx];refine⟨by rw[F,Q9 _ _ _ zO];exact hr.1,λj x v f i=>?_⟩;rw[D j]at f;rw[jdl _ _ _ zO]at i;simp only[bp,aL]at f;by_cases s:q.1<=j/\j<q.1+(ye E st.tm y).cells.length;rw[zb zO]at f;rw[zb s]at i;exact u _ x v (by simpa using f) i;rw[za zO]at f;rw[za s]at i;exact hr.2 j x v f i
     obtain⟨b,G,z⟩:=jfb t n m hf;refine⟨b,?_,z⟩;simp only[bc,Instr.fill,g];rw[za];exact G;have:=hr.1;simp only[r,ne_eq,not_true_eq_false,decide_false,bQ,ze,gt_iff_lt];omega;cases hf
def QS {b:Nat->Option (Nat×Nat)}{ps:Array (Nat×Operand)}{l:List (Nat×Nat×A)}(h:WD b ps=some l) :
 ps.toList.mapM (λ(p:Nat×Operand)=>(b p.1).bind λq=>(opd p.2).map λa=>(q.1,q.2,a))=some l:=h
def jrx (M:R E w0 I0 nt γ I st a w) (N:∀d,o.dst=some d->d<nt) {t:TypeId}{ps:Array (Nat×Operand)}{l:List (Nat×Nat×A)}{zs:List V}{g:Nat->Option (Nat×Nat)}(T:o.op=.build t ps) (Q:Wj P t=some zs)
 (B:(∃fs c,P.underlying t=some (.struct fs)/\fs.toList.mapM (λf=>(P.info? f.type).map λi=>(f.offset,i.size))=some c/\g=(c.toArray[·]?)) \/
  (∃n e s,P.underlying t=some (.array n e)/\QY P e=some s/\g=λi=>some (i*s,s)))
 (U:WD g ps=some l) (X:((fill zs (JB (ye E st.tm) l)).bind λcs=>one (.agg cs))=some δ):XY P E w0 I0 nt γ I st a w o ub δ:=by
 obtain⟨cs,G,D⟩:=yc X;obtain⟨i,z,L,m,q,h⟩:=Yo (I:=I) Q;obtain⟨b,J,r⟩:=jfb M (QS U) ⟨q.symm,λj x v u k=>⟨(h j x v u k).1,.pure _ _ (h j x v u k).2⟩⟩ G;have O:P.built t (ps.map λ(p:Nat×Operand)=>(p.1,a.eval p.2)).toList=some b:=by unfold Program.built;rcases B with⟨fs,c,F,S,rfl⟩|⟨n,e,s,F,K,rfl⟩;simp only[L,F,m,S,fT];exact J;unfold QY at K;obtain⟨Z,H,rfl⟩:=yh K;simp only[L,F,m,H,fT];exact J
 refine jc M N (x:=.agg b) ?_ (.agg _ _ r.1 (λj v k=>?_) (λj x v u k=>(r.2 j x v u k).2)) D;simp only[execOp,T,aB,run_build w t _ b O,ak,aG];have y:j<b.size:=by have:=(aj.1 k).1;have:=r.1;omega
 exact(r.2 j _ v (aA y) k).1
def jfp (v:V):v.strip1.leaf=v.leaf:=by cases v<;>rfl
def Wb {x:Value}{v:V}(h:Rep γ I x v) (hp:v.strip1.pureLeaf=true):RepP I x v.strip1:=by
 cases v with
 |sl t s n cs=>rcases YX h with⟨rfl,rfl,rfl,rfl,rfl⟩|⟨u,p,r,rfl,rfl,m,f,g,l,q,i,_⟩;exact .slnil;exact .sl _ _ _ _ _ m f g l q i
 |iface t v=>
  cases h with
  |pure _ _ h=>exact h
  |iface _ x _ d=>
   refine .iface _ _ _ ?_;cases v with
   |agg cs=>
    cases cs with
    |nil=>
     cases d with
     |pure _ _ h=>exact h
     |agg _ _ b e d=>exact .agg _ _ b e (λj x v _ k=>by simp at k)
    |cons c cs=>simp[V.strip1,V.pureLeaf]at hp
   |_=>simp[V.strip1,V.pureLeaf]at hp<;>(cases d;assumption)
 |_=>first|(cases h<;>assumption)|(exfalso;revert hp;simp[V.strip1,V.pureLeaf];done)
def je2 {z:Value}{zs:List V}(d:zs.length=z.cells.size) (u:∀(j:Nat) (x:Value) (v:V),z.cells[j]? = some x->zs[j]? = some v->v.leaf=true/\RepP I x v) (n:Nat) (p:n*zs.length=0\/0<zs.length) :
 jtb γ I ((Array.range (n*zs.length)).map (z.cells[· % z.cells.size]!)) (ja8 n zs):=by
 refine⟨by simp[ja8],λj x v l m=>?_⟩;simp only[ja8,aV,bn]at m;obtain⟨b,e,rfl⟩:=m;have c:j<n*zs.length:=by have:=(aj.1 e).1;simpa using this
 have i:b=j:=by rw[dp c]at e;exact(cm e).symm
 subst i;have g:0<zs.length:=by rcases p with h|h<;>omega
 have k:b % zs.length<zs.length:=ip _ g;have f:b % z.cells.size<z.cells.size:=by rw[<- d];exact k
 have q:x=z.cells[b % z.cells.size]:=by simp[c]at l;rw[<- l];simp[f]
 have y:zs.getD (b % zs.length) .undef=zs[b % zs.length]:=by simp[List.getD,k]
 rw[y,q];have r:zs[b % zs.length]? = some zs[b % zs.length]:=aa k;have B:z.cells[b % zs.length]? = some z.cells[b % z.cells.size]:=by
  have:b % zs.length=b % z.cells.size:=by rw[d]
  rw[this];exact aA f
 obtain⟨s,t⟩:=u _ _ _ B r;exact⟨s,.pure _ _ t⟩
def jun (S:R E w0 I0 nt γ I st a w) (hd:∀d,o.dst=some d->d<nt) (hf:γ ub=none) {t e:TypeId}{ps:Array (Nat×Operand)}{l:List (Nat×Nat×A)}{zs:List V}{n s:Nat}(ho:o.op=.buildSlice t n ps)
 (hu:P.underlying t=some (.slice e)) (J:QY P e=some s) (hz:Wj P e=some zs) (O:zs.length=s) (B:0<s) (b0:n*s<=16777216) (hl:WD (λi=>some (i*s,s)) ps=some l)
 (ha:((fill (ja8 n zs) (JB (ye E st.tm) l)).bind λcs=>
  if cs.length=n*s/\(cs.map V.strip1).all V.pureLeaf=true then some { v:=V.sl (some (ub,s)) false n (cs.map V.strip1),add:=[ub] } else none)=some δ):XY P E w0 I0 nt γ I st a w o ub δ:=by
 obtain⟨cs,N,r⟩:=yc ha;split at r;rename_i M;obtain⟨i,z,X,L,F,g⟩:=Yo (I:=I) hz;subst O;obtain⟨c,h1,K⟩:=jfb S (QS hl) (je2 (γ:=γ) (I:=I) F g n (.inr B)) N;have D:n<=maxLen:=by have:n<=n*zs.length:=fL n B;simp only[maxLen];omega
 refine jqx S hd hf (b:=w.heap.size) (n:=n) (cap:=n) (sz:=zs.length) (cs:=cs.map V.strip1) (w':=w.alloc (.cells c e)) (del:=none) (arr:=c) (e:=e)
  ?_ (.inl ⟨rfl,zS⟩) ⟨rfl,rfl,rfl⟩ (λk hk _=>heap_alloc_old _ _ _ hk) (heap_alloc_new _ _) (by rw[K.1,M.1]) zK D ?_ (by simpa using M.1) ?_ r
 have a0:i.size=zs.length:=by unfold QY at J;rw[X]at J;exact cm J
 have H:¬(n*zs.length > 16777216):=zO;have q:Instr.fill (λi=>some (i*zs.length,zs.length)) ((Array.range (n*zs.length)).map (z.cells[· % z.cells.size]!)) ((ps.map λ(p:Nat×Operand)=>(p.1,a.eval p.2)).toList)=some c:=by rw[fT];exact h1
 have G:(Instr.buildSlice t n (ps.map λ(p:Nat×Operand)=>(p.1,a.eval p.2))).run P w=.ok (.slice (some ⟨w.heap.size,0,none⟩) n n) (w.alloc (.cells c e)):=by
  unfold Instr.buildSlice;simp only[aB,run_underlying hu,ak,jr J,Nat.reducePow,H,zc];by_cases T:n*zs.length=0;have Q:n=0:=by rcases eR.1 T with h|h<;>omega
  subst Q;have Z:∀f:Nat->Value,(Array.range 0).map f=#[]:=λf=>by simp[Array.range]
  simp only[dE,Z]at q;simp only[dE,zd,Z,q];simp[newRow];simp only[T,zc,aB,JO X L,ak,aG,q];simp[newRow]
 simp only[execOp,ho,aB,G,ak,aG];intro j x hx;exact zf (bT _ _ (S.imm _ _ _ hx)) (ey _);intro j v hv;simp only[aV,bn]at hv;obtain⟨u,m,rfl⟩:=hv;have U:u.strip1.pureLeaf=true:=av.1 M.2 _ (aE.2 ⟨u,aH m,rfl⟩);have y:j<c.size:=by have:=(aj.1 m).1;have:=K.1;omega
 have:=(K.2 j _ u (aA y) m).2;exact⟨U,_,aA y,Wb this U⟩;cases r
end
section
variable {P:Program}{E:Env}{w0 w:World}{I0:IMap}{nt:Nat}{γ:Nat->Option Place}{I:IMap}{st:St}{a:Act}{o:Oper}{ub:Nat}{δ:Delta}
def YI {v:V}(h:v.pureLeaf=true):v.strip1=v:=by
 cases v<;>first|rfl|skip
 rename_i t b n cs;cases t with
 |none=>rfl
 |some u=>simp[V.pureLeaf]at h
def RepP.oneCell {x:Value}{v:V}(h:RepP I x v) (b:v.pureLeaf=true):x.oneCell'=true :=
 (Rep.pure (γ:=λ_=>none) x v h).oneCell (by cases v<;>first|rfl|(simp[V.pureLeaf]at b))
def jkc (hR:R E w0 I0 nt γ I st a w) {X:Value}{U:V}{sz:Nat}{ys:List V}(Z:Rep γ I X U) (p:jF st.ob sz U=some ys) (hp:ys.all V.leaf=true) (a0:0<sz) :
 (X=.slice none 0 0/\ys=[])\/∃(g:Addr) (m c:Nat) (d:List Value),X=.slice (some g) m c/\m<=c/\ys.length=m*sz/\d.length=ys.length/\(∀(j:Nat) (u:Value),d[j]? = some u->w.cell? (g.add j)=some u) /\
  (∀(j:Nat) (x:Value) (v:V),d[j]? = some x->ys[j]? = some v->Rep γ I x v)/\(∀u∈d,u.oneCell'=true):=by
 have F:∀(g:Addr) (m c:Nat) (f:Nat->Value),X=.slice (some g) m c->m<=c->ys.length=m*sz->(∀j,j<ys.length->w.cell? (g.add j)=some (f j))->(∀(j:Nat) (v:V),ys[j]? = some v->Rep γ I (f j) v) ->
  ∃(g:Addr) (m c:Nat) (d:List Value),X=.slice (some g) m c/\m<=c/\ys.length=m*sz/\d.length=ys.length/\(∀(j:Nat) (u:Value),d[j]? = some u->w.cell? (g.add j)=some u) /\
  (∀(j:Nat) (x:Value) (v:V),d[j]? = some x->ys[j]? = some v->Rep γ I x v)/\(∀u∈d,u.oneCell'=true):=by
  intro g m c f L H h3 K M
  have y:∀(j:Nat) (u:Value),((List.range ys.length).map f)[j]? = some u->j<ys.length/\u=f j:=by
   intro j u s;simp only[aV,bn]at s;obtain⟨k,J,rfl⟩:=s;have i:j<ys.length:=by have:=(aj.1 J).1;simpa using this
   rw[dp i]at J;cases J;exact⟨i,rfl⟩
  refine⟨g,m,c,(List.range ys.length).map f,L,H,h3,zS,λj u s=>?_,λj x v S r=>?_,λu s=>?_⟩
  ·obtain⟨i,rfl⟩:=y j u s;exact K j i
  ·obtain⟨i,rfl⟩:=y j x S;exact M j v r
  ·obtain⟨j,i,rfl⟩:=aE.1 s;have O:j<ys.length:=by simpa using i
   have r:ys[j]? = some ys[j]:=aa O;exact(M j _ r).oneCell (av.1 hp _ (aH r))
 unfold jF at p;split at p;rename_i t nl n cs;split at p;rename_i q;cases p;rcases YX Z with⟨rfl,_,_,_,rfl⟩|⟨g,B,xs,rfl,_,L,H,h3,K,M,h6,_⟩;exact .inl ⟨rfl,rfl⟩;refine .inr (F g n B xs rfl H q (λj i=>?_) (λj v r=>.pure _ _ (h6 j v r)));have G:=L (λe=>by rw[e]at i;simp at i);obtain⟨b,off,sp⟩:=g;simp only at G;subst G;rw[Xe];exact hR.imm _ _ _ (K j i);cases p;rename_i l u off n D;split at p;rename_i N;subst N;obtain⟨cs,Q,p⟩:=yc p;split at p;rename_i b0;cases p;obtain⟨b,kb,g,B,s,rfl,T,hc,hm⟩:=YC Z;obtain⟨arr,e,m1,m2,m4,m3⟩:=Qu hR (ji Q) s;have q:((cs.drop off).take (n*D)).length=n*D:=by simp only[ai,aY];omega
 refine .inr (F g n B (λj=>arr.getD (off+j) undef) rfl hc q (λj i=>?_) (λj v r=>?_));have hn:0<n:=by rcases cI n with h|h;subst h;simp at i;exact h
 have:=(T zO).1;subst this;rw[Xe];have z:off+j<arr.size:=zO;simp[World.cell?,m1,z];have i:j<n*D:=by have:=(aj.1 r).1;omega
 have z:off+j<arr.size:=zO;rw[bi i,bC]at r;have S:arr[off+j]? = some (arr.getD (off+j) undef):=by simp[z]
 exact(m3 _ _ _ S r).2;cases p;cases p;cases p
def jci {v:V}(h:v.pureLeaf=true):v.leaf=true:=by cases v<;>first|rfl|(simp[V.pureLeaf]at h)
def j51 (s:R E w0 I0 nt γ I st a w) {X:Value}{i:V}{sz:Nat}{ys:List V}(n:Rep γ I X i) (k:jF st.ob sz i=some ys) (hp:ys.all V.pureLeaf=true) (g:0<sz) :
 (X=.slice none 0 0/\ys=[])\/∃(f:Addr) (m c:Nat) (b:List Value),X=.slice (some f) m c/\m<=c/\ys.length=m*sz/\b.length=ys.length/\(∀(j:Nat) (u:Value),b[j]? = some u->w.cell? (f.add j)=some u) /\
  (∀(j:Nat) (x:Value) (v:V),b[j]? = some x->ys[j]? = some v->RepP I x v)/\(∀u∈b,u.oneCell'=true):=by
 rcases jkc s n k (av.2 λv e=>jci (av.1 hp v e)) g with h|⟨f,m,c,b,y,l,p,t,B,r,z⟩;exact .inl h;refine .inr ⟨f,m,c,b,y,l,p,t,B,λj x v q e=>?_,z⟩;have d:=av.1 hp v (aH e);have:=Wb (r j x v q e) (by rw[YI d];exact d);rwa [YI d]at this
def QU (t ty e r:TypeId) (i:TypeInfo) (x:P.underlying t=some (.slice e)) (hi:P.info? e=some i)
 (g d h:Nat) (f:Array Value) (y:w.heap[g]? = some (.cells f r (0,0)))
 (q:Addr) (m c:Nat) (b:List Value) (v:b.length=m*i.size) (k:∀(j:Nat) (u:Value),b[j]? = some u->w.cell? (q.add j)=some u) (z:∀u∈b,u.oneCell'=true)
 (l:d+m<=h) (n:d*i.size+b.length<=f.size) :
 (Builtin.append_ #[t,t] ty #[.slice (some ⟨g,0,none⟩) d h,.slice (some q) m c]).run P w =
  .ok (.slice (some ⟨g,0,none⟩) (d+m) h) (w.setRow g (f.toList.take (d*i.size)++b++f.toList.drop (d*i.size+b.length)).toArray):=by
 have s:=run_firstCells_some (P:=P) w i.size m q m c b v k;have p:=run_storeCells_at P g (d*i.size) r b 0 f w y (by simpa using n) z;simp only[bp]at p;simp[Builtin.append_,run_underlying x,sizeOf,typeInfo,hi,Builtin.lenOf,l,s,Addr.add_lit,p]
def Qp (t ty e:TypeId) (i:TypeInfo) (j:P.underlying t=some (.slice e)) (hi:P.info? e=some i) (f:Option Addr) (b d:Nat) (k:b<=d) (X:Value)
 (h:X=.slice none 0 0\/∃g c,X=.slice (some g) 0 c) :
 (Builtin.append_ #[t,t] ty #[.slice f b d,X]).run P w=.ok (.slice f b d) w:=by
 rcases h with rfl|⟨g,c,rfl⟩<;>cases f<;>
  simp[Builtin.append_,run_underlying j,sizeOf,typeInfo,hi,Builtin.lenOf,k,Builtin.firstCells,storeCells,loadCells,loadCellsFrom]
end
section
variable {P:Program}{E:Env}{w0 w:World}{I0:IMap}{nt:Nat}{γ:Nat->Option Place}{I:IMap}{st:St}{a:Act}{o:Oper}{ub:Nat}{δ:Delta}
def jet {cs ys:List V}{arr:Array Value}{k:Nat}(c:cs.length=k) (e:∀(j:Nat) (v:V),cs[j]? = some v->v.pureLeaf=true/\∃x,arr[j]? = some x/\RepP I x v)
 (d:∀(j:Nat) (v:V),ys[j]? = some v->v.pureLeaf=true/\∃x,arr[k+j]? = some x/\RepP I x v) :
 ∀(j:Nat) (v:V),(cs++ys)[j]? = some v->v.pureLeaf=true/\∃x,arr[j]? = some x/\RepP I x v:=by
 intro j v b;by_cases f:j<k;rw[bl zO]at b;exact e j v b;rw[bw zO]at b;have:=d _ v b;rw[c]at this;rwa [show k+(j-k)=j by omega]at this
def jmx (T:R E w0 I0 nt γ I st a w) (hd:∀d,o.dst=some d->d<nt) (hf:γ ub=none) {t e:TypeId}{s x:Operand}{s' x':A}{i:TypeInfo}{z:Value}(ho:o.op=.call { callee:=.builtin .append,args:=#[s,x],argTypes:=#[t,t] })
 (hs:opd s=some s') (hx:opd x=some x') (hu:P.underlying t=some (.slice e)) (hi:P.info? e=some i) (hz:i.zero=some z) (b9:0<i.size) (d7:z.cells.size=i.size)
 (r:(match ye E st.tm s' with
  | .sl t nl n cs=>(jF st.ob i.size (ye E st.tm x')).bind λO=>
   if O=[] then (if cs.length=n*i.size then one (.sl t nl n cs) else none) else
   if cs.length=n*i.size/\0<i.size/\O.all V.pureLeaf=true/\(n+O.length/i.size)*i.bytes<=140737488355328/\n+O.length/i.size<=140737488355328 then
    match t with
    |some (u,z)=>if st.tk u=true/\z=i.size then some { v:=V.sl (some (ub,i.size)) false (n+O.length/i.size) (cs++O),del:=some u,add:=[ub] } else none
    |none=>if nl then some { v:=V.sl (some (ub,i.size)) false (n+O.length/i.size) (cs++O),add:=[ub] } else none
   else none
  |_=>none)=some δ):XY P E w0 I0 nt γ I st a w o ub δ:=by
 have S:=jD T hs
 have c8:=jD T hx
 have J:∀(v:Value) (w':World),(Builtin.append_ #[t,t] o.type #[a.eval s,a.eval x]).run P w=.ok v w'->(execOp a.eval o).run P w=.ok (.value v) w':=by
  intro v w' h
  simp only[execOp,ho,resolve,aB,aG,ak,invoke,builtin,db,bc,co,h]
 split at r
 ·rename_i tk nl n cs he
  obtain⟨O,c5,r⟩:=yc r
  split at r
  ·rename_i Z
   subst Z
   split at r
   ·rename_i B
    -- nothing is appended
    have hX:a.eval x=.slice none 0 0\/∃ad c,a.eval x=.slice (some ad) 0 c:=by
     rcases j51 T c8 c5 rfl b9 with⟨h,_⟩|⟨ad,m,c,f,h,_,hl,_⟩
     ·exact .inl h
     ·have:m=0:=by
       simp only[ct]at hl
       rcases eR.1 hl.symm with h|h<;>omega
      subst this
      exact .inr ⟨ad,c,h⟩
    rw[he]at S
    have c3:=S
    have hS:∃G cap,a.eval s=.slice G n cap/\n<=cap:=by
     rcases YX S with⟨h,_,_,rfl,_⟩|⟨ad,cap,xs,h,_,_,h2,_⟩
     ·exact⟨none,0,h,zK⟩
     ·exact⟨some ad,cap,h,h2⟩
    obtain⟨G,cap,hS,c4⟩:=hS
    refine jc T hd (x:=a.eval s) (J _ _ ?_) c3 r
    rw[hS]
    exact Qp t o.type e i hu hi G n cap c4 _ hX
   ·cases r
  ·rename_i c1
   split at r
   ·rename_i hc
    obtain⟨B,_,hp,c0,d4⟩:=hc
    rcases j51 T c8 c5 hp b9 with⟨_,h⟩|⟨ad,m,c,f,hX,e6,b5,e7,L,d3,d2⟩
    ·exact zf h c1
    ·have hm:O.length/i.size=m:=by rw[b5];exact eE _ b9
     have e0:0<m:=by
      rcases cI m with h|h
      ·subst h
       simp only[dE]at b5
       exact zf (dY b5) c1
      ·exact h
     rw[hm]at r c0 d4
     have F:f.length=m*i.size:=zO
     have b8:n+m<=maxLen:=by simp only[maxLen];omega
     have b6:(cs++O).length=(n+m)*i.size:=by rw[aw,B,b5,Nat.add_mul]
     have U:∀(j:Nat) (v:V),O[j]? = some v->∃x,f[j]? = some x/\v.pureLeaf=true/\RepP I x v:=by
      intro j v q
      have M:j<f.length:=by have:=(aj.1 q).1;omega
      exact⟨_,aa M,av.1 hp _ (aH q),d3 j _ v (aa M) q⟩
     have c2:∀j y,I w.heap.size j=some y->j<(n+m)*i.size/\False:=λj y H=>zf (bT _ _ (T.imm _ _ _ H)) (ey _)
     -- a new row
     have a0:∀(D:List Value) (old:Nat) (del:Option Nat),old<n+m->D.length=n*i.size->(∀(j:Nat) (v:V),cs[j]? = some v->v.pureLeaf=true/\∃x,D[j]? = some x/\RepP I x v) ->
      (Builtin.append_ #[t,t] o.type #[a.eval s,a.eval x]).run P w=.ok (.slice (some ⟨w.heap.size,0,none⟩) (n+m) (grownCap w (n+m) old e)) (w.drew.alloc (.cells (D.toArray++f.toArray++Builtin.zeroCells z.cells (grownCap w (n+m) old e-(n+m))) e)) ->
      some { v:=V.sl (some (ub,i.size)) false (n+m) (cs++O),del:=del,add:=[ub] }=some δ->XY P E w0 I0 nt γ I st a w o ub δ:=by
      intro D old del e4 X K l d5
      have d8:=grownCap_ge w (n+m) old e
      have d1:=grownCap_le_maxLen w (n+m) old e b8
      refine jqx T hd hf (b:=w.heap.size) (n:=n+m) (cap:=grownCap w (n+m) old e) (sz:=i.size) (cs:=cs++O) (del:=del) (e:=e) (J _ _ l) (.inl ⟨rfl,zS⟩) ⟨rfl,rfl,rfl⟩
       (λk hk _=>heap_alloc_old w.drew _ k hk) (heap_alloc_new w.drew _) ?_ d8 d1 (λj y H=>(c2 j y H).2.elim) b6 ?_ d5
      ·simp only[gY,cR,size_zeroCells,d7,X,F,<- Nat.add_mul]
       congr 1
       omega
      ·refine jet B (λj v q=>?_) (λj v q=>?_)
       ·obtain⟨p,y,H,hr⟩:=K j v q
        refine⟨p,y,?_,hr⟩
        have M:j<D.length:=(aj.1 H).1
        rw[cq (by simp;omega),cq (by simpa using M)]
        simpa using H
       ·obtain⟨y,H,p,hr⟩:=U j v q
        refine⟨p,y,?_,hr⟩
        have M:j<f.length:=(aj.1 H).1
        rw[cq (by simp;omega),ek (by simp;omega)]
        simp only[cR,X,fM]
        simpa using H
     rw[he]at S
     split at r
     ·rename_i tu tz _
      split at r
      ·rename_i b0
       have c7:=r
       obtain⟨b0,d6⟩:=b0
       subst d6
       rcases YX S with⟨_,h,_⟩|⟨G,cap,xs,hS,_,_,e8,e2,h3,h4,h5,h6⟩
       ·cases h
       ·obtain⟨b7,Q,e1⟩:=h6 tu _ rfl
        obtain⟨Ω,c9⟩:=T.own
        obtain⟨b,n',e3,e5,k1,k2,k3,⟨arr,e',g1,g2,g3,g4⟩,k5⟩:=c9.tk tu b0
        rw[b7]at k1
        simp only[ae,Place.tok.injEq]at k1
        obtain⟨hb,rfl,rfl,rfl⟩:=k1
        by_cases N:n+m<=cap
        ·have c6:n*i.size+f.length<=arr.size:=by rw[F,<- Nat.add_mul];exact bL (bf _ N) g2
         have l:=QU (P:=P) (w:=w) t o.type e e' i hu hi b n cap arr g1 ad m c f F L d2 N c6
         rw[<- hb]at g1 l k5
         rw[Q]at hS
         refine jwq T hd hf (b:=G.block) (n:=n+m) (cap:=cap) (sz:=i.size) (cs:=cs++O) (w':=w.setRow G.block _) (del:=some tu) (e:=e') (J _ _ (by rw[hS,hX];exact l)) (.inr ⟨tu,n,cap,i.size,b0,b7,rfl,zS⟩) ⟨rfl,rfl,rfl⟩
          (λk _ hk=>setRow_other w _ k _ hk) (setRow_heap w _ arr _ e' _ g1) ?_ N e2 (λj y H=>?_) b6 ?_ c7
         ·simp only[cR,aw,ai,aY,aL]
          omega
         ·have M:j<n*i.size:=by
           rcases cD j (n*i.size) with h|h
           ·exact h
           ·rw[k5 j h]at H;cases H
          have g:=T.imm _ _ _ H
          simp only[World.cell?,g1,cM,ah,zc]at g
          refine⟨by rw[Nat.add_mul];omega,?_⟩
          simp only[bO]
          rw[bj,bl (by simp only[ai,aL];omega),bi M]
          simpa using g
         ·refine jet B (λj v q=>?_) (λj v q=>?_)
          ·have M:j<cs.length:=(aj.1 q).1
           refine⟨h4 j v q,xs j,?_,h5 j v q⟩
           have g:=T.imm _ _ _ (h3 j M)
           rw[Q]at g
           simp only[World.cell?,g1,cM,ah,zc,bK]at g
           simp only[bO]
           rw[bj,bl (by simp only[ai,aL];omega),bi zO]
           simpa using g
          ·obtain⟨y,H,p,hr⟩:=U j v q
           refine⟨p,y,?_,hr⟩
           have M:j<f.length:=(aj.1 H).1
           simp only[bO]
           rw[bl (by simp only[aw,ai,aL];omega),bw (by simp only[ai,aL];omega)]
           have hq:n*i.size+j-(List.take (n*i.size) arr.toList).length=j:=by simp only[ai,aL];omega
           rw[hq]
           exact H
        ·have K:∀(j:Nat) (v:Value),((List.range cs.length).map xs)[j]? = some v->w.cell? (G.add j)=some v:=by
          intro j v q
          simp only[aV,bn]at q
          obtain⟨k,hk,rfl⟩:=q
          have M:j<cs.length:=by have:=(aj.1 hk).1;simpa using this
          rw[dp M]at hk
          cases hk
          rw[Q,Xe,bK]
          have:=T.imm _ _ _ (h3 j M)
          rw[Q]at this
          simpa using this
         have d0:((List.range cs.length).map xs).length=n*i.size:=by simpa using B
         have l:=run_append_grow (P:=P) w t o.type e i z hu hi hz G n cap _ d0 K ad m c f F L zO zO (growslice_fits zO c0)
         refine a0 _ cap (some tu) zO d0 (λj v q=>⟨h4 j v q,xs j,?_,h5 j v q⟩) (by rw[hS,hX];exact l) c7
         have M:j<cs.length:=(aj.1 q).1
         simp[M]
      ·cases r
     ·split at r
      ·rename_i Z
       rcases YX S with⟨hS,_,_,rfl,rfl⟩|⟨_,_,_,_,h,_⟩
       ·have d9:m*i.bytes<=281474976710656:=by simp only[bK]at c0;omega
        have l:=run_append_nil (P:=P) w t o.type e i z hu hi hz ad m c f F L e0 zO d9
        refine a0 [] 0 none zO zS (λj v q=>by simp at q) ?_ r
        rw[hS,hX,bK,l]
        simp
       ·subst h;cases Z
      ·cases r
   ·cases r
 ·cases r
end
section
variable {P:Program}{E:Env}{w0 w:World}{I0:IMap}{nt:Nat}{γ:Nat->Option Place}{I:IMap}{st:St}{a:Act}{o:Oper}{ub:Nat}{δ:Delta}
def Rep.strip1 {x:Value}{v:V}(h:Rep γ I x v):Rep γ I x v.strip1:=by
 cases v with
 |sl t j n cs=>rcases YX h with⟨rfl,rfl,rfl,rfl,rfl⟩|⟨l,f,k,rfl,rfl,e,c,i,d,g,b,_⟩;exact .pure _ _ .slnil;exact .pure _ _ (.sl _ _ _ _ _ e c i d g b)
 |_=>exact h
def Wa {xs:Array Value}{cs:List V}(f:V->V) (c:∀x v,Rep γ I x v->Rep γ I x (f v)) (h:∀(j:Nat) (x:Value) (v:V),xs[j]? = some x->cs[j]? = some v->Rep γ I x v) :
 ∀(j:Nat) (x:Value) (v:V),xs[j]? = some x->(cs.map f)[j]? = some v->Rep γ I x v:=by
 intro j x v e b;simp only[aV,bn]at b;obtain⟨u,d,rfl⟩:=b;exact c _ _ (h j x u e d)
def Rep.stripAgg {x:Value}{cs:List V}(h:Rep γ I x (.agg cs)):Rep γ I x (.agg (cs.map V.strip1)):=by obtain⟨g,rfl,d,c,f⟩:=Yd h;refine .agg _ _ (by simpa using d) (λj v b=>?_) (Wa _ (λ_ _=>Rep.strip1) f);simp only[aV,bn]at b;obtain⟨u,e,rfl⟩:=b;rw[jfp];exact c j u e
def Rep.strip {x:Value}{v:V}(h:Rep γ I x v):Rep γ I x v.strip:=by
 cases v with
 |sl t m n cs=>exact h.strip1
 |agg cs=>exact h.stripAgg
 |fn f g l=>
  obtain⟨k,p,rfl,j,d,e,i⟩:=jeo h;have b:∀x v,Rep γ I x v->Rep γ I x (match v with|.agg cs=>V.agg (cs.map V.strip1)|c=>c.strip1):=by intro x v h;split;exact h.stripAgg;exact h.strip1
  exact .fn _ _ _ _ _ (by simpa using j) (by simpa using d) (Wa _ b e) (Wa _ b i)
 |_=>exact h
def LKT:LK->TypeDesc->Prop
 | .bool,d=>d=.bool
 | .int,d=>∃k,d=.int k
 | .str,d=>d=.string
def je6 {t:TypeId}{q:LK}(h:joj P t=some q):∃d,P.underlying t=some d/\LKT q d:=by unfold joj at h;split at h<;>cases h;exact⟨_,by assumption,rfl⟩;exact⟨_,by assumption,_,rfl⟩;exact⟨_,by assumption,rfl⟩
def j02 {s s':ByteArray}(h:s.data.toList=s'.data.toList):s=s':=by cases s;cases s';simp only[Array.toList_inj]at h;rw[h]
def jbr {q:LK}{d:TypeDesc}(c:LKT q d) {x y:Value}{i g:V}{b:Bool}(f:Rep γ I x i) (e:Rep γ I y g) (h:Ww q i g=some b):Instr.sameNow d x y=some b:=by unfold Ww at h;split at h;have:=Xd f;subst this;have:=Xd e;subst this;cases c;exact h;have:=JE f;subst this;have:=JE e;subst this;obtain⟨k,rfl⟩:=c;exact h;obtain⟨s,rfl,rfl⟩:=XU f;obtain⟨j,rfl,rfl⟩:=XU e;cases c;simp only[ae]at h;simp only[Instr.sameNow,ae];rw[<- h,beq_toListBytes,Yt,Yt];cases h
def W9 {q:LK}{d:TypeDesc}(g:LKT q d) {k:Value}{n:V}(l:Rep γ I k n):∀(m:List MapEntry) (es:List (V×V)) (i:Nat) (r:Option (Nat×V)),m.length=es.length ->
 (∀(j:Nat) (e:MapEntry) (k v:V),m[j]? = some e->es[j]? = some (k,v)->RepP I e.key k/\Rep γ I e.val v)->yM q n es=some r ->
 (r=none/\Instr.findNow d k m i=some none)\/∃j v e,r=some (j,v)/\m[j]? = some e/\(∃f,es[j]? = some (f,v)/\Ww q n f=some true)/\Instr.findNow d k m i=some (some (i+j,e.val))
 |[],[],i,r,_,_,h=>by simp only[yM,ae]at h;exact .inl ⟨h.symm,rfl⟩
 |[],_::_,_,_,hl,_,_=>by simp at hl
 |_::_,[],_,_,hl,_,_=>by simp at hl
 |e::m,(f,v)::es,i,r,hl,hr,h=>by obtain⟨p,F⟩:=hr 0 e f v rfl rfl;simp only[yM]at h;split at h;rename_i c;simp only[ae]at h;subst h;refine .inr ⟨0,v,e,rfl,rfl,⟨f,rfl,c⟩,?_⟩;simp only[Instr.findNow,jbr g l (.pure _ _ p) c,bp];rename_i c;obtain⟨u,t,rfl⟩:=yh h;rcases W9 g l m es (i+1) u (by simpa using hl) (λj e k v t b=>hr (j+1) e k v (by simpa using t) (by simpa using b)) t with⟨rfl,b⟩|⟨j,x,D,rfl,b,⟨s,y,z⟩,B⟩;exact .inl ⟨rfl,by simp only[Instr.findNow,jbr g l (.pure _ _ p) c,b]⟩;refine .inr ⟨j+1,x,D,rfl,by simpa using b,⟨s,by simpa using y,z⟩,?_⟩;simp only[Instr.findNow,jbr g l (.pure _ _ p) c,B];rw[show i+1+j=i+(j+1) by omega];cases h
def JR {t:TypeId}{d:TypeDesc}{q:LK}(e:P.underlying t=some d) (c:LKT q d) (b:Bool) (k:Value) (n:Nat):(Instr.checkKey b (n+1) t k).run P w=.ok () w:=by unfold Instr.checkKey;simp only[aB,run_underlying e,ak];cases q;cases c;rfl;obtain⟨_,rfl⟩:=c;rfl;cases c;rfl
def X1 {t:TypeId}{d:TypeDesc}(b:P.underlying t=some d) {k:Value}{m:List MapEntry}{r:Option (Nat×Value)}(h:Instr.findNow d k m 0=some r):(Instr.findKey t k m).run P w=.ok r w:=by unfold Instr.findKey;simp only[aB,run_underlying b,ak,h,aG]
def jcp (t:R E w0 I0 nt γ I st a w) {l u b ver:Nat}{k:Kd}{es:List (V×V)}(h:st.ob l=some ⟨u,.mp ver es⟩) (n:γ u=some (.obj b k)) :
 ∃(m:Array MapEntry) (c:Nat),w.heap[b]? = some (.map m c)/\m.size=es.length/\(∀(j:Nat) (e:MapEntry) (k v:V),m[j]? = some e->es[j]? = some (k,v)->RepP I e.key k/\Rep γ I e.val v) /\
  (m.toList.map (·.born)).Nodup/\(∀e∈m,e.born<c)/\(ver<jpp->c=m.size/\∀(i:Nat) (e:MapEntry),m[i]? = some e->e.born=i):=by
 obtain⟨H,d⟩:=t.own;obtain⟨D,p,f,F,G,B,J⟩:=d.ob l _ h;rw[n]at f;cases f;obtain⟨m,c,y,g,q,x,z⟩:=B;exact⟨m,c,y,by rw[<- g.1,aL],λj e k v s r=>g.2 j e k v (by rw[br];exact s) r,q,x,z⟩
def jpj (i:R E w0 I0 nt γ I st a w) {l u b ver:Nat}{k:Kd}{es:List (V×V)}(h:st.ob l=some ⟨u,.mp ver es⟩) (f:γ u=some (.obj b k)) :
 ∃(m:Array MapEntry) (c:Nat),w.heap[b]? = some (.map m c)/\m.size=es.length/\(∀(j:Nat) (e:MapEntry) (k v:V),m[j]? = some e->es[j]? = some (k,v)->RepP I e.key k/\Rep γ I e.val v) /\
  (m.toList.map (·.born)).Nodup/\∀e∈m,e.born<c:=by
 obtain⟨m,c,p,d,g,n,q,_⟩:=jcp i h f;exact⟨m,c,p,d,g,n,q⟩
def Jg {b:Nat}{m:Array MapEntry}{c:Nat}(h:w.heap[b]? = some (.map m c)):(getObj b).run P w=.ok (.map m c) w:=by simp[getObj,Sem.run,h]
def Y6 {b:Nat}{m d:Array MapEntry}{c e:Nat}(h:w.heap[b]? = some (.map m c)):(setObj b (.map d e)).run P w=.ok () { w with heap:=w.heap.setIfInBounds b (.map d e) }:=by simp[setObj,Sem.run,h]
def jbv {x:Value}{z:V}(h:Wd x=some z):RepP I x z:=by
 unfold Wd at h;split at h;rename_i cs;obtain⟨l,f,rfl⟩:=yh h;obtain⟨d,c⟩:=jsb (I:=I) f;refine .agg _ _ d.symm (λj v b=>?_) (λj x v g b=>(c j x v (by rw[br];exact g) b).2);have e:j<cs.toList.length:=by rw[<- d];exact(aj.1 b).1
 exact(c j _ v (aa e) b).1;exact(leafOk h).1
def jyf (G:R E w0 I0 nt γ I st a w) (N:∀d,o.dst=some d->d<nt) {t U e:TypeId}{m k:Operand}{m' Z:A}{q:LK}{i:TypeInfo}{z:Value}{F:V}{n:Bool}(ho:o.op=.lookup t m k n) (hm:opd m=some m') (S:opd k=some Z)
 (B:P.underlying t=some (.map U e)) (hq:joj P U=some q) (hi:P.info? e=some i) (hz:i.zero=some z) (X:Wd z=some F)
 (g:(if Qz q (ye E st.tm Z) then match ye E st.tm m' with
  | .nilmap=>one (if n then .tup [F,.bool false] else F)
  | .map l u=>(jY st.ob l u).bind λes=>(yM q (ye E st.tm Z) es).bind λr=>match r with
   |some (_,v)=>one (if n then .tup [v,.bool true] else v)
   |none=>one (if n then .tup [F,.bool false] else F)
  |_=>none else none)=some δ):XY P E w0 I0 nt γ I st a w o ub δ:=by
 obtain⟨d,c,p⟩:=je6 hq;have D:=jD G hm;have Q:=jD G S;have H:Rep γ I z F:=.pure _ _ (jbv X);have f:∀(x:Value) (v:V) (b:Bool),Rep γ I x v->Rep γ I (if n then .tuple #[x,.bool b] else x) (if n then .tup [v,.bool b] else v):=by
  intro x v b h;cases n;exact h;refine .tup _ _ rfl (λj y u L B=>?_);match j with
  |0=>simp at L B;subst L;subst B;exact h
  |1=>simp at L B;subst L;subst B;exact .pure _ _ (.bool b)
  |j+2=>simp at B
 split at g;split at g;rename_i K;rw[K]at D;have s:=Xo D;refine jc G N (x:=if n then .tuple #[z,.bool false] else z) ?_ (f _ _ _ H) g;have b5:(Instr.findKey U (a.eval k) ([]:List MapEntry)).run P w=.ok none w:=X1 c rfl;simp only[execOp,ho,s,Instr.lookup,aB,run_underlying B,ak,aG,JR c p,b5,JO hi hz];rename_i l u K;rw[K]at D;obtain⟨b,kb,O,s⟩:=QL D;obtain⟨es,b6,g⟩:=yc g;obtain⟨r,hr,g⟩:=yc g;obtain⟨M,b0,h1,h2,h3,_⟩:=jpj G (XO b6) O;have b7:=W9 p Q M.toList es 0 r (by simpa using h2) (λj e k v K S=>h3 j e k v (by simpa using K) S) hr;rcases b7 with⟨rfl,hf⟩|⟨j,v,en,rfl,a0,⟨T,J,_⟩,hf⟩;refine jc G N (x:=if n then .tuple #[z,.bool false] else z) ?_ (f _ _ _ H) g;simp only[execOp,ho,s,Instr.lookup,aB,run_underlying B,ak,aG,Jg h1,JR c p,X1 c hf,JO hi hz];refine jc G N (x:=if n then .tuple #[en.val,.bool true] else en.val) ?_ (f _ _ _ (h3 j en T v (by simpa using a0) J).2) g;simp only[execOp,ho,s,Instr.lookup,aB,run_underlying B,ak,aG,Jg h1,JR c p,X1 c hf];cases g;cases g
end
section
variable {P:Program}{E:Env}{w0 w:World}{I0:IMap}{nt:Nat}{γ:Nat->Option Place}{I:IMap}{st:St}{a:Act}{o:Oper}{ub:Nat}{δ:Delta}
def JP (w:World) (b:Nat) (x:Obj) (h:b<w.heap.size):(w.heap.setIfInBounds b x)[b]? = some x:=by simp[h]
def X5 (w:World) (b k:Nat) (x:Obj) (h:k≠b):(w.heap.setIfInBounds b x)[k]? = w.heap[k]?:=dS (λe=>h e.symm)
def jb0 {M:Array MapEntry}{es:List (V×V)}(h:M.size=es.length) (d:∀(j:Nat) (e:MapEntry) (k v:V),M[j]? = some e->es[j]? = some (k,v)->RepP I e.key k/\Rep γ I e.val v):EntsOk γ I M.toList es :=
 ⟨by simpa using h,λj e k v c b=>d j e k v (by rw[<- br];exact c) b⟩
def jhk (M:Array MapEntry) (j:Nat) (k v:Value):(M.modify j λe=>{ e with key:=k,val:=v }).toList.map (·.born)=M.toList.map (·.born):=by refine dC λi=>?_;simp only[aV,br,cW];split;cases M[i]?<;>rfl;rfl
def j25 (l:R E w0 I0 nt γ I st a w) (b:∀d,o.dst=some d->d<nt) (c:γ ub=none) {t:TypeId}{d:Nat}(f:o.op=.makeMap t none) (g:Jo d ub (.mp 0 []) (.map d ub)=some δ):XY P E w0 I0 nt γ I st a w o ub δ:=by refine WU l b c (x:=.map (some w.heap.size)) (obj:=.map #[] 0) (k:=.n 0) ?_ rfl (λm h=>.map _ _ _ _ h) ?_ g;simp[execOp,f,Instr.makeMap];exact⟨#[],0,rfl,⟨rfl,λj e k v i=>by simp at i⟩,zS,zS,λ_=>⟨rfl,zS⟩⟩
def jsc {q:LK}{x y:Value}{e d:V}(c:Rep γ I x e) (b:Rep γ I y d) (h:Ww q e d=some true):(Instr.keyThatStays y x).run P w=.ok x w:=by
 have g:Instr.sameBits 10000 y x=true:=by unfold Ww at h;split at h;have:=Xd c;subst this;have:=Xd b;subst this;simp only[ae,zh]at h;subst h;simp[Instr.sameBits];have:=JE c;subst this;have:=JE b;subst this;split at h;rename_i f;simp only[ae,zh]at h;subst f;subst h;simp[Instr.sameBits];cases h;obtain⟨s,rfl,rfl⟩:=XU c;obtain⟨i,rfl,rfl⟩:=XU b;simp only[ae,zh]at h;have:=j02 h;subst this;simp[Instr.sameBits,beq_toListBytes];cases h
 simp[Instr.keyThatStays,g]
def jza {q:LK}{x:Value}{v:V}(h:Rep γ I x v) (b:Qz q v=true):RepP I x v:=by unfold Qz at b;split at b<;>first|(cases b;done)|(cases h;assumption)
def jjq {M:Array MapEntry}{b:Nat}{k v:Value}(h:b=M.size/\∀(i:Nat) (e:MapEntry),M[i]? = some e->e.born=i) :
 b+1=(M.push { key:=k,val:=v,born:=b }).size/\∀(i:Nat) (e:MapEntry),(M.push { key:=k,val:=v,born:=b })[i]? = some e->e.born=i:=by
 refine⟨by simp[h.1],λi e c=>?_⟩;rw[gu]at c;split at c;rename_i d;cases c;exact h.1.trans d.symm;exact h.2 i e c
def jah {M:Array MapEntry}{b j:Nat}{f:MapEntry->MapEntry}(g:∀e,(f e).born=e.born) (h:b=M.size/\∀(i:Nat) (e:MapEntry),M[i]? = some e->e.born=i) :
 b=(M.modify j f).size/\∀(i:Nat) (e:MapEntry),(M.modify j f)[i]? = some e->e.born=i:=by
 refine⟨by simp[h.1],λi e c=>?_⟩;rw[cW]at c;by_cases d:j=i;rw[zb d]at c;obtain⟨k,l,rfl⟩:=bn.1 c;rw[g];exact h.2 i k l;rw[za d]at c;exact h.2 i e c
def jmu (O:R E w0 I0 nt γ I st a w) (hd:∀d,o.dst=some d->d<nt) {t kt e:TypeId}{m k v:Operand}{m' T v':A}{q:LK}(D:o.op=.mapUpdate t m k v\/o.op=.insert t m k v) (hm:opd m=some m') (f:opd k=some T) (hv:opd v=some v')
 (hu:P.underlying t=some (.map kt e)) (hq:joj P kt=some q)
 (p:(if Qz q (ye E st.tm T) then match ye E st.tm m' with
  | .map l u=>if Nat.ble st.ro u then (jY st.ob l u).bind λF=>(yM q (ye E st.tm T) F).bind λr=>match r with
   |some (i,_)=>some { v:=js,obs:=[(l,⟨u,.mp (jn st.ob l+1) (F.set i (ye E st.tm T,(ye E st.tm v').strip))⟩)] }
   |none=>some { v:=js,obs:=[(l,⟨u,.mp (jn st.ob l+1) (F++[(ye E st.tm T,(ye E st.tm v').strip)])⟩)] }
   else none
  |_=>none else none)=some δ):XY P E w0 I0 nt γ I st a w o ub δ:=by
 obtain⟨d,B,G⟩:=je6 hq;have a0:=jD O hm;have H:=jD O f;have Q:=(jD O hv).strip;split at p
 ·rename_i S;have b0:=jza H S;split at p
  ·rename_i l u c;rw[c]at a0;obtain⟨b,kb,K,b5⟩:=QL a0;split at p;case isFalse=>cases p
   rename_i b6;obtain⟨F,c0,p⟩:=yc p;obtain⟨r,hr,p⟩:=yc p;have N:=XO c0;obtain⟨M,g,h1,h2,h3,b7,J,U⟩:=jcp O N K;have c8:b<w.heap.size:=(aO.1 h1).1;have c1:=W9 G H M.toList F 0 r (by simpa using h2) (λj e k v c f=>h3 j e k v (by simpa using c) f) hr;rcases c1 with⟨rfl,hf⟩|⟨j,v0,X,rfl,c4,⟨b9,Z,b8⟩,hf⟩
   ·refine Wm O hd N b6 (body':=.mp _ _) (x:=undef) (v:=js) (w':={ w with heap:=w.heap.setIfInBounds b (.map (M.push { key:=a.eval k,val:=a.eval v,born:=g }) (g+1)) }) (.inr ⟨?_,rfl⟩) (.tup _ _ rfl zS) (λv F h=>by cases h;exact⟨_,_,rfl,cY _⟩) ?_ p;rcases D with D|D<;>simp only[execOp,D,b5,Instr.mapUpdate,aB,run_underlying hu,ak,aG,Jg h1,JR B G,X1 B hf,Y6 h1]
    ·intro b' k0 z s;rw[K]at z;cases z;refine⟨rfl,rfl,rfl,zS,λk f=>X5 w b k _ f,?_⟩;rw[JP w b _ s];refine⟨_,_,rfl,jb0 (by simp[h2]) (λj X kk vv c f=>?_),?_,λe c=>?_,λhv=>jjq (U (gF hv))⟩;case refine_2=>
      rw[Array.toList_push,bA,bc,co]
      refine cU.2 ⟨b7,zS,λx hx y hy=>?_⟩
      simp only[ag]at hy
      subst hy
      obtain⟨e,c,rfl⟩:=aE.1 hx
      exact eJ (J e (by simpa using c))
     case refine_3=>rcases Array.mem_push.1 c with c|rfl;exact gE (J e c);exact cY _
     rw[gu]at c;split at c;rename_i hj;cases c;subst hj;rw[bw zO,h2]at f;simp at f;obtain⟨rfl,rfl⟩:=f;exact⟨b0,Q⟩;rename_i hj;have c7:j<F.length:=by have:=(aO.1 c).1;omega
     rw[bl c7]at f;exact h3 j X kk vv c f
   ·have n:M[j]? = some X:=by simpa using c4
    have c9:j<M.size:=(aO.1 n).1;refine Wm O hd N b6 (body':=.mp _ _) (x:=undef) (v:=js) (w':={ w with heap:=w.heap.setIfInBounds b (.map (M.modify j λe=>{ e with key:=a.eval k,val:=a.eval v }) g) }) (.inr ⟨?_,rfl⟩) (.tup _ _ rfl zS) (λv F h=>by cases h;exact⟨_,_,rfl,cY _⟩) ?_ p;have c3:(Instr.keyThatStays X.key (a.eval k)).run P w=.ok (a.eval k) w:=jsc (γ:=γ) (I:=I) H (.pure _ _ (h3 j X b9 v0 n Z).1) b8;simp only[bK]at hf;rcases D with D|D<;>simp only[execOp,D,b5,Instr.mapUpdate,aB,run_underlying hu,ak,aG,Jg h1,JR B G,X1 B hf,n,aU,cy,c3,Y6 h1]
    ·intro b' k0 z s;rw[K]at z;cases z;refine⟨rfl,rfl,rfl,zS,λk f=>X5 w b k _ f,?_⟩;rw[JP w b _ s];refine⟨_,_,rfl,jb0 (by simp[h2]) (λi c2 kk vv c f=>?_),by rw[jhk];exact b7,λe c=>?_,λhv=>jah (λ_=>rfl) (U (gF hv))⟩;case refine_2=>
      have:e.born∈(M.modify j λe=>{ e with key:=a.eval k,val:=a.eval v }).toList.map (·.born):=aE.2 ⟨e,dg.2 c,rfl⟩
      rw[jhk]at this
      obtain⟨e2,c5,c6⟩:=aE.1 this
      rw[<- c6]
      exact J e2 (by simpa using c5)
     rw[cW]at c;by_cases L:j=i;subst L;simp only[zd,n,aU,ae]at c;subst c;rw[dF zO]at f;cases f;exact⟨b0,Q⟩;rw[za L]at c;rw[cP L]at f;exact h3 i c2 kk vv c f
  cases p
 cases p
def jad {b:Type}(l:List b) (i j:Nat):(l.eraseIdx i)[j]? = if j<i then l[j]? else l[j+1]?:=by rw[List.getElem?_eraseIdx]
def jye (Q:R E w0 I0 nt γ I st a w) (hd:∀d,o.dst=some d->d<nt) {t kt e:TypeId}{m k:Operand}{m' k':A}{q:LK}{O:Array TypeId}(ho:o.op=.call { callee:=.builtin .delete,args:=#[m,k],argTypes:=O }) (ht:O[0]? = some t) (hm:opd m=some m') (f:opd k=some k')
 (hu:P.underlying t=some (.map kt e)) (hq:joj P kt=some q)
 (g:(if Qz q (ye E st.tm k') then match ye E st.tm m' with
  | .nilmap=>one js
  | .map l u=>if Nat.ble st.ro u then (jY st.ob l u).bind λN=>(yM q (ye E st.tm k') N).bind λr=>match r with
   |some (i,_)=>some { v:=js,obs:=[(l,⟨u,.mp (jn st.ob l+jpp) (N.eraseIdx i)⟩)] }
   |none=>some { v:=js,obs:=[(l,⟨u,.mp (jn st.ob l+1) N⟩)] }
   else none
  |_=>none else none)=some δ):XY P E w0 I0 nt γ I st a w o ub δ:=by
 obtain⟨d,y,D⟩:=je6 hq;have G:=jD Q hm;have a0:=jD Q f;have c:∀(w':World),(Builtin.delete_ O o.type #[a.eval m,a.eval k]).run P w=.ok (.tuple #[]) w'->(execOp a.eval o).run P w=.ok (.value (.tuple #[])) w':=by intro w' h;simp only[execOp,ho,resolve,aB,aG,ak,invoke,builtin,db,bc,co,h]
 split at g
 ·split at g;rename_i n;rw[n]at G;have F:=Xo G;refine jc Q hd (x:=.tuple #[]) (c _ ?_) (.tup _ _ rfl zS) g;rw[F];simp[Builtin.delete_,ht,run_underlying hu,JR y D]
  ·rename_i l u n;rw[n]at G;obtain⟨b,kb,K,F⟩:=QL G;split at g;case isFalse=>cases g
   rename_i T;obtain⟨N,b6,g⟩:=yc g;obtain⟨r,hr,g⟩:=yc g;have L:=XO b6;obtain⟨M,z,h1,h2,h3,U,H,b5⟩:=jcp Q L K;have b7:=W9 D a0 M.toList N 0 r (by simpa using h2) (λj e k v n f=>h3 j e k v (by simpa using n) f) hr;rcases b7 with⟨rfl,hf⟩|⟨j,v0,en,rfl,b0,⟨c0,b8,b9⟩,hf⟩;refine Wm Q hd L T (body':=.mp _ _) (x:=.tuple #[]) (v:=js) (w':={ w with heap:=w.heap.setIfInBounds b (.map M z) }) (.inl (c _ ?_)) (.tup _ _ rfl zS) (λv N h=>by cases h;exact⟨_,_,rfl,cY _⟩) ?_ g;rw[F];simp only[Builtin.delete_,ht,aB,run_underlying hu,ak,aG,Jg h1,JR y D,X1 y hf,Y6 h1,bO,aD,bS];intro b' k0 B J;rw[K]at B;cases B;refine⟨rfl,rfl,rfl,zS,λk f=>X5 w b k _ f,?_⟩;rw[JP w b _ J];exact⟨_,_,rfl,jb0 h2 h3,U,H,λhv=>b5 (gF hv)⟩
   ·have S:M[j]? = some en:=by simpa using b0
    have p:j<M.size:=(aO.1 S).1;refine Wm Q hd L T (body':=.mp _ _) (x:=.tuple #[]) (v:=js) (w':={ w with heap:=w.heap.setIfInBounds b (.map (M.eraseIdxIfInBounds j) z) }) (.inl (c _ ?_)) (.tup _ _ rfl zS) (λv N h=>by cases h;exact⟨_,_,rfl,Nat.lt_add_of_pos_right zQ⟩) ?_ g;rw[F];simp only[bK]at hf;simp only[Builtin.delete_,ht,aB,run_underlying hu,ak,aG,Jg h1,JR y D,X1 y hf,Y6 h1,bO,aD,bS]
    ·intro b' k0 B J;rw[K]at B;cases B;have Z:M.eraseIdxIfInBounds j=M.eraseIdx j p:=by simp[Array.eraseIdxIfInBounds,p]
     refine⟨rfl,rfl,rfl,zS,λk f=>X5 w b k _ f,?_⟩;rw[JP w b _ J];refine⟨_,_,rfl,jb0 (by rw[Z];simp[gi,h2];omega) (λi X kk vv n f=>?_),?_,λe n=>?_,λhv=>zf hv (Nat.not_lt.2 (Nat.le_add_left _ _))⟩;case refine_2=>
      rw[Z,ge]
      exact((List.eraseIdx_sublist M.toList j).map _).nodup U
     case refine_3=>rw[Z]at n;have:e∈(M.eraseIdx j p).toList:=dg.2 n;rw[ge]at this;exact H e (dg.1 (List.mem_of_mem_eraseIdx this))
     rw[Z,<- br,ge,jad]at n;rw[jad]at f;split at n;rename_i s;rw[zb s]at f;exact h3 i X kk vv (by simpa using n) f;rename_i s;rw[za s]at f;exact h3 (i+1) X kk vv (by simpa using n) f
  cases g
 cases g
def jpe (g:R E w0 I0 nt γ I st a w) (j:∀d,o.dst=some d->d<nt) (l:γ ub=none) {t:TypeId}{x:Operand}{i:A}{d:Nat}(m:o.op=.range t x) (q:opd x=some i) (p:P.underlying t=some .string)
 (c:(match ye E st.tm i with
  | .str s=>Jo d ub (.siter s 0) (.iter d ub)
  |_=>none)=some δ):XY P E w0 I0 nt γ I st a w o ub δ:=by
 have e:=jD g q;split at c;rename_i s r;rw[r]at e;obtain⟨f,b,rfl⟩:=XU e;refine WU g j l (x:=.pointer (some ⟨w.heap.size,0,none⟩)) (obj:=.stringIter f 0) (k:=.n 0) ?_ rfl (λu h=>.iter _ _ _ _ h) ?_ c;simp[execOp,m,b,Instr.range,run_underlying p];exact⟨f,rfl,rfl⟩;cases c
def juk (G:R E w0 I0 nt γ I st a w) (N:∀d,o.dst=some d->d<nt) {x:Operand}{Q:A}(U:o.op=.next x true) (hx:opd x=some Q)
 (i:(match ye E st.tm Q with
  | .iter l u=>match st.ob l with
   |some ⟨T,.siter s c⟩=>if Nat.ble st.ro u/\T=u then
    (if c<s.length then some { v:=.tup [.bool true,.int .i64 c,.int .i32 ((Utf8.decode ⟨s.toArray⟩ c).1:Nat)],obs:=[(l,⟨u,.siter s (c+(Utf8.decode ⟨s.toArray⟩ c).2)⟩)] }
     else one (.tup [.bool false])) else none
   |_=>none
  |_=>none)=some δ):XY P E w0 I0 nt γ I st a w o ub δ:=by
 have X:=jD G hx;split at i;rename_i l u he;rw[he]at X;obtain⟨b,kb,t,q⟩:=je7 X;split at i;rename_i T s c z;split at i;rename_i p;obtain⟨K,p⟩:=p;subst p;obtain⟨Ω,r⟩:=G.own;obtain⟨Z,a0,O,k2,k3,⟨f,n,M⟩,k5⟩:=r.ob l _ z;rw[t]at O;cases O;have B:(⟨s.toArray⟩:ByteArray)=f:=by rw[<- M]
 have S:s.length=f.size:=by rw[<- M];simp
 rw[B]at i;split at i;rename_i D;have e:c<f.size:=zO;refine Wm G N z K (body':=.siter s (c+(Utf8.decode f c).2)) (x:=.tuple #[.bool true,.int .i64 c,.int .i32 ((Utf8.decode f c).1:Nat)])
  (w':={ w with heap:=w.heap.setIfInBounds b (.stringIter f (c+(Utf8.decode f c).2)) }) (.inl ?_) ?_ (λv es h=>by cases h) ?_ i
 have J:(getObj b).run P w=.ok (.stringIter f c) w:=by simp[getObj,Sem.run,n]
 have L:∀x,(setObj b x).run P w=.ok () { w with heap:=w.heap.setIfInBounds b x }:=by intro x;simp[setObj,Sem.run,n]
 simp only[execOp,U,q,Instr.next,aB,J,ak,e,zd,L,aG,goInt];refine .tup _ _ rfl (λj y v m g=>?_);match j with
 |0=>simp at m g;subst m;subst g;exact .pure _ _ (.bool _)
 |1=>simp at m g;subst m;subst g;exact .pure _ _ (.int _ _)
 |2=>simp at m g;subst m;subst g;exact .pure _ _ (.int _ _)
 |j+3=>simp at g
 intro Z k0 F H;rw[t]at F;cases F;exact⟨rfl,rfl,rfl,zS,λk hk=>X5 w b k _ hk,by rw[JP w b _ H];exact⟨f,rfl,M⟩⟩;rename_i D;have e:¬c<f.size:=zO;refine jc G N (x:=.tuple #[.bool false]) ?_ ?_ i;have J:(getObj b).run P w=.ok (.stringIter f c) w:=by simp[getObj,Sem.run,n]
 simp only[execOp,U,q,Instr.next,aB,J,ak,e,zc,aG];refine .tup _ _ rfl (λj y v m g=>?_);match j with
 |0=>simp at m g;subst m;subst g;exact .pure _ _ (.bool _)
 |j+1=>simp at g
 cases i;cases i;cases i
def jf2 (isMax:Bool):∀(xs:List Value) (vs:List V) (x:Value) (v r:V),xs.length=vs.length->(∀(j:Nat) (y:Value) (u:V),xs[j]? = some y->vs[j]? = some u->Rep γ I y u)->Rep γ I x v->QK isMax v vs=some r ->
 ∃z,(xs.foldlM (if isMax then Builtin.max2 else Builtin.min2) x).run P w=.ok z w/\Rep γ I z r
 |[],[],x,v,r,_,_,hx,h=>by simp only[QK,ae]at h;subst h;exact⟨x,zS,hx⟩
 |[],_::_,_,_,_,hl,_,_,_=>by simp at hl
 |_::_,[],_,_,_,hl,_,_,_=>by simp at hl
 |y::xs,u::vs,x,v,r,hl,hr,hx,h=>by
  simp only[QK]at h;obtain⟨z,b,d⟩:=yc h;have e:=hr 0 y u rfl rfl;unfold jgn at b;split at b;rename_i k p n q;have:=JE hx;subst this;have:=JE e;subst this;split at b;rename_i i;subst i;simp only[ae]at b;have c:((if isMax then Builtin.max2 else Builtin.min2) (.int k p) (.int k q)).run P w=.ok (.int k (if isMax then (if q > p then q else p) else (if q<p then q else p))) w:=by cases isMax<;>simp[Builtin.max2,Builtin.min2]
  obtain⟨g,f,l⟩:=jf2 isMax xs vs _ z r (by simpa using hl) (λj y u m d=>hr (j+1) y u (by simpa using m) (by simpa using d)) (by rw[<- b];exact .pure _ _ (.int _ _)) d;refine⟨g,?_,l⟩;rw[List.foldlM_cons,aB,c,ak];exact f;cases b;cases b
def jmt (B:R E w0 I0 nt γ I st a w) (D:∀d,o.dst=some d->d<nt) {isMax:Bool}{xs:Array Operand}{e:List A}{s:Array TypeId}(h:o.op=.call { callee:=.builtin (if isMax then .max else .min),args:=xs,argTypes:=s }) (J:opds xs=some e)
 (m:(match e.map (ye E st.tm) with
  |[]=>none
  |x::r=>(QK isMax x r).bind one)=some δ):XY P E w0 I0 nt γ I st a w o ub δ:=by
 obtain⟨p,l⟩:=QH B J;split at m;cases m;rename_i v t n;obtain⟨r,G,q⟩:=yc m;rw[n]at p l;cases b:(xs.map a.eval).toList with
 |nil=>
  have:(xs.map a.eval).size=0:=by rw[<- aL,b];rfl
  simp only[bh]at p;omega
 |cons x i=>
  have c:∀(j:Nat),(xs.map a.eval)[j]? = (x::i)[j]?:=λj=>by rw[<- b,br]
  have f:i.length=t.length:=by
   have:(xs.map a.eval).size=(x::i).length:=by rw[<- aL,b]
   simp only[bh]at this p;omega
  obtain⟨z,k,g⟩:=jf2 (P:=P) (w:=w) (γ:=γ) (I:=I) isMax i t x v r f (λj y u F H=>l (j+1) y u (by rw[c];simpa using F) (by simpa using H)) (l 0 x v (by rw[c];rfl) rfl) G;refine jc B D (x:=z) ?_ g q;cases isMax;simp only[ah,zc]at k h;simp only[execOp,h,resolve,aB,aG,ak,invoke,builtin,Builtin.min_,b,k];simp only[zd]at k h;simp only[execOp,h,resolve,aB,aG,ak,invoke,builtin,Builtin.max_,b,k]
end
section
variable {P:Program}{E:Env}{w0 w:World}{I0:IMap}{nt:Nat}{γ:Nat->Option Place}{I:IMap}{st:St}{a:Act}{o:Oper}{ub:Nat}{δ:Delta}
def jrw (s:R E w0 I0 nt γ I st a w) (hd:∀d,o.dst=some d->d<nt) {neg:Bool}{t t':TypeId}{x y:Operand}{X U:A}(ho:o.op=.binOp (if neg then .neq else .eql) t x y t') (hx:opd x=some X) (hy:opd y=some U)
 (hk:eqK P t x y=some .ptr) {l u off l' u' f:Nat}(h1:ye E st.tm X=.ptr l u off) (h2:ye E st.tm U=.ptr l' u' f)
 (ha:(if (j0 st.ob l u).isSome&&(j0 st.ob l' u').isSome then one (.bool (xor neg (Nat.beq l l'&&Nat.beq off f))) else none)=some δ):XY P E w0 I0 nt γ I st a w o ub δ:=by
 have D:=jD s hx;have z:=jD s hy;rw[h1]at D;rw[h2]at z;obtain⟨b,k,N,p⟩:=W5 D;obtain⟨r,k',g,hY⟩:=W5 z;simp only[aC,ab,fH]at ha;obtain⟨⟨⟨cs,Q⟩,⟨a0,q⟩⟩,L⟩:=ha;obtain⟨Ω,j⟩:=s.own;obtain⟨c,kc,S,k2,_⟩:=j.ob l _ (ji Q);obtain⟨c',b0,T,q2,_⟩:=j.ob l' _ (ji q);rw[N]at S;rw[g]at T;cases S;cases T;have F:(b=r) ↔ l=l':=by constructor;intro e;subst e;rw[k2]at q2;cases q2;rfl;intro e;subst e;have B:=ji Q;have v:=ji q;rw[B]at v;simp only[ae,Obj'.mk.injEq]at v;obtain⟨rfl,_⟩:=v;rw[N]at g;cases g;rfl
 have J:(Nat.beq l l'&&Nat.beq off f)=decide ((⟨b,off,none⟩:Addr)=⟨r,f,none⟩):=by rw[bz];have B:∀m n:Nat,(Nat.beq m n=true) ↔ m=n:=λm n=>⟨bo,λh=>h▸cL m⟩;simp only[ab,B,ze,Addr.mk.injEq,and_true,F]
 obtain⟨e,M,n,hn,O⟩:=j0l hk;obtain⟨arr,_,m1,_⟩:=Qu s (ji Q) N;obtain⟨Z,_,m2,_⟩:=Qu s (ji q) g;have K:(sameAddr ⟨b,off,none⟩ ⟨r,f,none⟩).run P w=.ok (decide ((⟨b,off,none⟩:Addr)=⟨r,f,none⟩)) w:=by
  by_cases H:b=r;subst H;have:((⟨b,off,none⟩:Addr)==⟨b,f,none⟩)=decide ((⟨b,off,none⟩:Addr)=⟨b,f,none⟩):=by rw[bz];simp
  simp only[sameAddr,beq_self_eq_true,zd,this,aG];have G:(b==r)=false:=by simpa using H
  simp[sameAddr,G,H,noView,viewAt,mayBeOne,stringish,World.shape?,m1,m2,World.frozen?]
 have i:(Op.equal t (a.eval x) (a.eval y)).run P w=.ok (Nat.beq l l'&&Nat.beq off f) w:=by rw[p,hY,J];unfold Op.equal;show(Op.equalIn (9999+1) t _ _).run P w=_;unfold Op.equalIn;simp only[aB,run_underlying M,ak,jr hn,O,ne_eq,not_false_eq_true,zd,K]
 obtain⟨B,v⟩:=jeh t (a.eval x) (a.eval y) _ (by rw[p];simp) (by rw[p];simp) (by rw[p];simp) (by rw[p];simp) i;have h0:(eqGuard (if neg then .neq else .eql) t x y (a.eval x) (a.eval y)).run P w=.ok () w:=jM _ _ _ _ _ _ (by rw[p];simp) (by rw[p];simp);refine jc s hd (x:=.bool (xor neg (Nat.beq l l'&&Nat.beq off f))) ?_ (.pure _ _ (.bool _)) L;simp only[execOp,ho,aB,h0,ak];cases neg;simp only[ah,zc,B,ak,aG,Bool.false_xor];simp only[zd,v,ak,aG,Bool.true_xor]
end
section
variable {P:Program}{E:Env}{w0 w:World}{I0:IMap}{nt:Nat}{γ:Nat->Option Place}{I:IMap}{st:St}{a:Act}{o:Oper}{ub:Nat}{δ:Delta}
def jyn (r:R E w0 I0 nt γ I st a w) (s:∀d,o.dst=some d->d<nt) {x:Operand}{M t:TypeId}{K:A}{l:Bool}{d:TypeDesc}{i:TypeInfo}{z:Value}{F:V}(B:o.op=.typeAssert x M t l) (N:opd x=some K)
 (f:P.underlying t=some d) (g:∀m,d≠.interface m) (hi:P.info? t=some i) (L:i.zero=some z) (H:Wd z=some F)
 (k:(match ye E st.tm K with
  | .iface J v=>if J=t then one (if l then .tup [v,.bool true] else v) else if l then one (.tup [F,.bool false]) else none
  | .nilif=>if l then one (.tup [F,.bool false]) else none
  |_=>none)=some δ):XY P E w0 I0 nt γ I st a w o ub δ:=by
 have D:=jD r N;have q:Rep γ I z F:=.pure _ _ (jbv H);have e:∀(x:Value) (v:V) (b:Bool),Rep γ I x v->Rep γ I (.tuple #[x,.bool b]) (.tup [v,.bool b]):=by
  intro x v b h;refine .tup _ _ rfl (λj y u n f=>?_);match j with
  |0=>simp at n f;subst n;subst f;exact h
  |1=>simp at n f;subst n;subst f;exact .pure _ _ (.bool b)
  |j+2=>simp at f
 split at k;rename_i J v G;rw[G]at D;obtain⟨y,c,n⟩:=jc0 D;split at k;rename_i p;subst p;cases l;refine jc r s (x:=y) ?_ n k;simp only[execOp,B,c,Instr.typeAssert,aB,run_underlying f,ak];cases d<;>first|exact zf rfl (g _)|simp
 refine jc r s (x:=.tuple #[y,.bool true]) ?_ (e _ _ _ n) k;simp only[execOp,B,c,Instr.typeAssert,aB,run_underlying f,ak];cases d<;>first|exact zf rfl (g _)|simp
 rename_i p;cases l;cases k;refine jc r s (x:=.tuple #[z,.bool false]) ?_ (e _ _ _ q) k;simp only[execOp,B,c,Instr.typeAssert,aB,run_underlying f,ak];cases d<;>first|exact zf rfl (g _)|simp[p,JO hi L]
 rename_i G;rw[G]at D;have c:=Wt D;cases l;cases k;refine jc r s (x:=.tuple #[z,.bool false]) ?_ (e _ _ _ q) k;simp only[execOp,B,c,Instr.typeAssert,aB,run_underlying f,ak];cases d<;>first|exact zf rfl (g _)|simp[JO hi L]
 cases k
def jph (M:R E w0 I0 nt γ I st a w) (N:∀d,o.dst=some d->d<nt) (U:γ ub=none) {t e:TypeId}{ps:Array (Nat×Operand)}{l:List (Nat×Nat×A)}{zs:List V}{n s:Nat}{d:Nat}(X:o.op=.buildSlice t n ps)
 (hu:P.underlying t=some (.slice e)) (y:QY P e=some s) (S:Wj P e=some zs) (G:zs.length=s) (m:0<s) (Z:n*s<=16777216) (hl:WD (λi=>some (i*s,s)) ps=some l)
 (ha:((fill (ja8 n zs) (JB (ye E st.tm) l)).bind λcs=>
  if cs.length=n*s/\cs.all V.leaf=true then Jo d ub (.cells cs) (.osl d ub 0 n s) else none)=some δ):XY P E w0 I0 nt γ I st a w o ub δ:=by
 obtain⟨cs,F,j⟩:=yc ha;split at j;rename_i Q;obtain⟨i,z,K,D,r,c⟩:=Yo (I:=I) S;subst G;obtain⟨b,O,B⟩:=jfb M (QS hl) (je2 (γ:=γ) (I:=I) r c n (.inr m)) F;have q:n<=maxLen:=by have:n<=n*zs.length:=fL n m;simp only[maxLen];omega
 refine WU M N U (x:=.slice (some ⟨w.heap.size,0,none⟩) n n) (obj:=.cells b e) (k:=.n b.size) (body:=.cells cs) ?_ rfl (λa0 h=>.osl _ _ _ _ _ _ _ _ _ h (λ_=>⟨rfl,by rw[B.1,Q.1,bK];exact dx _⟩) zK q)
  ⟨b,e,rfl,rfl,fh B.1.symm,B.2⟩ j
 have T:i.size=zs.length:=by unfold QY at y;rw[K]at y;exact cm y
 have v:¬(n*zs.length > 16777216):=zO;have g:Instr.fill (λi=>some (i*zs.length,zs.length)) ((Array.range (n*zs.length)).map (z.cells[· % z.cells.size]!)) ((ps.map λ(p:Nat×Operand)=>(p.1,a.eval p.2)).toList)=some b:=by rw[fT];exact O
 have u:(Instr.buildSlice t n (ps.map λ(p:Nat×Operand)=>(p.1,a.eval p.2))).run P w=.ok (.slice (some ⟨w.heap.size,0,none⟩) n n) (w.alloc (.cells b e)):=by
  unfold Instr.buildSlice;simp only[aB,run_underlying hu,ak,jr y,Nat.reducePow,v,zc];by_cases J:n*zs.length=0;have H:n=0:=by rcases eR.1 J with h|h<;>omega
  subst H;have L:∀f:Nat->Value,(Array.range 0).map f=#[]:=λf=>by simp[Array.range]
  simp only[dE,L]at g;simp only[dE,zd,L,g];simp[newRow];simp only[J,zc,aB,JO K D,ak,aG,g];simp[newRow]
 simp only[execOp,X,aB,u,ak,aG];cases j
end
section
variable {P:Program}{E:Env}{w0 w:World}{I0:IMap}{nt:Nat}{γ:Nat->Option Place}{I:IMap}{st:St}{a:Act}{o:Oper}{ub:Nat}{δ:Delta}
def j2r {zs:List V}{n m j:Nat}{v:V}(d:n<=m) (h:(ja8 n zs)[j]? = some v):(ja8 m zs)[j]? = some v:=by
 have b:j<n*zs.length:=by have:=(aj.1 h).1;simpa[ja8] using this
 have c:n*zs.length<=m*zs.length:=bf _ d;simp only[ja8,aV]at h ⊢;rw[dp b]at h;rw[dp zO];exact h
def j8r (H:R E w0 I0 nt γ I st a w) (U:∀d,o.dst=some d->d<nt) (hf:γ ub=none) {t e:TypeId}{x y:Operand}{Z X:A}{i:TypeInfo}{zs:List V}{d:Nat}{m:Bool}(ho:o.op=.makeSlice t x y) (L:opd x=some Z) (O:opd y=some X)
 (hu:P.underlying t=some (.slice e)) (hi:P.info? e=some i) (hz:Wj P e=some zs)
 (r:(match ye E st.tm Z,ye E st.tm X with
  | .int .i64 l,.int .i64 c=>if 0<=l/\l<=c/\c*i.bytes<=140737488355328/\c<=140737488355328/\zs.length=i.size/\0<i.size then
   (if !m/\l=0 then some { v:=V.sl (some (ub,i.size)) false 0 [],add:=[ub] } else Jo d ub (.cells (ja8 l.toNat zs)) (.osl d ub 0 l.toNat i.size)) else none
  |_,_=>none)=some δ):XY P E w0 I0 nt γ I st a w o ub δ:=by
 have K:=jD H L;have G:=jD H O;split at r;rename_i l c hl hc;rw[hl]at K;rw[hc]at G;have hX:=JE K;have hY:=JE G;split at r;rename_i q;obtain⟨h0,Q,hb,a0,B,b0⟩:=q;obtain⟨i',z,s,N,D,p⟩:=Yo (I:=I) hz;rw[hi]at s;cases s;have S:(i.bytes:Int)*c<=281474976710656:=by rw[Int.mul_comm];omega
 have F:=run_make (P:=P) w t e i z hu hi N .i64 .i64 l c h0 Q S zO;have f:(execOp a.eval o).run P w=.ok (.value (.slice (some ⟨w.heap.size,0,none⟩) l.toNat c.toNat)) (w.alloc (.cells (madeCells z.cells (c.toNat*i.size)) e)):=by simp only[execOp,ho,aB,hX,hY,F,ak,aG]
 have u:c.toNat<=maxLen:=by simp only[maxLen];omega
 split at r;rename_i M;obtain⟨_,rfl⟩:=M;refine jqx H U hf (b:=w.heap.size) (n:=0) (cap:=c.toNat) (sz:=i.size) (cs:=[]) (w':=w.alloc _) (del:=none) (arr:=madeCells z.cells (c.toNat*i.size)) (e:=e)
  f (.inl ⟨rfl,zS⟩) ⟨rfl,rfl,rfl⟩ (λk hk _=>heap_alloc_old _ _ _ hk) (heap_alloc_new _ _) (size_madeCells _ _) (ch _) u (λj y O=>?_) zS (λj v T=>by simp at T) r
 exact zf (bT _ _ (H.imm _ _ _ O)) (ey _);have J:=je2 (γ:=γ) (I:=I) D p c.toNat (.inr zO);have g:l.toNat<=c.toNat:=zO;refine WU H U hf (x:=.slice (some ⟨w.heap.size,0,none⟩) l.toNat c.toNat) (k:=.n (c.toNat*i.size)) (body:=.cells (ja8 l.toNat zs)) f rfl
  (λb5 h=>.osl _ _ _ _ _ _ _ _ _ h (λ_=>⟨rfl,by show 0+c.toNat*i.size<=c.toNat*i.size;omega⟩) g u) ⟨_,e,rfl,size_madeCells _ _,?_,λj x v L T=>?_⟩ r
 simp only[ja8,bm,List.length_range,B];exact bf _ g;refine J.2 j x v ?_ (j2r g T);rw[<- B]at L;exact L;cases r;cases r
end
def jjl:∀(l:List UInt8) (c:UInt8),jd0 l c=Lib.indexByte l c
 |[],_=>rfl
 |b::l,c=>by simp only[jd0,Lib.indexByte,jjl l c]
section
variable {P:Program}{E:Env}{w0 w:World}{I0:IMap}{nt:Nat}{γ:Nat->Option Place}{I:IMap}{st:St}{a:Act}{o:Oper}{ub:Nat}{δ:Delta}
def jsy {fn:Func} {k:ExtK} (ho:fn.origin = "") (hn:(fn.name = "internal/bytealg.CountString" /\k=.count)\/(fn.name = "internal/bytealg.IndexByteString" /\k=.indexByte)) :
 Extern.findNext fn=none/\Extern.find fn=some (match k with|.count=>Extern.BytealgCount.count|.indexByte=>Extern.BytealgIndexByte.indexByte):=by
 rcases hn with⟨h,rfl⟩|⟨h,rfl⟩;constructor;unfold Extern.findNext;simp only[ho,h];rfl;unfold Extern.find;simp only[ho,h];rfl;constructor;unfold Extern.findNext;simp only[ho,h];rfl;unfold Extern.find;simp only[ho,h];rfl
end
section
variable {P:Program}{E:Env}{w0 w:World}{I0:IMap}{nt:Nat}{γ:Nat->Option Place}{I:IMap}{st:St}{a:Act}{o:Oper}{ub:Nat}{δ:Delta}
def any_beq {l:List Nat}{k:Nat}:l.any (Nat.beq k)=true ↔ k∈l:=by rw[bD];constructor;rintro⟨x,b,h⟩;exact(bo h)▸b;intro h;exact⟨k,h,cL k⟩
def j6c (G:R E w0 I0 nt γ I st a w) (hd:∀d,o.dst=some d->d<nt) (hf:γ ub=none) {b d:Nat}{k:Kd}{cs:List V}{x:Value}{v:V}{w':World}{kill:List Nat}
 (b0:(execOp a.eval o).run P w=.ok (.value x) w')
 (hb:(b=w.heap.size/\w'.heap.size=w.heap.size+1)\/(∃L X K k0,st.ob L=some ⟨X,.cells K⟩/\γ X=some (.obj b k0)/\L∈kill/\Nat.ble st.ro X=true/\w'.heap.size=w.heap.size))
 (S:w'.os=w.os/\w'.tape=w.tape/\w'.output=w.output) (hk:∀k,k<w.heap.size->k≠b->w'.heap[k]? = w.heap[k]?)
 (hx:∀b7:Nat->Option Place,b7 ub=some (.obj b k)->Rep b7 I x v) (B:ObjOk γ I st.ob w.heap k w'.heap[b]? (.cells cs))
 (a0:some { v:=v,obs:=[(d,⟨ub,.cells cs⟩)],kill:=kill }=some δ):XY P E w0 I0 nt γ I st a w o ub δ:=by
 simp only[ae]at a0;subst a0;obtain⟨Ω,s⟩:=G.own;have g:=Q7 (f:=γ) (k:=ub) (v:=Place.obj b k) hf;have c0:(st.app o.dst { v:=v,obs:=[(d,⟨ub,.cells cs⟩)],kill:=kill }).ob=upd (λk=>if kill.any (Nat.beq k) then none else st.ob k) d (some ⟨ub,.cells cs⟩):=by simp only[St.app,Ji]
 have D:∀l x,l≠d->(upd (λk=>if kill.any (Nat.beq k) then none else st.ob k) d (some ⟨ub,.cells cs⟩)) l=some x->st.ob l=some x/\l ∉ kill:=by intro l x p z;rw[JQ _ _ p]at z;split at z;cases z;rename_i h;exact⟨z,λhm=>h (any_beq.2 hm)⟩
 have hB:w0.heap.size<=b:=by rcases hb with⟨h,_⟩|⟨L,X,K,k0,U,Z,_,h4,_⟩;rw[h];exact G.fr.size;obtain⟨i,k',H,q2,q3,_⟩:=s.ob L _ U;rw[Z]at H;cases H;exact q3 (by simpa[bY] using h4)
 have c3:w.heap.size<=w'.heap.size:=by rcases hb with⟨_,h⟩|⟨_,_,_,_,_,_,_,_,h⟩<;>omega
 have J:=B;obtain⟨arr,e,b6,_,_,_⟩:=J;have b9:b<w'.heap.size:=(aO.1 b6).1;have b5:∀j,I b j=none:=by
  intro j;rcases hb with⟨h,_⟩|⟨L,X,K,k0,U,Z,_,h4,_⟩;cases hj:I b j with
  |none=>rfl
  |some y=>exact zf (bT _ _ (G.imm _ _ _ hj)) (by rw[h];exact ey _)
  obtain⟨i,k',H,_,_,_,q5⟩:=s.ob L _ U;rw[Z]at H;cases H;exact q5 j
 have q:∀i ow,Ω i=some ow->(∀l,ow=.ob l->l ∉ kill)->i≠b:=by intro i ow U Z e;subst e;rcases hb with⟨h,_⟩|⟨L,X,K,k0,H,q2,q3,_,_⟩;have:=s.lt _ _ U;omega;obtain⟨i,k',r1,r2,_⟩:=s.ob L _ H;rw[q2]at r1;cases r1;rw[U]at r2;cases r2;exact Z L rfl q3
 have F:YO γ st.ob (upd (λk=>if kill.any (Nat.beq k) then none else st.ob k) d (some ⟨ub,.cells cs⟩)) w.heap w'.heap:=by intro l2 u2 c4 c6 mb mk b8 r;by_cases p:l2=d;subst p;simp at r;obtain⟨r,N⟩:=D l2 _ p r;refine .inl ⟨r,λm c c2=>?_⟩;obtain⟨b2,c5,H,q2,_⟩:=s.ob l2 _ r;rw[b8]at H;cases H;rw[hk mb (s.lt _ _ q2) (q mb _ q2 (λl h=>by cases h;exact N))];exact c2
 refine⟨x,w',upd γ ub (some (.obj b k)),I,.inl b0,⟨(WO _ _ _).trans G.sz,jep G g _ _,?_,⟨?_,G.gl,⟨upd Ω b (some (.ob d)),⟨?_,?_,?_⟩⟩,?_,G.old⟩⟩,?_,g,λ_ _ _ h=>h⟩;exact Qq (by rw[G.sz];exact hd) (λt=>(G.tm t).mono g (λ_ _ _ h=>h)) (hx _ zS);intro i j y hy;have n:i≠b:=λh=>by rw[h,b5]at hy;cases hy
 have hc:=G.imm _ _ _ hy;rw[ew (w:=w) (w':=w') (a:=⟨i,j,none⟩) (hk i (bT _ _ hc) n)];exact hc;intro l ob z;rw[c0]at z ⊢;by_cases p:l=d;subst p;simp only[WL,ae]at z;subst z;exact⟨b,k,zS,zS,λ_=>hB,(ObjOk.keep B F).mono g (λ_ _ _ h=>h),b5⟩;obtain⟨z,N⟩:=D l _ p z;obtain⟨i,k',k1,O,k3,k4,k5⟩:=s.ob l ob z;have n:=q i _ O (λl h=>by cases h;exact N);refine⟨i,k',g _ _ k1,by rw[JQ _ _ n];exact O,k3,?_,k5⟩;rw[hk i (s.lt _ _ O) n];exact(k4.keep F).mono g (λ_ _ _ h=>h);intro u hu;have c1:st.tk u=true:=by simpa[St.app,Xs] using hu
 obtain⟨i,n',c',s',k1,O,k3,k4,k5⟩:=s.tk u c1;have n:=q i _ O (λl h=>by cases h);refine⟨i,n',c',s',g _ _ k1,by rw[JQ _ _ n];exact O,k3,?_,k5⟩;rw[hk i (s.lt _ _ O) n];exact k4;intro i ow Q;rw[yg]at Q;split at Q;rename_i h;subst h;exact b9;have:=s.lt i _ Q;omega;exact Grow.frame G.fr (T:=λk=>k=b) ⟨S.1,S.2.1,S.2.2,c3,λk M n=>hk k M n,λk M=>M▸hB⟩;intro u hu;exact JQ _ _ (λe=>hu ⟨zO,zO⟩)
def jda {cs ys:List V}{arr:Array Value}{k:Nat}(d:cs.length=k) (f:∀(j:Nat) (x:Value) (v:V),arr[j]? = some x->cs[j]? = some v->v.leaf=true/\Rep γ I x v)
 (e:∀(j:Nat) (x:Value) (v:V),arr[k+j]? = some x->ys[j]? = some v->v.leaf=true/\Rep γ I x v) :
 ∀(j:Nat) (x:Value) (v:V),arr[j]? = some x->(cs++ys)[j]? = some v->v.leaf=true/\Rep γ I x v:=by
 intro j x v c b;by_cases g:j<k;rw[bl zO]at b;exact f j x v c b;rw[bw zO]at b;refine e (j-cs.length) x v ?_ b;rw[d,show k+(j-k)=j by omega];exact c
def ji0 (hR:R E w0 I0 nt γ I st a w) (hd:∀d,o.dst=some d->d<nt) (hf:γ ub=none) {t e:TypeId}{s x:Operand}{s' x':A}{i:TypeInfo}{z:Value}{d:Nat}(ho:o.op=.call { callee:=.builtin .append,args:=#[s,x],argTypes:=#[t,t] })
 (hs:opd s=some s') (p:opd x=some x') (hu:P.underlying t=some (.slice e)) (hi:P.info? e=some i) (hz:i.zero=some z) (c5:0<i.size) (e4:z.cells.size=i.size)
 {ys:List V}(d0:jF st.ob i.size (ye E st.tm x')=some ys)
 (ha:(∃t0 n cs,ye E st.tm s'=.sl t0 true n cs/\ys≠[]/\ys.all V.leaf=true/\(ys.length/i.size)*i.bytes<=140737488355328/\ys.length/i.size<=140737488355328 /\
  Jo d ub (.cells ys) (.osl d ub 0 (ys.length/i.size) i.size)=some δ) \/
  ∃l u off n a0 cs,ye E st.tm s'=.osl l u off n a0/\j0 st.ob l u=some cs /\
   (if ys=[] then one (.osl l u off n a0) else
   if Nat.ble st.ro u=true/\a0=i.size/\off=0/\n*i.size<=cs.length/\0<i.size/\ys.all V.leaf=true/\(n+ys.length/i.size)*i.bytes<=140737488355328/\n+ys.length/i.size<=140737488355328 then
    some { v:=V.osl d ub 0 (n+ys.length/i.size) i.size,obs:=[(d,⟨ub,.cells (cs.take (n*i.size)++ys)⟩)],kill:=[l] } else none)=some δ):XY P E w0 I0 nt γ I st a w o ub δ:=by
 have S:=jD hR hs
 have d3:=jD hR p
 have H:∀(v:Value) (w':World),(Builtin.append_ #[t,t] o.type #[a.eval s,a.eval x]).run P w=.ok v w'->(execOp a.eval o).run P w=.ok (.value v) w':=by
  intro v w' h
  simp only[execOp,ho,resolve,aB,aG,ak,invoke,builtin,db,bc,co,h]
 -- what is appended
 have b8:ys≠[]->ys.all V.leaf=true->∃(N:Addr) (m c:Nat) (f:List Value),a.eval x=.slice (some N) m c/\m<=c/\ys.length=m*i.size/\0<m/\ys.length/i.size=m/\f.length=m*i.size /\
  (∀(j:Nat) (u:Value),f[j]? = some u->w.cell? (N.add j)=some u)/\(∀(j:Nat) (x:Value) (v:V),f[j]? = some x->ys[j]? = some v->v.leaf=true/\Rep γ I x v)/\(∀u∈f,u.oneCell'=true):=by
  intro L hp
  rcases jkc hR d3 d0 hp c5 with⟨_,h⟩|⟨N,m,c,f,hX,c1,r,B,g,M,U⟩
  ·exact zf h L
  ·have b0:0<m:=by
    rcases cI m with h|h
    ·subst h
     simp only[dE]at r
     exact zf (dY r) L
    ·exact h
   exact⟨N,m,c,f,hX,c1,r,b0,by rw[r];exact eE _ c5,zO,g,λj x v p y=>⟨av.1 hp v (aH y),M j x v p y⟩,U⟩
 -- a new row
 have T:∀(D:List Value) (cs:List V) (n m old:Nat) (f:List Value) (kill:List Nat),D.length=n*i.size->cs.length=n*i.size->f.length=m*i.size->ys.length=m*i.size->ys.length/i.size=m->n+m<=140737488355328 ->
  (∀(j:Nat) (x:Value) (v:V),D[j]? = some x->cs[j]? = some v->v.leaf=true/\Rep γ I x v)->(∀(j:Nat) (x:Value) (v:V),f[j]? = some x->ys[j]? = some v->v.leaf=true/\Rep γ I x v) ->
  (Builtin.append_ #[t,t] o.type #[a.eval s,a.eval x]).run P w=.ok (.slice (some ⟨w.heap.size,0,none⟩) (n+m) (grownCap w (n+m) old e)) (w.drew.alloc (.cells (D.toArray++f.toArray++Builtin.zeroCells z.cells (grownCap w (n+m) old e-(n+m))) e)) ->
  some { v:=V.osl d ub 0 (n+ys.length/i.size) i.size,obs:=[(d,⟨ub,.cells (cs++ys)⟩)],kill:=kill }=some δ->XY P E w0 I0 nt γ I st a w o ub δ:=by
  intro D cs n m old f kill Q e3 B r hm X J g q Z
  have d7:=grownCap_ge w (n+m) old e
  have b9:=grownCap_le_maxLen w (n+m) old e (by simp only[maxLen];omega)
  rw[hm]at Z
  have c0:(D.toArray++f.toArray++Builtin.zeroCells z.cells (grownCap w (n+m) old e-(n+m))).size=grownCap w (n+m) old e*i.size:=by
   simp only[gY,cR,size_zeroCells,e4,Q,B,<- Nat.add_mul]
   congr 1
   omega
  refine j6c hR hd hf (b:=w.heap.size) (k:=.n (grownCap w (n+m) old e*i.size)) (H _ _ q) (.inl ⟨rfl,zS⟩) ⟨rfl,rfl,rfl⟩ (λk hk _=>heap_alloc_old w.drew _ k hk)
   (λe8 h=>.osl _ _ _ _ _ _ _ _ _ h (λ_=>⟨rfl,by rw[bK];exact dx _⟩) d7 b9) ?_ Z
  refine⟨_,e,heap_alloc_new w.drew _,c0,?_,?_⟩
  ·show(cs++ys).length<=grownCap w (n+m) old e*i.size
   rw[aw,e3,r,<- Nat.add_mul]
   exact bf _ d7
  ·refine jda e3 (λj x v p y=>?_) (λj x v p y=>?_)
   ·have K:j<D.length:=by have:=(aj.1 y).1;omega
    rw[cq (by simp;omega),cq (by simpa using K)]at p
    exact J j x v (by simpa using p) y
   ·have K:j<f.length:=by have:=(aj.1 y).1;omega
    rw[cq (by simp;omega),ek (by simp;omega)]at p
    simp only[cR,Q,fM]at p
    exact g j x v (by simpa using p) y
 rcases ha with⟨t0,n,cs,c4,L,hp,c7,X,Z⟩|⟨l,u,off,n,a0,cs,c4,e7,ha⟩
 ·obtain⟨N,m,c,f,hX,c1,r,b0,hm,B,g,M,U⟩:=b8 L hp
  rw[c4]at S
  rw[hm]at c7 X
  have hS:a.eval s=.slice none 0 0:=by
   rcases YX S with⟨h,_⟩|⟨_,_,_,_,h,_⟩
   ·exact h
   ·cases h
  have e5:m*i.bytes<=281474976710656:=zO
  have q:=run_append_nil (P:=P) w t o.type e i z hu hi hz N m c f B g b0 zO e5
  refine T [] [] 0 m 0 f [] zS zS B r hm zO (λj x v p=>by simp at p) M ?_ ?_
  ·rw[hS,hX,bK,q];simp
  ·rw[<- Z]
   simp[Jo]
 ·rw[c4]at S
  have c9:=S
  obtain⟨b,kb,b5,O,d9,hS,d4,hc,b9⟩:=YC S
  split at ha
  ·rename_i d1
   subst d1
   have hX:a.eval x=.slice none 0 0\/∃N c,a.eval x=.slice (some N) 0 c:=by
    rcases jkc hR d3 d0 rfl c5 with⟨h,_⟩|⟨N,m,c,f,h,_,hl,_⟩
    ·exact .inl h
    ·have:m=0:=by
      simp only[ct]at hl
      rcases eR.1 hl.symm with h|h<;>omega
     subst this
     exact .inr ⟨N,c,h⟩
   refine jc hR hd (x:=a.eval s) (H _ _ ?_) c9 ha
   rw[hS]
   exact Qp t o.type e i hu hi (some b5) n O hc _ hX
  ·rename_i L
   split at ha
   case isFalse=>cases ha
   rename_i c2
   obtain⟨e6,c0,d6,e9,_,hp,c7,X⟩:=c2
   subst c0
   subst d6
   obtain⟨N,m,c,f,hX,c1,r,b0,hm,B,g,M,U⟩:=b8 L hp
   have d8:=X
   have b6:=c7
   rw[hm]at b6 d8
   have e1:=ji e7
   obtain⟨arr,e',g1,g2,g3,g4⟩:=Qu hR e1 d9
   have c3:(cs.take (n*i.size)).length=n*i.size:=by rw[ai];omega
   have b7:∀j,j<n*i.size->arr[j]? = some (arr.getD j undef):=by
    intro j K
    have:j<arr.size:=zO
    simp[this]
   have d5:0<n*i.size->b5=⟨b,0,none⟩:=λh=>(d4 (by
    rcases cI n with h0|h0
    ·subst h0;simp at h
    ·omega)).1
   by_cases G:n+m<=O
   ·have c6:0<O:=zO
    obtain⟨e2,F⟩:=d4 c6
    rw[bK]at F
    have d2:n*i.size+f.length<=arr.size:=by rw[B,g2,<- Nat.add_mul];exact bL (bf _ G) F
    have c8:=ha
    rw[hm]at c8
    have q:=QU (P:=P) (w:=w) t o.type e e' i hu hi b n O arr g1 N m c f B g U G d2
    refine j6c hR hd hf (b:=b) (k:=kb) (w':=w.setRow b _) (H _ _ (by rw[hS,hX,e2];exact q)) (.inr ⟨l,u,cs,kb,e1,d9,ag.2 rfl,e6,zS⟩) ⟨rfl,rfl,rfl⟩
     (λk _ hk=>setRow_other w _ k _ hk) (λe8 h=>.osl _ _ _ _ _ _ _ _ _ h (λ_=>⟨rfl,by rw[bK];exact F⟩) G b9) ?_ c8
    refine⟨_,e',setRow_heap w _ arr _ e' _ g1,?_,?_,?_⟩
    ·rw[<- g2]
     simp only[cR,aw,ai,aY,aL]
     omega
    ·rw[aw,c3,r,<- Nat.add_mul]
     exact bL (bf _ G) F
    ·refine jda c3 (λj x v p y=>?_) (λj x v p y=>?_)
     ·have K:j<n*i.size:=by have:=(aj.1 y).1;omega
      simp only[bO]at p
      rw[bj,bl (by simp only[ai,aL];omega),bi K]at p
      rw[bi K]at y
      exact g4 j x v (by simpa using p) y
     ·have K:j<f.length:=by have:=(aj.1 y).1;omega
      simp only[bO]at p
      rw[bl (by simp only[aw,ai,aL];omega),bw (by simp only[ai,aL];omega)]at p
      have hq:n*i.size+j-(List.take (n*i.size) arr.toList).length=j:=by simp only[ai,aL];omega
      rw[hq]at p
      exact M j x v p y
   ·have J:∀(j:Nat) (v:Value),((List.range (n*i.size)).map λj=>arr.getD j undef)[j]? = some v->w.cell? (b5.add j)=some v:=by
     intro j v y
     simp only[aV,bn]at y
     obtain⟨k,hk,rfl⟩:=y
     have K:j<n*i.size:=by have:=(aj.1 hk).1;simpa using this
     rw[dp K]at hk
     cases hk
     rw[d5 zO,Xe,bK]
     simp only[World.cell?,g1,cM,ah,zc]
     exact b7 j K
    have e0:((List.range (n*i.size)).map λj=>arr.getD j undef).length=n*i.size:=zS
    have q:=run_append_grow (P:=P) w t o.type e i z hu hi hz b5 n O _ e0 J N m c f B g zO zO (growslice_fits zO b6)
    refine T _ _ n m O f [l] e0 c3 B r hm zO (λj x v p y=>?_) M (by rw[hS,hX];exact q) ha
    have K:j<n*i.size:=by have:=(aj.1 y).1;omega
    rw[bi K]at y
    simp only[aV,dp K,aU,ae]at p
    subst p
    exact g4 j _ v (b7 j K) y
end
section
variable {P:Program}{E:Env}{w0 w:World}{I0:IMap}{nt:Nat}{γ:Nat->Option Place}{I:IMap}{st:St}{a:Act}{o:Oper}{ub:Nat}{δ:Delta}
def jie {ob:ZO}{hp:Array Obj}{k:Kd}{arr:Array Value}{e:TypeId}{cs vs:List V}{vals:List Value}{off:Nat}(n:arr.size=k.size) (m:cs.length<=k.size)
 (h:∀(j:Nat) (x:Value) (v:V),arr[j]? = some x->cs[j]? = some v->v.leaf=true/\Rep γ I x v) (p:vals.length=vs.length) (f:off+vs.length<=cs.length)
 (i:∀(j:Nat) (x:Value) (v:V),vals[j]? = some x->vs[j]? = some v->v.leaf=true/\Rep γ I x v) :
 ObjOk γ I ob hp k (some (.cells (arr.toList.take off++vals++arr.toList.drop (off+vals.length)).toArray e (0,0))) (.cells (j6 cs off vs)):=by
 refine⟨_,e,rfl,?_,by rw[Q9 _ _ _ zO];exact m,?_⟩;simp only[cR,aw,ai,aY,aL];omega;intro j x v c b;rw[jdl _ _ _ zO]at b;simp only[bO]at c;by_cases g:off<=j/\j<off+vs.length;rw[zb g]at b;rw[bl (by simp only[aw,ai,aL];omega),bw (by simp only[ai,aL];omega)]at c;have d:j-(List.take off arr.toList).length=j-off:=by simp only[ai,aL];omega
 rw[d]at c;exact i (j-off) x v c b;rw[za g]at b;refine h j x v ?_ b;by_cases l:j<off;rw[bj,bl (by simp only[ai,aL];omega),bi l]at c;simpa using c;rw[bw (by simp only[aw,ai,aL];omega),bC]at c;have d:off+vals.length+(j-(List.take off arr.toList++vals).length)=j:=by simp only[aw,ai,aL];omega
 rw[d]at c;simpa using c
def jos {l u off n sz:Nat}{cs vs:List V}{vals:List Value}{b:Nat}{M:Kd}{K:Addr}{cap:Nat}(T:R E w0 I0 nt γ I st a w) (y:st.ob l=some ⟨u,.cells cs⟩) (z:γ u=some (.obj b M))
 (F:0<cap->K=⟨b,off,none⟩/\off+cap*sz<=M.size) (hc:n<=cap) (q:vals.length=vs.length) (d:off+vs.length<=cs.length) (Q:vs.length<=n*sz)
 (r:∀(j:Nat) (x:Value) (v:V),vals[j]? = some x->vs[j]? = some v->v.leaf=true/\Rep γ I x v) :
 ∃f,(storeCells K vals).run P w=.ok () f/\∀i k,γ u=some (.obj i k)->i<w.heap.size->(f.os=w.os/\f.tape=w.tape/\f.output=w.output/\f.heap.size=w.heap.size/\(∀k,k≠i->f.heap[k]? = w.heap[k]?) /\
  ObjOk γ I st.ob w.heap k f.heap[i]? (.cells (j6 cs off vs))):=by
 obtain⟨arr,e,B,G,L,H⟩:=Qu T y z;cases g:vals with
 |nil=>rw[g]at q r;have D:vs=[]:=dY q.symm;subst D;refine⟨w,rfl,λi k c s=>?_⟩;rw[z]at c;cases c;refine⟨rfl,rfl,rfl,rfl,λ_ _=>rfl,?_⟩;have:=jie (ob:=st.ob) (hp:=w.heap) (e:=e) (vs:=[]) (vals:=[]) G L H rfl d r;simp only[aP,ct,bp,du,Array.toArray_toList]at this;rw[B];exact this
 |cons v0 vr=>
  rw[<- g];have J:0<vs.length:=by rw[<- q,g];simp
  have X:0<n:=by rcases cI n with h|h;subst h;simp only[dE]at Q;omega;exact h
  obtain⟨rfl,_⟩:=F zO;have p:∀v∈vals,v.oneCell'=true:=by intro v t;obtain⟨j,S,rfl⟩:=cw.1 t;have O:vs[j]? = some (vs[j]' zO):=aa _;obtain⟨U,Z⟩:=r j _ _ (aa S) O;exact Z.oneCell U
  have m:=run_storeCells_at P b off e vals 0 arr w B (by simp only[bp];omega) p;simp only[bp]at m;refine⟨_,m,λi k c s=>?_⟩;rw[z]at c;cases c;refine⟨rfl,rfl,rfl,zS,λk N=>setRow_other w b k _ N,?_⟩;rw[setRow_heap w b arr _ e _ B];exact jie G L H q d r
def j8u (H:R E w0 I0 nt γ I st a w) (hd:∀d,o.dst=some d->d<nt) {t e:TypeId}{s x:Operand}{s' x':A}{sz:Nat}{K:Array TypeId}(ho:o.op=.call { callee:=.builtin .copy,args:=#[s,x],argTypes:=K })
 (ht:K[0]? = some t) (hs:opd s=some s') (hx:opd x=some x') (hu:P.underlying t=some (.slice e)) (hi:QY P e=some sz)
 (q:((jF st.ob sz (ye E st.tm x')).bind λG=>match ye E st.tm s' with
  | .osl l u off n f=>if Nat.ble st.ro u=true/\f=sz/\0<sz/\G.all V.leaf=true then (j0 st.ob l u).bind λcs=>
   if off+n*sz<=cs.length then some { v:=V.int .i64 (Nat.min (G.length/sz) n:Nat),obs:=[(l,⟨u,.cells (j6 cs off (G.take (Nat.min (G.length/sz) n*sz)))⟩)] } else none else none
  | .sl _ _ 0 []=>one (.int .i64 0)
  |_=>none)=some δ):XY P E w0 I0 nt γ I st a w o ub δ:=by
 have y:=jD H hs;have g:=jD H hx;have i:∀(v:Value) (M:World),(Builtin.copy_ K o.type #[a.eval s,a.eval x]).run P w=.ok v M->(execOp a.eval o).run P w=.ok (.value v) M:=by intro v M h;simp only[execOp,ho,resolve,aB,aG,ak,invoke,builtin,db,bc,co,h]
 obtain⟨G,k,q⟩:=yc q;split at q
 ·rename_i l u off n f he;rw[he]at y;split at q;case isFalse=>cases q
  rename_i N;obtain⟨a0,b8,b0,hp⟩:=N;subst b8;obtain⟨cs,c2,q⟩:=yc q;split at q;case isFalse=>cases q
  rename_i d0;obtain⟨b,kb,D,B,Z,S,X,hc,c4⟩:=YC y;have z:=ji c2;rcases jkc H g k hp b0 with⟨T,U⟩|⟨Q,m,c,r,T,c6,c0,c9,J,b6,c5⟩;subst U;obtain⟨M,O,L⟩:=jos (P:=P) (n:=n) (vs:=[]) (vals:=[]) H z Z X hc rfl (by simp only[ct];omega) (ch _) (λj x v h=>by simp at h);have h0:Nat.min ([]:List V).length n=0:=zS;have hz:Nat.min (([]:List V).length/f) n=0:=zS;refine Wm H hd z a0 (body':=.cells _) (x:=.int .i64 (Nat.min (([]:List V).length/f) n:Nat)) (.inl (i _ M ?_)) (.pure _ _ (.int _ _)) (λv es h=>by cases h) ?_ q;rw[S,T,hz];have hm:Nat.min 0 n=0:=zS;simp only[Builtin.copy_,ht,bO,aD,bS,aB,run_underlying hu,ak,Builtin.lenOf,aG,jr hi,run_firstCells_none,hm,O,goInt];rw[List.take_nil];exact L;have hm:G.length/f=m:=by rw[c0];exact eE _ b0
  rw[hm]at q;have c1:Nat.min m n<=m:=eS _ _;have b5:Nat.min m n<=n:=Nat.min_le_right _ _;have c8:Nat.min m n*f<=m*f:=bf _ c1;have c3:Nat.min m n*f<=n*f:=bf _ b5;have c7:(G.take (Nat.min m n*f)).length=Nat.min m n*f:=by rw[ai];omega
  have b7:(r.take (Nat.min m n*f)).length=Nat.min m n*f:=by rw[ai];omega
  obtain⟨M,O,L⟩:=jos (P:=P) (n:=n) (vs:=G.take (Nat.min m n*f)) (vals:=r.take (Nat.min m n*f)) H z Z X hc zO zO zO (λj x v hx F=>by
   have hj:j<Nat.min m n*f:=by have:=(aj.1 F).1;omega
   rw[bi hj]at hx F;exact⟨av.1 hp v (aH F),b6 j x v hx F⟩)
  refine Wm H hd z a0 (body':=.cells _) (x:=.int .i64 (Nat.min m n:Nat)) (.inl (i _ M ?_)) (.pure _ _ (.int _ _)) (λv es h=>by cases h) L q;rw[S,T];have hf:=run_firstCells_some (P:=P) w f (Nat.min m n) Q m c (r.take (Nat.min m n*f)) b7 (λj v F=>by
   have hj:j<Nat.min m n*f:=by have:=(aj.1 F).1;omega
   rw[bi hj]at F;exact J j v F)
  simp only[Builtin.copy_,ht,bO,aD,bS,aB,run_underlying hu,ak,Builtin.lenOf,aG,jr hi,hf,O,goInt]
 rename_i t0 nl he;rw[he]at y;have T:∃m,(Builtin.lenOf (a.eval x)).run P w=.ok m w:=by unfold jF at k;split at k;rename_i p;rw[p]at g;rcases YX g with⟨h,_⟩|⟨_,_,_,h,_⟩<;>rw[h]<;>exact⟨_,rfl⟩;rename_i p;rw[p]at g;obtain⟨_,_,_,_,_,h,_⟩:=YC g;rw[h];exact⟨_,rfl⟩;cases k
 obtain⟨m,hm⟩:=T;have b9:(∃n c,a.eval x=.slice none n c)\/∃Q n c,a.eval x=.slice (some Q) n c:=by unfold jF at k;split at k;rename_i p;rw[p]at g;rcases YX g with⟨h,_⟩|⟨_,_,_,h,_⟩;exact .inl ⟨_,_,h⟩;exact .inr ⟨_,_,_,h⟩;rename_i p;rw[p]at g;obtain⟨_,_,_,_,_,h,_⟩:=YC g;exact .inr ⟨_,_,_,h⟩;cases k
 have S:∃D B,a.eval s=.slice D 0 B:=by rcases YX y with⟨h,_⟩|⟨Q,B,_,h,_⟩;exact⟨_,_,h⟩;exact⟨_,_,h⟩
 obtain⟨D,B,S⟩:=S;have hf:(Builtin.firstCells sz 0 (a.eval x)).run P w=.ok #[] w:=by rcases b9 with⟨n,c,h⟩|⟨Q,n,c,h⟩;rw[h];exact run_firstCells_none w sz 0 n c;rw[h];exact run_firstCells_some w sz 0 Q n c [] zS (λj v h=>by simp at h)
 refine jc H hd (x:=.int .i64 0) (i _ _ ?_) (.pure _ _ (.int _ _)) q;have hz:Nat.min m 0=0:=zS;have hg:((0:Nat):Int)=0:=rfl;cases D<;>simp only[Builtin.copy_,ht,S,bO,aD,bS,aB,run_underlying hu,ak,hm,aG,jr hi,hz,hf,goInt,storeCells,hg];cases q
def j3c (G:R E w0 I0 nt γ I st a w) (Z:∀d,o.dst=some d->d<nt) {t e:TypeId}{s:Operand}{s':A}{sz:Nat}{zs:List V}{r:Array TypeId}(ho:o.op=.call { callee:=.builtin .clear,args:=#[s],argTypes:=r })
 (ht:r[0]? = some t) (hs:opd s=some s') (hu:P.underlying t=some (.slice e)) (hz:Wj P e=some zs)
 (g:(match ye E st.tm s' with
  | .osl l u off n F=>if Nat.ble st.ro u=true/\F=sz/\zs.length=sz then (j0 st.ob l u).bind λcs=>
   if off+n*sz<=cs.length then some { v:=js,obs:=[(l,⟨u,.cells (j6 cs off (ja8 n zs))⟩)] } else none else none
  | .sl _ _ 0 []=>one js
  |_=>none)=some δ):XY P E w0 I0 nt γ I st a w o ub δ:=by
 have m:=jD G hs;have c:∀(v:Value) (y:World),(Builtin.clear_ r o.type #[a.eval s]).run P w=.ok v y->(execOp a.eval o).run P w=.ok (.value v) y:=by intro v y h;simp only[execOp,ho,resolve,aB,aG,ak,invoke,builtin,db,bc,co,h]
 obtain⟨i,z,hi,M,f,p⟩:=Yo (I:=I) hz;split at g
 ·rename_i l u off n F T;rw[T]at m;split at g;case isFalse=>cases g
  rename_i q;obtain⟨K,O,N⟩:=q;subst O;subst N;obtain⟨cs,S,g⟩:=yc g;split at g;case isFalse=>cases g
  rename_i b5;obtain⟨b,kb,b0,L,J,hS,X,hc,a0⟩:=YC m;have B:=ji S;have Q:(ja8 n zs).length=n*zs.length:=by simp[ja8]
  obtain⟨y,k,H⟩:=jos (P:=P) (n:=n) (vs:=ja8 n zs) (vals:=(Builtin.zeroCells z.cells n).toList) G B J X hc (by simp[Builtin.zeroCells,Q,f]) zO zO (λj x v hx hv=>by
   have D:n*zs.length=0\/0<zs.length:=by rcases cI zs.length with h|h;exact .inl (by rw[h,Nat.mul_zero]);exact .inr h
   have:=(je2 (γ:=γ) (I:=I) f p n D).2 j x v (by rw[f];rw[br]at hx;exact hx) hv;exact this)
  refine Wm G Z B K (body':=.cells _) (x:=.tuple #[]) (.inl (c _ y ?_)) (.tup _ _ rfl zS) (λv es h=>by cases h) H g;rw[hS];simp only[Builtin.clear_,ht,bO,aD,aB,run_underlying hu,ak];cases n with
  |zero=>
   have:y=w:=by
    have U:(Builtin.zeroCells z.cells 0).toList=[]:=by simp[Builtin.zeroCells]
    rw[U]at k;simp only[storeCells,aG,Result.ok.injEq,true_and]at k;exact k.symm
   rw[this];rfl
  |succ n=>simp only[aB,JO hi M,ak,k,aG]
 rename_i t0 nl T;rw[T]at m;refine jc G Z (x:=.tuple #[]) (c _ _ ?_) (.tup _ _ rfl zS) g;rcases YX m with⟨h,_⟩|⟨ad,L,_,h,_⟩<;>
  simp only[Builtin.clear_,ht,h,bO,aD,aB,run_underlying hu,ak,aG]
 cases g
end
section
variable {P:Program}{E:Env}{w0 w:World}{I0:IMap}{nt:Nat}{γ:Nat->Option Place}{I:IMap}{st:St}{a:Act}{o:Oper}{ub:Nat}{δ:Delta}
def extFn:ExtK->Array Value->Sem Value
 | .count=>Extern.BytealgCount.count
 | .indexByte=>Extern.BytealgIndexByte.indexByte
def j0i {f:FuncId} {k:ExtK} (h:j47 P f=some k):∃fn,P.funcs[f]? = some fn/\fn.body.isNone=true/\(fn.name == "runtime.NumGoroutine")=false /\
 Extern.findNext fn=none/\Extern.find fn=some (extFn k):=by
 unfold j47 at h;obtain⟨fn,hfn,h⟩:=yc h;split at h;cases h;rename_i hb;have hb1:fn.body.isNone=true:=by
  cases hbb:fn.body with
  |none=>rfl
  |some c=>exact zf (.inl (by rw[hbb];rfl)) hb
 have ho:fn.origin = "" :=dt λe=>hb (.inr e);split at h;rename_i hn;cases h;exact⟨fn,hfn,hb1,by rw[hn];rfl,jsy ho (.inl ⟨hn,rfl⟩)⟩;split at h;rename_i hn;cases h;exact⟨fn,hfn,hb1,by rw[hn];rfl,jsy ho (.inr ⟨hn,rfl⟩)⟩;cases h
def ok_ext (u:R E w0 I0 nt γ I st a w) (D:∀d,o.dst=some d->d<nt) {f:FuncId}{k:ExtK}{c:Call}{l:List A}(M:o.op=.call c) (n:c.callee=.value (.func f)) (N:opds c.args=some l) (K:j47 P f=some k)
 (m:extV k (l.map (ye E st.tm))=some δ):XY P E w0 I0 nt γ I st a w o ub δ:=by
 obtain⟨T,t,J,O,L,G⟩:=j0i K;obtain⟨F,q⟩:=QH u N;have two:∀s e,l.map (ye E st.tm)=[.str s,.int .u8 e]->∃g:ByteArray,g.data.toList=s/\∀x:Value,
  (extFn k #[.string g,.int .u8 e]).run P w=.ok x w->(execOp a.eval o).run P w=.ok (.value x) w:=by
  intro s e Q
  rw[Q]at F q
  have p:(c.args.map a.eval).size=2:=F
  obtain⟨g,v,r⟩:=XU (q 0 _ _ (aA zO) rfl)
  have z:=JE (q 1 _ _ (aA zO) rfl)
  refine⟨g,r,λx b=>?_⟩
  have i:c.args.map a.eval=#[.string g,.int .u8 e]:=by
   apply ii;simpa using p;intro j H B;match j with
   |0=>exact v
   |1=>exact z
   |j+2=>exact zf B zS
  have y:=run_callFunc_extern (P:=P) t O J L G (c.args.map a.eval) w
  simp only[execOp,M,resolve,n,Act.eval,Deferred.ofValue,aB,aG,ak,invoke,fB,fC]
  rw[y,i,b]
  rfl
 generalize S:l.map (ye E st.tm)=vs at m two;unfold extV at m;split at m;rename_i s e;obtain⟨g,h,b⟩:=two s e rfl;refine jc u D (x:=.int .i64 (s.count e.toNat.toUInt8:Nat)) (b _ ?_) (.pure _ _ (.int _ _)) m;rw[<- h];exact Lib.run_countString g e w;rename_i s e;obtain⟨g,h,b⟩:=two s e rfl;refine jc u D (x:=.int .i64 (jd0 s e.toNat.toUInt8)) (b _ ?_) (.pure _ _ (.int _ _)) m;rw[<- h,jjl];exact Lib.run_indexByteString g e w;cases m
def jed (s:ByteArray):∀(b i:Nat) (c:Array Value),Conv.runesFrom s b i c=c++((Xi s.data.toList b i).map λr=>Value.int .i32 (Int.ofNat r)).toArray
 |0,i,c=>by simp[Conv.runesFrom,Xi]
 |b+1,i,c=>by unfold Conv.runesFrom Xi;have d:s.data.toList.length=s.size:=zS;rw[d];split;have e:(⟨s.data.toList.toArray⟩:ByteArray)=s:=rfl;rw[e];generalize Utf8.decode s i=p;obtain⟨r,wd⟩:=p;simp only[jed];simp;simp
def j24 (F:R E w0 I0 nt γ I st a w) (L:∀d,o.dst=some d->d<nt) (N:γ ub=none) {s t e:TypeId}{x:Operand}{H:A}(O:o.op=.convert s t x) (U:opd x=some H) (T:P.underlying s=some .string) (S:P.underlying t=some (.slice e)) (Z:P.underlying e=some (.int .i32))
 (i:(match ye E st.tm H with
  | .str s=>let f:=Xi s s.length 0
   if f.length<=70368744177664 then some { v:=V.sl (some (ub,1)) false f.length (f.map λr=>.int .i32 (r:Nat)),add:=[ub] } else none
  |_=>none)=some δ):XY P E w0 I0 nt γ I st a w o ub δ:=by
 have J:=jD F U;split at i;rename_i bs D;rw[D]at J;obtain⟨c,u,rfl⟩:=XU J;have m:c.data.toList.length=c.size:=zS;rw[m]at i;simp only at i;generalize B:Xi c.data.toList c.size 0=f at i;have p:Conv.runesFrom c c.size 0 #[]=(f.map λr=>Value.int .i32 (Int.ofNat r)).toArray:=by rw[jed,B];simp
 have g:(Conv.runesFrom c c.size 0 #[]).size=f.length:=by rw[p];simp
 split at i;rename_i G;have h:=run_runes_of_string (P:=P) w s t e c T S Z (by rw[g];exact G);rw[g]at h;have q:=grownCap_ge w f.length 0 e;have z:=grownCap_le_maxLen w f.length 0 e (by simp only[maxLen];omega);refine jqx F L N (b:=w.heap.size) (n:=f.length) (cap:=grownCap w f.length 0 e) (sz:=1) (cs:=f.map λr=>V.int .i32 (r:Nat)) (w':=w.drew.alloc _) (del:=none)
  (arr:=Conv.runesFrom c c.size 0 #[]++Array.replicate (grownCap w f.length 0 e-f.length) (.int .i32 0)) (e:=e) ?_ (.inl ⟨rfl,zS⟩) ⟨rfl,rfl,rfl⟩
  (λk M _=>heap_alloc_old w.drew _ k M) (heap_alloc_new w.drew _) (by simp only[gY,g,Array.size_replicate,bB];omega) q z (λj y Q=>?_) zS (λj v K=>?_) i
 simp only[execOp,O,u,aB,h,ak,aG];exact zf (bT _ _ (F.imm _ _ _ Q)) (ey _);simp only[aV,bn]at K;obtain⟨r,l,rfl⟩:=K;refine⟨rfl,.int .i32 r,?_,.int _ _⟩;have X:j<f.length:=(aj.1 l).1;rw[cq (by rw[g];exact X),p];simp[l];cases i;cases i
end
section
variable {P:Program}{E:Env}{w0 w:World}{I0:IMap}{nt:Nat}{γ:Nat->Option Place}{I:IMap}{st:St}{a:Act}{o:Oper}{ub:Nat}{δ:Delta}
def jpf (y:R E w0 I0 nt γ I st a w) (D:∀d,o.dst=some d->d<nt) (J:γ ub=none) {t S e:TypeId}{x:Operand}{H:A}{d:Nat}(K:o.op=.range t x) (Z:opd x=some H) (N:P.underlying t=some (.map S e))
 (i:(match ye E st.tm H with
  | .nilmap=>Jo d ub .nomap (.iter d ub)
  | .map l u=>(jY st.ob l u).bind λL=>Jo d ub (.miter l u (jn st.ob l) L none) (.iter d ub)
  |_=>none)=some δ):XY P E w0 I0 nt γ I st a w o ub δ:=by
 have s:=jD y Z;split at i;rename_i r;rw[r]at s;have f:=Xo s;refine WU y D J (x:=.pointer (some ⟨w.heap.size,0,none⟩)) (obj:=.mapIter none 0 #[] 0) (body:=.nomap) (k:=.n 0) ?_ rfl (λB h=>.iter _ _ _ _ h) ⟨_,_,_,rfl⟩ i;simp[execOp,K,f,Instr.range,run_underlying N];rename_i l u r;rw[r]at s;obtain⟨b,kb,m,f⟩:=QL s;obtain⟨L,z,i⟩:=yc i;have q:=XO z;obtain⟨M,c,G,O,U,X,p⟩:=jpj y q m;refine WU y D J (x:=.pointer (some ⟨w.heap.size,0,none⟩)) (obj:=.mapIter (some b) c #[] c) (k:=.n 0) ?_ rfl (λB h=>.iter _ _ _ _ h) ?_ i;simp[execOp,K,f,Instr.range,run_underlying N,Jg G];refine⟨b,kb,c,#[],c,rfl,m,λF T g=>?_⟩;rw[q]at g;simp only[ae,Obj'.mk.injEq,OBody.mp.injEq,true_and]at g;obtain⟨rfl,rfl⟩:=g;refine⟨zK,λ_=>⟨M,G,p,zK,?_,λk v h=>by cases h⟩⟩;have:(M.toList.filter λe=>!(#[]:Array Nat).contains e.born)=M.toList:=fg.2 (λe _=>by simp);rw[this];exact⟨by simpa using O,λj e k v r Q=>U j e k v (by simpa using r) Q⟩;cases i
def jf3 (n:Nat):(choose (.mapNext n)).run P w=if n<=1 then .ok 0 w else .ok (w.tape w.drawn (.mapNext n) % n) w.drew:=by by_cases h:n<=1<;>simp[choose,Sem.run,Question.forced,Question.cut,h]
def j3e {m:List MapEntry}(b:(m.map (·.born)).Nodup) {e c:MapEntry}(g:e∈m) (f:c∈m) (h:e.born=c.born):e=c:=by obtain⟨i,k,rfl⟩:=cw.1 g;obtain⟨j,d,rfl⟩:=cw.1 f;have:i=j:=(List.getElem_inj (xs:=m.map (·.born)) (h₀:=by simpa using k) (h₁:=by simpa using d) b).1 (by simpa using h);subst this;rfl
def jqd (m:List MapEntry) (d:(m.map (·.born)).Nodup) (seen:Array Nat) (j:Nat) (e:MapEntry) (c:(m.filter λe=>!seen.contains e.born)[j]? = some e) :
 (m.filter λg=>!(seen.push e.born).contains g.born)=(m.filter λe=>!seen.contains e.born).eraseIdx j:=by
 have f:e∈m:=(bu.1 (aH c)).1;have k:(m.filter λg=>!(seen.push e.born).contains g.born)=(m.filter λe=>!seen.contains e.born).filter λg=>!(g.born==e.born):=by
  rw[List.filter_filter];refine gQ λx _=>?_;have:(seen.push e.born).contains x.born=(seen.contains x.born||(x.born==e.born)):=by rw[Array.contains_push]
  rw[this,Bool.not_or,gz]
 rw[k];have b:((m.filter λe=>!seen.contains e.born).map (·.born)).Nodup:=(List.filter_sublist.map _).nodup d;generalize m.filter (λe=>!seen.contains e.born)=L at c b;clear k f d;induction L generalizing j with
 |nil=>simp at c
 |cons x L n=>
  simp only[bc,cX]at b;cases j with
  |zero=>simp only[aD,ae]at c;subst c;simp only[cE,beq_self_eq_true,bN,ah,zc,List.eraseIdx_cons_zero];refine fg.2 λy l=>?_;have:y.born≠x.born:=λe=>b.1 (aE.2 ⟨y,l,e⟩);simpa using this
  |succ j=>
   simp only[bS]at c;have i:x.born≠e.born:=λh=>b.1 (aE.2 ⟨e,aH c,h.symm⟩);have:(x.born==e.born)=false:=by simpa using i
   simp only[cE,this,cp,zd,iz,n j c b.2]
def jm6 (l u l' u' ver:Nat):∀(r b:List (V×V)) (j:Nat) (k v:V),r[j]? = some (k,v) ->
 ({ v:=.tup [.bool true,k,v],obs:=[(l,⟨u,.miter l' u' ver (b++r.eraseIdx j) (some (k,v))⟩)] }:Delta)∈jmm l u l' u' ver b r
 |[],b,j,k,v,h=>by simp at h
 |(k0,v0)::r,b,0,k,v,h=>by simp only[aD,ae,bZ]at h;obtain⟨rfl,rfl⟩:=h;exact aK ..
 |(k0,v0)::r,b,j+1,k,v,h=>by simp only[bS]at h;have:=jm6 l u l' u' ver r (b++[(k0,v0)]) j k v h;rw[bj]at this;exact aS _ this
def EntsOk.erase {L:List MapEntry}{es:List (V×V)}(h:EntsOk γ I L es) (j:Nat):EntsOk γ I (L.eraseIdx j) (es.eraseIdx j):=by refine⟨?_,λi e k v c b=>?_⟩;rw[gi,gi,h.1];rw[jad]at c b;split at c;rename_i d;rw[zb d]at b;exact h.2 i e k v c b;rename_i d;rw[za d]at b;exact h.2 (i+1) e k v c b
def jul (hR:R E w0 I0 nt γ I st a w) (hd:∀d,o.dst=some d->d<nt) {x:Operand}{x':A}{l:List Delta}(ho:o.op=.next x false) (hx:opd x=some x')
 (ha:Xf st.ob st.ro (ye E st.tm x')=some l):∃δ∈l,XY P E w0 I0 nt γ I st a w o ub δ:=by
 have hr:=jD hR hx
 unfold Xf at ha
 split at ha
 case h_2=>cases ha
 rename_i lb u he
 rw[he]at hr
 obtain⟨b,kb,hγ,hx'⟩:=je7 hr
 have hover:Rep γ I (.tuple #[.bool false]) (.tup [.bool false]):=by
  refine .tup _ _ rfl (λj y v hy hv=>?_)
  match j with
  |0=>simp at hy hv;subst hy;subst hv;exact .pure _ _ (.bool _)
  |j+1=>simp at hv
 obtain⟨Ω,hown⟩:=hR.own
 split at ha
 case h_3=>cases ha
 case h_2=>
  rename_i u0 hob
  split at ha
  case isFalse=>cases ha
  rename_i huu
  subst huu
  cases ha
  obtain⟨b',kb',k1,k2,k3,⟨since,seen,stepped,hbs⟩,k5⟩:=hown.ob lb _ hob
  rw[hγ]at k1
  cases k1
  have hg:(getObj b).run P w=.ok (.mapIter none since seen stepped) w:=by simp[getObj,Sem.run,hbs]
  refine⟨_,ag.2 rfl,jc hR hd (x:=.tuple #[.bool false]) ?_ hover rfl⟩
  simp only[execOp,ho,hx',Instr.next,aB,hg,ak,aG]
 rename_i u0 l' u' ver left last hob
 split at ha
 case isFalse=>cases ha
 rename_i hcond
 obtain⟨hro,huu,hsome,hver⟩:=hcond
 subst huu
 obtain⟨b',kb',k1,k2,k3,⟨mb,mk,since,seen,stepped,hbs,hγm,hall⟩,k5⟩:=hown.ob lb _ hob
 rw[hγ]at k1
 cases k1
 obtain⟨es',hes'⟩:=fH.1 hsome
 have hob':=XO hes'
 rw[hver]at hob'
 obtain⟨_,himp⟩:=hall _ _ hob'
 obtain⟨m,hm,hborn,hle,hents,hlast⟩:=himp rfl
 obtain⟨M,clock,g1,g2,g3,hnd,hltc⟩:=jpj hR hob' hγm
 rw[hm]at g1
 simp only[ae,Obj.map.injEq]at g1
 obtain⟨rfl,rfl⟩:=g1
 have hg:(getObj b).run P w=.ok (.mapIter (some mb) since seen stepped) w:=by simp[getObj,Sem.run,hbs]
 have hgm:(getObj mb).run P w=.ok (.map m stepped) w:=Jg hm
 have hlt:=hown.lt _ _ k2
 have hset:∀(W:World) (y:Obj),W.heap=w.heap->(setObj b y).run P W=.ok () { W with heap:=W.heap.setIfInBounds b y }:=by
  intro W y hW
  have:W.heap[b]? = some (.mapIter (some mb) since seen stepped):=by rw[hW];exact hbs
  simp[setObj,Sem.run,this]
 -- what may come next
 have hcnd:(!seen.isEmpty && !m.isEmpty&&m.all (λe=>decide (e.born ≥ stepped)))=false:=by
  cases hme:m.isEmpty with
  |true=>simp
  |false=>
   have hne:0<m.size:=by
    rcases cI m.size with h|h
    ·rw[ig.2 h]at hme;cases hme
    ·exact h
   have:m.all (λe=>decide (e.born ≥ stepped))=false:=by
    rw[eN]
    intro hall
    rw[gZ]at hall
    have h1:=hall m[0] (Array.getElem_mem hne)
    have h2:=hborn m[0] (Array.getElem_mem hne)
    simp only[ze]at h1
    omega
   rw[this];simp
 generalize hL:(m.filter λe=>!seen.contains e.born)=L
 have hLl:(m.toList.filter λe=>!seen.contains e.born)=L.toList:=by rw[<- hL,Array.toList_filter]
 rw[hLl]at hents
 have hold:(L.filter λe=>decide (e.born<since))=L:=by
  refine Array.filter_eq_self.2 λe he=>?_
  rw[<- hL]at he
  simpa using hborn e (Array.mem_filter.1 he).1
 have hnew:(L.filter λe=>decide (e.born ≥ since))=#[]:=by
  refine Array.filter_eq_empty_iff.2 λe he=>?_
  rw[<- hL]at he
  have:=hborn e (Array.mem_filter.1 he).1
  simp only[ze]
  omega
 have hrun0:∀r,((do match ((if L.isEmpty then #[none] else #[])++(L++#[]).map some:Array (Option MapEntry))[<- choose (.mapNext ((if L.isEmpty then #[none] else #[])++(L++#[]).map some:Array (Option MapEntry)).size)]? with
  |some (some e)=>
   setObj b (.mapIter (some mb) since (seen.push e.born) stepped)
   pure (.tuple #[.bool true,e.key,e.val])
  |some none=>pure (.tuple #[.bool false])
  |none=>stuck "Next: no such candidate"):Sem Value).run P w=r->(Instr.next (.pointer (some ⟨b,0,none⟩)) false o.type).run P w=r:=by
  intro r h
  rw[<- h]
  simp only[Instr.next,aB,hg,hgm,ak,hcnd,ah,zc,hL,hold,hnew]
  rfl
 split at ha
 ·cases ha
  have hl0:L.toList=[]:=dY (by rw[hents.1];rfl)
  have hL0:L=#[]:=by rw[<- Array.toArray_toList (xs:=L),hl0]
  refine⟨_,ag.2 rfl,jc hR hd (x:=.tuple #[.bool false]) ?_ hover rfl⟩
  have:=hrun0 (.ok (.tuple #[.bool false]) w) (by
   subst hL0
   simp only[List.isEmpty_toArray,List.isEmpty_nil,zd,fC,db,co,cR,bh,ct,bK,aB,jf3,dx,ak,bO,aD,aG])
  simp only[execOp,ho,hx',aB,this,ak,aG]
 ·rename_i es hne
  cases ha
  have hpos:0<left.length:=dT.2 hne
  have hsz:L.size=left.length:=by rw[<- hents.1,aL]
  have hie:L.isEmpty=false:=by
   rw[eN]
   intro h
   have:=ig.1 h
   omega
  have hch:∃j W,(choose (.mapNext L.size)).run P w=.ok j W/\j<L.size/\(W=w\/W=w.drew):=by
   rw[jf3]
   split
   ·exact⟨0,w,rfl,zO,.inl rfl⟩
   ·exact⟨_,_,rfl,ip _ zO,.inr rfl⟩
  obtain⟨j,W,hc,hj,hW⟩:=hch
  have hWh:W.heap=w.heap:=by rcases hW with rfl|rfl<;>rfl
  have hWo:W.os=w.os/\W.tape=w.tape/\W.output=w.output:=by rcases hW with rfl|rfl<;>exact⟨rfl,rfl,rfl⟩
  have hej:L.toList[j]? = some L[j]:=by rw[br,aA hj]
  have hlj:left[j]? = some (left[j]' zO):=aa _
  generalize hkv:left[j]' zO=kv at hlj
  obtain⟨k,v⟩:=kv
  generalize hE:L[j]=en at hej
  have hkr:=hents.2 j en k v hej hlj
  have hrun:=hrun0 (.ok (.tuple #[.bool true,en.key,en.val]) { W with heap:=W.heap.setIfInBounds b (.mapIter (some mb) since (seen.push en.born) stepped) }) (by
   have hsz2:(Array.map some L).size=L.size:=Array.size_map
   have hget:(Array.map some L)[j]? = some (some en):=by rw[Array.getElem?_map,aA hj,hE];rfl
   simp only[hie,ah,zc,fC,fB,hsz2,aB,hc,ak,hget,hset W _ hWh,aG])
  refine⟨_,jm6 lb u0 l' u' ver left [] j k v hlj,Wm hR hd hob hro (body':=.miter l' u' ver ([]++left.eraseIdx j) (some (k,v))) (x:=.tuple #[.bool true,en.key,en.val]) (w':={ W with heap:=W.heap.setIfInBounds b (.mapIter (some mb) since (seen.push en.born) stepped) }) (.inl ?_) ?_ (λv es h=>by cases h) ?_ rfl⟩
  ·simp only[execOp,ho,hx',aB,hrun,ak,aG]
  ·refine .tup _ _ rfl (λi y q hy hq=>?_)
   match i with
   |0=>simp at hy hq;subst hy;subst hq;exact .pure _ _ (.bool _)
   |1=>simp at hy hq;subst hy;subst hq;exact .pure _ _ hkr.1
   |2=>simp at hy hq;subst hy;subst hq;exact hkr.2
   |i+3=>simp at hq
  ·intro b2 k2' hb2 hlt2
   rw[hγ]at hb2
   cases hb2
   refine⟨hWo.1,hWo.2.1,hWo.2.2,by simp[hWh],λq hq=>by show(W.heap.setIfInBounds b _)[q]? = _;rw[hWh];exact X5 w b q _ hq,?_⟩
   have hblk:({ W with heap:=W.heap.setIfInBounds b (.mapIter (some mb) since (seen.push en.born) stepped) }:World).heap[b]? = some (.mapIter (some mb) since (seen.push en.born) stepped):=by
    show(W.heap.setIfInBounds b _)[b]? = _
    rw[hWh]
    exact JP w b _ hlt
   rw[hblk]
   refine⟨mb,mk,since,_,stepped,rfl,hγm,λver' es2 he2=>?_⟩
   rw[hob']at he2
   simp only[ae,Obj'.mk.injEq,OBody.mp.injEq,true_and]at he2
   obtain⟨rfl,rfl⟩:=he2
   refine⟨zK,λ_=>⟨m,hm,hborn,hle,?_,λk2 v2 hlast2=>?_⟩⟩
   ·rw[dq,jqd m.toList hnd seen j en (by rw[hLl];exact hej),hLl]
    exact hents.erase j
   ·simp only[ae,bZ]at hlast2
    obtain⟨rfl,rfl⟩:=hlast2
    have hmem:en∈m.toList:=by
     have:=aH hej
     rw[<- hLl]at this
     exact(bu.1 this).1
    refine⟨en.born,en,zS,?_,hkr.1,hkr.2⟩
    cases hfd:m.find? (λe=>e.born==en.born) with
    |none=>
     have:=Array.find?_eq_none.1 hfd en (by simpa using hmem)
     simp at this
    |some e2=>
     have h1:=Array.mem_of_find?_eq_some hfd
     have h2:=Array.find?_some hfd
     have he2:e2=en:=j3e hnd (by simpa using h1) hmem (by simpa using h2)
     rw[he2]
def j3a (T:R E w0 I0 nt γ I st a w) (hd:∀d,o.dst=some d->d<nt) {x:Operand}{x':A}(ho:o.op=.entry x) (hx:opd x=some x')
 (p:(match ye E st.tm x' with
  | .iter l u=>match st.ob l with
   |some ⟨u',.miter U u2 B _ (some (k,v))⟩=>if u'=u/\(jY st.ob U u2).isSome=true/\jn st.ob U=B then one (.tup [k,v]) else none
   |_=>none
  |_=>none)=some δ):XY P E w0 I0 nt γ I st a w o ub δ:=by
 have hr:=jD T hx;split at p;case h_2=>cases p
 rename_i lb u he;rw[he]at hr;obtain⟨b,kb,L,J⟩:=je7 hr;obtain⟨Ω,r⟩:=T.own;split at p;case h_2=>cases p
 rename_i u0 U u' B left k v N;split at p;case isFalse=>cases p
 rename_i h;obtain⟨O,g,G⟩:=h;subst O;obtain⟨b',b5,Z,k2,k3,⟨mb,mk,n,t,c,K,a0,F⟩,k5⟩:=r.ob lb _ N;rw[L]at Z;cases Z;obtain⟨b0,s⟩:=fH.1 g;have f:=XO s;rw[G]at f;obtain⟨_,D⟩:=F _ _ f;obtain⟨m,hm,Q,b6,M,j⟩:=D rfl;obtain⟨S,e,h1,h2,h3,h4⟩:=j k v rfl;have hg:(getObj b).run P w=.ok (.mapIter (some mb) n t c) w:=by simp[getObj,Sem.run,K]
 have X:(getObj mb).run P w=.ok (.map m c) w:=Jg hm;refine jc T hd (x:=.tuple #[e.key,e.val]) ?_ ?_ p;have hb:(c != c)=false:=zS;simp only[execOp,ho,J,Instr.entry,aB,hg,X,ak,h1,hb,ah,zc,h2,aG];refine .tup _ _ rfl (λi y q H z=>?_);match i with
 |0=>simp at H z;subst H;subst z;exact .pure _ _ h3
 |1=>simp at H z;subst H;subst z;exact h4
 |i+2=>simp at z
end
end Go.Pv
