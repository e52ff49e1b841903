/- Part of the proof. -/
import Derived.Calls
import Derived.LoopN
import Derived.Orders
import Derived.Laws.AppendOwn
set_option maxRecDepth 100000
set_option maxHeartbeats 8000000
set_option linter.all false
namespace Go.Pv
open Go
/-- Values without addresses: a slice is the list of its cells. -/
inductive V where
  | undef
  | bool (b : Bool)
  | int (k : IntKind) (n : Int)
  | str (s : List UInt8)
  | nilptr
  | nilmap
  | nilfn
  | nilif
  | sl (tok : Option (Nat × Nat)) (nil : Bool) (n : Nat) (cs : List V)
  | agg (cs : List V)
  | tup (vs : List V)
  | eptr (cs : List V) (off : Nat)
  | ptr (l u off : Nat)
  | osl (l u off n sz : Nat)
  | map (l u : Nat)
  | iter (l u : Nat)
  | fn (f : Fn) (first captured : List V)
  | iface (t : TypeId) (v : V)
  /-- what goes on with a range over a function -/
  | yld (l u : Nat)
  deriving Inhabited
inductive Ex where
  | nrm
  | exit (id : Nat)
  | ret
  deriving Inhabited, DecidableEq
/-- How a range over a function stands. -/
inductive LS where
  | ready | busy | done
  deriving Inhabited, DecidableEq
/-- A value of one cell. -/
def V.leaf : V → Bool
  | .agg _ | .tup _ | .undef => false
  | _ => true
def V.cells : V → List V
  | .agg cs => cs
  | v => [v]
mutual
def V.eqb : V → V → Bool
  | .undef, .undef => true
  | .bool a, .bool b => a == b
  | .int k a, .int k' b => decide (k = k') && decide (a = b)
  | .str a, .str b => decide (a = b)
  | .nilptr, .nilptr => true
  | .nilmap, .nilmap => true
  | .nilfn, .nilfn => true
  | .nilif, .nilif => true
  | .sl t nl n cs, .sl t' nl' n' cs' => decide (t = t') && decide (nl = nl') && decide (n = n') && V.eqbs cs cs'
  | .agg cs, .agg cs' => V.eqbs cs cs'
  | .tup cs, .tup cs' => V.eqbs cs cs'
  | .eptr cs o, .eptr cs' o' => V.eqbs cs cs' && decide (o = o')
  | .fn f a b, .fn f' a' b' => decide (f = f') && V.eqbs a a' && V.eqbs b b'
  | .iface t v, .iface t' v' => decide (t = t') && V.eqb v v'
  | .ptr a b c, .ptr a' b' c' => decide (a = a') && decide (b = b') && decide (c = c')
  | .osl a b c d e, .osl a' b' c' d' e' => decide (a = a') && decide (b = b') && decide (c = c') && decide (d = d') && decide (e = e')
  | .map a b, .map a' b' => decide (a = a') && decide (b = b')
  | .iter a b, .iter a' b' => decide (a = a') && decide (b = b')
  | .yld a b, .yld a' b' => decide (a = a') && decide (b = b')
  | _, _ => false
def V.eqbs : List V → List V → Bool
  | [], [] => true
  | a :: l, b :: m => V.eqb a b && V.eqbs l m
  | _, _ => false
end
inductive OBody where
  | cells (cs : List V)
  /-- cells of a block of such a type -/
  | tcells (t : TypeId) (cs : List V)
  /-- a map: how often it was changed, and its entries -/
  | mp (ver : Nat) (es : List (V × V))
  | siter (s : List UInt8) (pos : Nat)
  /-- a range over a map (as it was changed so often): what is left, what was last -/
  | miter (l u ver : Nat) (left : List (V × V)) (last : Option (V × V))
  | nomap
  /-- a range over a function: how it stands, and how a round has left it -/
  | loop (s : LS) (pend : Option Ex)
  /-- what such ranges defer (nothing) -/
  | dfr
  deriving Inhabited
structure Obj' where
  uid : Nat
  body : OBody
  deriving Inhabited
/-- Operands. -/
inductive A where
  | t (n : Nat)
  | c (v : V)
  | g (n : Nat)
  deriving Inhabited
inductive LK where
  | bool | int | str
  deriving Inhabited, DecidableEq
inductive EqK where
  | bool | ptr | sl | map | fn | iface
  | struct (l : List LK)
  deriving Inhabited, DecidableEq
inductive ExtK where
  | count | indexByte | same
  deriving Inhabited, DecidableEq
inductive AOp where
  | mov (x : A)
  | pick (c a b : A)
  | bin (op : BinOp) (x y : A)
  | eq (neg : Bool) (k : EqK) (x y : A)
  | un (op : UnOp) (x : A)
  | alloc (zero : List V)
  | allocT (t : TypeId) (zero : List V)
  | box (sz : Nat) (x : A)
  | boxT (t : TypeId) (sz : Nat) (x : A)
  | build (zero : List V) (parts : List (Nat × Nat × A))
  | buildSl (o : Bool) (sz : Nat) (zero : List V) (parts : List (Nat × Nat × A)) (n : Nat)
  | load (g : Option Nat) (x : A)
  | store (sz : Nat) (a x : A)
  | nilCheck (x : A)
  | fieldAddr (off : Nat) (x : A)
  | idxSl (sz : Nat) (x i : A)
  | idxArr (len sz : Nat) (x i : A)
  | part (g : Option Nat) (off : Nat) (x : A)
  | idxStr (x i : A)
  | idxVal (g : Option Nat) (len sz : Nat) (x i : A)
  | slStr (x : A) (lo hi : Option A)
  | slSl (sz : Nat) (x : A) (lo hi : Option A)
  | slArr (len sz : Nat) (x : A) (lo hi : Option A)
  | lenStr (x : A)
  | lenSl (x : A)
  | lenMap (x : A)
  | append (o : Bool) (sz bytes : Nat) (s x : A)
  | extract (x : A) (i : Nat)
  | mkFn (f : Fn) (first captured : List A)
  | mkMap
  | lookup (q : LK) (zero : V) (ok : Bool) (m k : A)
  | mapSet (q : LK) (m k v : A)
  | mapDel (q : LK) (m k : A)
  | mapEnt (q : LK) (zero : V) (m k : A)
  | entSt (m i x : A)
  | range (isStr : Bool) (x : A)
  | nextStr (x : A)
  | nextMap (x : A)
  | entry (x : A)
  | iface (t : TypeId) (x : A)
  | assert (t : TypeId) (zero : V) (ok : Bool) (x : A)
  | conv (k : IntKind) (x : A)
  | convId (x : A)
  | strOfBytes (x : A)
  | strOfInt (x : A)
  | runesOfStr (x : A)
  | bytesOfStr (x : A)
  /-- bytes of a text behind others, in a row of elements of such a type -/
  | appS (e : TypeId) (s x : A)
  /-- a pointer as it is, as unsafe.Pointer -/
  | toUp (x : A)
  /-- .. and back, where its block is of one of such types -/
  | ofUp (ts : List TypeId) (x : A)
  | slData (x : A)
  | uStr (e : TypeId) (p n : A)
  | mkSl (o : Bool) (sz bytes : Nat) (zero : List V) (l c : A)
  | minmax (isMax : Bool) (xs : List A)
  | copy (sz : Nat) (d s : A)
  | clear (sz : Nat) (zero : List V) (x : A)
  | ext (k : ExtK) (xs : List A)
  | call (f : FuncId) (xs : List A)
  | callV (f : A) (xs : List A)
  /-- what is not covered: no run may come to it -/
  | stuck
  deriving Inhabited
def AOp.isCall : AOp → Bool
  | .call .. | .callV .. => true
  | _ => false
def AOp.isNext : AOp → Bool
  | .nextMap _ => true
  | _ => false
structure AOpr where
  dst : Option Nat
  op : AOp
  /-- the temporary of the guard, and what it must be -/
  guard : Option (Nat × Bool)
  /-- what it makes bears a new name, and not the temporary's -/
  nm : Bool
  deriving Inhabited
inductive C where
  | skip
  | region (ops : List AOpr)
  | draw (ops : List AOpr) (free : List (Nat × Nat))
  /-- a call; what no edge orders with it is found again behind it -/
  | pin (o : AOpr) (fs : List AOpr)
  | seq (a b : C)
  | cond (c : A) (a b : C)
  | block (id : Nat) (a : C)
  | loop (a : C)
  | exit (id : Nat)
  | ret
  | rangeFunc (f : A) (ps : List Nat) (as bd : C)
  | stuck
  deriving Inhabited
inductive ARes where
  | t (n : Nat)
  | cell (n : Nat) (g : Option Nat)
  deriving Inhabited
structure AF where
  body : C
  res : List ARes
  deriving Inhabited
/-- What the interpreter runs over: functions, package variables. -/
structure Env where
  fc : FuncId → Option AF
  fs : FuncId → Option AF
  /-- what shares the objects of who calls; the first: whether a frame calls whose things bear new names -/
  sh : Bool → FuncId → Bool
  /-- what is handed its caller's things as they stand, as if for good -/
  fz : FuncId → Bool
  /-- what is handed its caller's things as they stand, and whose result is the caller's own -/
  tw : FuncId → Bool
  gl : Nat → Option (List V)
  /-- what puts numbers in order, or pairs of them, by some function -/
  srt : FuncId → Option (Option FuncId) := fun _ => none
  /-- what may have many outcomes -/
  mn : FuncId → Bool := fun _ => false
  /-- what, handed no list, makes a thing of such cells and does nothing else -/
  nw : FuncId → Option (List V) := fun _ => none
  /-- what is known of functions that are not run -/
  kn : FuncId → List V → Option V := fun _ _ => none
def upd {α : Type} (f : Nat → α) (k : Nat) (v : α) : Nat → α := fun n => cond (Nat.beq n k) v (f n)
@[simp] theorem upd_same {α : Type} (f : Nat → α) (k : Nat) (v : α) : upd f k v k = v := by simp [upd, Nat.beq_refl]
theorem upd_ne {α : Type} (f : Nat → α) {k n : Nat} (v : α) (h : n ≠ k) : upd f k v n = f n := by
  have : Nat.beq n k = false := by
    cases hb : Nat.beq n k with
    | false => rfl
    | true => exact absurd (Nat.eq_of_beq_eq_true hb) h
  simp [upd, this]
theorem upd_apply {α : Type} (f : Nat → α) (k : Nat) (v : α) (n : Nat) : upd f k v n = if n = k then v else f n := by
  by_cases h : n = k
  · subst h; simp
  · rw [upd_ne f v h, if_neg h]
structure St where
  tm : Nat → V
  ob : Nat → Option Obj'
  tk : Nat → Bool
  /-- objects of lesser numbers may only be looked at -/
  ro : Nat
  nx : Nat
  /-- the frame's own part of the objects' names -/
  fb : Nat
  /-- the marks that ranges over functions have left -/
  df : List (Nat × Nat)
def none' : V := .tup []
def eval (E : Env) (tm : Nat → V) : A → V
  | .t n => tm n
  | .c v => v
  | .g n => match E.gl n with
    | some cs => .eptr cs 0
    | none => .undef
/-- What an operation brings. -/
structure Delta where
  v : V
  obs : List (Nat × Obj') := []
  del : Option Nat := none
  add : List Nat := []
  /-- objects that are no more -/
  kill : List Nat := []
def one (v : V) : Option Delta := some { v }
def intBin (op : BinOp) (k : IntKind) (x y : Int) : Option V :=
  match op with
  | .add => some (.int k (k.wrap (x + y)))
  | .sub => some (.int k (k.wrap (x - y)))
  | .mul => some (.int k (k.wrap (x * y)))
  | .quo => if y = 0 then none else some (.int k (k.wrap (x.tdiv y)))
  | .rem => if y = 0 then none else some (.int k (x.tmod y))
  | .and => some (.int k (k.wrap (BitVec.ofInt k.bits x &&& BitVec.ofInt k.bits y).toNat))
  | .or => some (.int k (k.wrap (BitVec.ofInt k.bits x ||| BitVec.ofInt k.bits y).toNat))
  | .xor => some (.int k (k.wrap (BitVec.ofInt k.bits x ^^^ BitVec.ofInt k.bits y).toNat))
  | .andNot => some (.int k (k.wrap (BitVec.ofInt k.bits x &&& ~~~ BitVec.ofInt k.bits y).toNat))
  | .eql => some (.bool (x == y))
  | .neq => some (.bool (x != y))
  | .lss => some (.bool (x < y))
  | .leq => some (.bool (x ≤ y))
  | .gtr => some (.bool (x > y))
  | .geq => some (.bool (x ≥ y))
  | _ => none
def shiftBin (op : BinOp) (k : IntKind) (x y : Int) : Option V :=
  if y < 0 then none else
  match op with
  | .shl => some (.int k (k.wrap (x * 2 ^ (min y.toNat k.bits))))
  | .shr => some (.int k (x.fdiv (2 ^ (min y.toNat k.bits))))
  | _ => none
def strBin (op : BinOp) (x y : List UInt8) : Option V :=
  match op with
  | .add => if x.length + y.length ≤ 9223372036854775807 then some (.str (x ++ y)) else none
  | .eql => some (.bool (x == y))
  | .neq => some (.bool (!(x == y)))
  | .lss => some (.bool (Op.bytesLess x y))
  | .leq => some (.bool (Op.bytesLess x y || x == y))
  | .gtr => some (.bool (!(Op.bytesLess x y || x == y)))
  | .geq => some (.bool (!(Op.bytesLess x y)))
  | _ => none
/-- '==' of cells that are plain. -/
def eqLeaf : LK → V → V → Option Bool
  | .bool, .bool a, .bool b => some (a == b)
  | .int, .int k a, .int k' b => if k = k' then some (a == b) else none
  | .str, .str a, .str b => some (a == b)
  | _, _, _ => none
def eqCells : List LK → List V → List V → Option Bool
  | [], [], [] => some true
  | k :: l, a :: x, b :: y => (eqLeaf k a b).bind fun r => (eqCells l x y).map fun q => r && q
  | _, _, _ => none
def eqV : EqK → V → V → Option Bool
  | .bool, .bool a, .bool b => some (a == b)
  | .ptr, .nilptr, .nilptr => some true
  | .ptr, .ptr .., .nilptr | .ptr, .nilptr, .ptr .. | .ptr, .eptr .., .nilptr | .ptr, .nilptr, .eptr .. => some false
  | .sl, .sl _ nl _ _, .sl _ true 0 [] => some nl
  | .sl, .osl .., .sl _ true 0 [] => some false
  | .map, .nilmap, .nilmap => some true
  | .map, .map .., .nilmap => some false
  | .fn, .nilfn, .nilfn => some true
  | .fn, .fn .., .nilfn => some false
  | .iface, .nilif, .nilif => some true
  | .iface, .iface .., .nilif | .iface, .nilif, .iface .. => some false
  | .struct l, .agg a, .agg b => eqCells l a b
  | _, _, _ => none
def binV (op : BinOp) (x y : V) : Option V :=
  match x, y with
  | .int k a, .int k' b =>
    match op with
    | .shl | .shr => shiftBin op k a b
    | _ => if k = k' then intBin op k a b else none
  | .str a, .str b => strBin op a b
  | _, _ => none
def unV (op : UnOp) (x : V) : Option V :=
  match op, x with
  | .not, .bool b => some (.bool (!b))
  | .neg, .int k n => some (.int k (k.wrap (0 - n)))
  | .xor, .int k n => intBin .xor k (if k.signed then -1 else k.max) n
  | _, _ => none
/-- The cells of a row, or one of them. -/
def pick1 (g : Option Nat) (cs : List V) (off : Nat) : Option V :=
  match g with
  | some n => if off + n ≤ cs.length then some (.agg ((cs.drop off).take n)) else none
  | none => cs[off]?
def splice (cs : List V) (off : Nat) (vs : List V) : List V := cs.take off ++ vs ++ cs.drop (off + vs.length)
def objCells (ob : Nat → Option Obj') (l u : Nat) : Option (List V) :=
  match ob l with
  | some ⟨u', .cells cs⟩ => if u' = u then some cs else none
  | some ⟨u', .tcells _ cs⟩ => if u' = u then some cs else none
  | _ => none
/-- .. of a block of a type that is known. -/
def objT (ob : Nat → Option Obj') (l u : Nat) : Option (TypeId × List V) :=
  match ob l with
  | some ⟨u', .tcells t cs⟩ => if u' = u then some (t, cs) else none
  | _ => none
def byteV (b : UInt8) : V := .int .u8 b.toNat
def byteOf : V → Option UInt8
  | .int .u8 n => if 0 ≤ n ∧ n < 256 then some n.toNat.toUInt8 else none
  | _ => none
def objMap (ob : Nat → Option Obj') (l u : Nat) : Option (List (V × V)) :=
  match ob l with
  | some ⟨u', .mp _ es⟩ => if u' = u then some es else none
  | _ => none
/-- A map's number from here on: keys were deleted. -/
abbrev mapK : Nat := 1000000000000
def objVer (ob : Nat → Option Obj') (l : Nat) : Nat :=
  match ob l with
  | some ⟨_, .mp ver _⟩ => ver
  | _ => 0
/-- The cells behind a slice value. -/
def slCells (ob : Nat → Option Obj') (sz : Nat) : V → Option (List V)
  | .sl _ _ n cs => if cs.length = n * sz then some cs else none
  | .osl l u off n sz' => if sz' = sz then (objCells ob l u).bind fun cs => if off + n * sz ≤ cs.length then some ((cs.drop off).take (n * sz)) else none else none
  | _ => none
def fill (cs : List V) : List (Nat × Nat × V) → Option (List V)
  | [] => some cs
  | (off, sz, v) :: rest =>
    if v.cells.length = sz ∧ off + sz ≤ cs.length ∧ v.cells.all V.leaf = true then fill (splice cs off v.cells) rest else none
def evalParts (ρ : A → V) (ps : List (Nat × Nat × A)) : List (Nat × Nat × V) := ps.map fun (o, s, x) => (o, s, ρ x)
def bounds (len cap : Nat) (lo hi : Option V) : Option (Nat × Nat) :=
  let h := match hi with
    | some (.int _ h) => if 0 ≤ h ∧ h ≤ cap then some h.toNat else none
    | some _ => none
    | none => some len
  h.bind fun h => match lo with
    | some (.int _ l) => if 0 ≤ l ∧ l ≤ h then some (l.toNat, h) else none
    | some _ => none
    | none => some (0, h)
/-- Where a key stands. -/
def findKey (q : LK) (k : V) : List (V × V) → Option (Option (Nat × V))
  | [] => some none
  | (k', v) :: es => match eqLeaf q k k' with
    | some true => some (some (0, v))
    | some false => (findKey q k es).map fun r => r.map fun (i, v) => (i + 1, v)
    | none => none
def isKey : LK → V → Bool
  | .bool, .bool _ => true
  | .int, .int _ _ => true
  | .str, .str _ => true
  | _, _ => false
/-- A cell that may lie in a slice for good. -/
def V.pureLeaf : V → Bool
  | .undef | .tup _ | .ptr .. | .osl .. | .map .. | .iter .. | .agg _ | .fn .. | .yld .. => false
  | .sl t _ _ _ => t.isNone
  | .iface _ v => match v with | .bool _ | .int .. | .str _ | .agg [] => true | _ => false
  | _ => true
/-- A value that hangs on nothing of the frame. -/
def V.pureTop : V → Bool
  | .agg cs => cs.all V.pureLeaf
  | .fn _ first captured => (first ++ captured).all fun c => match c with
      | .agg cs => cs.all V.pureLeaf
      | c => c.pureLeaf
  | v => v.pureLeaf
/-- Without the leave to append. -/
def V.strip1 : V → V
  | .sl _ nl n cs => .sl none nl n cs
  | v => v
def V.strip : V → V
  | .sl _ nl n cs => .sl none nl n cs
  | .agg cs => .agg (cs.map V.strip1)
  | .fn f first captured => .fn f (first.map fun c => match c with | .agg cs => .agg (cs.map V.strip1) | c => c.strip1)
      (captured.map fun c => match c with | .agg cs => .agg (cs.map V.strip1) | c => c.strip1)
  | v => v
/-- The tokens in a value. -/
def V.tok : V → List Nat
  | .sl (some (u, _)) _ _ _ => [u]
  | .osl _ u _ _ _ => [u]
  | _ => []
def V.toks : V → List Nat
  | .agg cs => cs.flatMap V.tok
  | v => v.tok
def nodup : List Nat → Bool
  | [] => true
  | a :: l => !(l.any fun b => Nat.beq a b) && nodup l
/-- A cell as it lies there for good. -/
def solid (st : St) : Nat → V → Option V
  | 0, _ => none
  | k + 1, v => match v with
    | .sl (some _) nl n cs => some (.sl none nl n cs)
    | .osl l u off n sz => (objCells st.ob l u).bind fun cs => if Nat.ble st.ro u = true ∧ off + n * sz ≤ cs.length then
        (((cs.drop off).take (n * sz)).mapM (solid st k)).map fun cs' => .sl none false n cs' else none
    | v => if v.pureLeaf then some v else none
/-- A cell of a result: a slice that may be appended to bears its place in the result. -/
def outLeaf (st : St) (keep : Bool) (i : Nat) : V → Option V
  | .sl (some (u, z)) nl n cs => some (.sl (if keep && st.tk u then some (i, z) else none) nl n cs)
  | .osl l u off n sz => (solid st 6 (.osl l u off n sz)).bind fun v => match v with
    | .sl _ nl n' cs => (objCells st.ob l u).map fun cs0 => .sl (if keep && Nat.beq off 0 && Nat.blt 0 n && Nat.beq (n * sz) cs0.length then some (i, sz) else none) nl n' cs
    | _ => none
  | v => solid st 6 v
def outList (st : St) (keep : Bool) : Nat → List V → Option (List V)
  | _, [] => some []
  | i, v :: vs => (outLeaf st keep i v).bind fun x => (outList st keep (i + 1) vs).map (x :: ·)
/-- A result. -/
def outTop (st : St) (keep : Bool) (i : Nat) : V → Option V
  | .agg cs => (outList st keep i cs).map .agg
  | .fn f first captured => if (V.fn f first captured).strip.pureTop then some (V.fn f first captured).strip else none
  | v => outLeaf st keep i v
def outTops (st : St) (keep : Bool) : Nat → List V → Option (List V)
  | _, [] => some []
  | i, v :: vs => (outTop st keep i v).bind fun x => (outTops st keep (i + 16) vs).map (x :: ·)
def outRes (st : St) (vs : List V) : Option V :=
  (outTops st (nodup (vs.flatMap V.toks)) 0 vs).bind fun l => if nodup (l.flatMap V.toks) then (match l with
    | [v] => some v
    | l => some (.tup l)) else none
/-- A result as the caller has it. -/
def inLeaf (ub : Nat) : V → V
  | .sl (some (i, z)) nl n cs => .sl (some (ub + i, z)) nl n cs
  | v => v
def inTop (ub : Nat) : V → V
  | .agg cs => .agg (cs.map (inLeaf ub))
  | v => inLeaf ub v
def inRes (ub : Nat) : V → V
  | .tup vs => .tup (vs.map (inTop ub))
  | v => inTop ub v
def toksRes : V → List Nat
  | .tup vs => vs.flatMap V.toks
  | v => v.toks
def mkObj (d ub : Nat) (b : OBody) (v : V) : Option Delta := some { v, obs := [(d, ⟨ub, b⟩)] }
def retA (ub : Nat) (r : V) : Option Delta :=
  if (toksRes r).all (fun i => Nat.blt i 64) then some { v := inRes ub r, add := (toksRes r).map (ub + ·) } else none
def callA (call : FuncId → List V → Option V) (ub : Nat) (f : FuncId) (xs : List V) : Option Delta :=
  if xs.all V.pureTop then (call f xs).bind (retA ub) else none
def intOf? : V → Option Int
  | .int _ n => some n
  | _ => none
def minmax2 (isMax : Bool) : V → V → Option V
  | .int k x, .int k' y => if k = k' then some (.int k (if isMax then (if y > x then y else x) else (if y < x then y else x))) else none
  | _, _ => none
def minmaxL (isMax : Bool) : V → List V → Option V
  | x, [] => some x
  | x, y :: ys => (minmax2 isMax x y).bind fun z => minmaxL isMax z ys
def repl (n : Nat) (z : List V) : List V := (List.range (n * z.length)).map fun i => z.getD (i % z.length) .undef
/-- Where a byte first stands. -/
def idxByte : List UInt8 → UInt8 → Int
  | [], _ => -1
  | b :: l, c => if b == c then 0 else if idxByte l c == -1 then -1 else idxByte l c + 1
def extV : ExtK → List V → Option Delta
  | .same, [x] => one x
  | .count, [.str s, .int .u8 c] => one (.int .i64 (s.count c.toNat.toUInt8 : Nat))
  | .indexByte, [.str s, .int .u8 c] => one (.int .i64 (idxByte s c.toNat.toUInt8))
  | _, _ => none
def runesL (s : List UInt8) : Nat → Nat → List Nat
  | 0, _ => []
  | b + 1, i => if i < s.length then (Utf8.decode ⟨s.toArray⟩ i).1 :: runesL s b (i + (Utf8.decode ⟨s.toArray⟩ i).2) else []
/-- One operation. 'd': the temporary that it writes, which names what it makes; 'ub': the first of its own numbers. -/
def aop (call : FuncId → List V → Option V) (ρ : A → V) (ob : Nat → Option Obj') (tk : Nat → Bool) (ro d ub : Nat) : AOp → Option Delta
  | .mov x => one (ρ x)
  | .pick c a b => match ρ c with
    | .bool t => one (cond t (ρ a) (ρ b))
    | _ => none
  | .bin op x y => (binV op (ρ x) (ρ y)).bind one
  | .eq neg k x y => match k, ρ x, ρ y with
    | .ptr, .ptr l u off, .ptr l' u' off' => if (objCells ob l u).isSome && (objCells ob l' u').isSome then one (.bool (xor neg (Nat.beq l l' && Nat.beq off off'))) else none
    | k, a, b => (eqV k a b).bind fun b => one (.bool (xor neg b))
  | .un op x => (unV op (ρ x)).bind one
  | .alloc zero => mkObj d ub (.cells zero) (.ptr d ub 0)
  | .allocT t zero => mkObj d ub (.tcells t zero) (.ptr d ub 0)
  | .box sz x => if (ρ x).cells.length = sz ∧ (ρ x).cells.all V.leaf = true then mkObj d ub (.cells (ρ x).cells) (.ptr d ub 0) else none
  | .boxT t sz x => if (ρ x).cells.length = sz ∧ (ρ x).cells.all V.leaf = true then mkObj d ub (.tcells t (ρ x).cells) (.ptr d ub 0) else none
  | .build zero parts => (fill zero (evalParts ρ parts)).bind fun cs => one (.agg cs)
  | .buildSl o sz zero parts n => (fill zero (evalParts ρ parts)).bind fun cs =>
      if o then (if cs.length = n * sz ∧ cs.all V.leaf = true then mkObj d ub (.cells cs) (.osl d ub 0 n sz) else none) else if cs.length = n * sz ∧ (cs.map V.strip1).all V.pureLeaf = true then some { v := .sl (some (ub, sz)) false n (cs.map V.strip1), add := [ub] } else none
  | .load g x => match ρ x with
    | .eptr cs off => (pick1 g cs off).bind one
    | .ptr l u off => (objCells ob l u).bind fun cs => (pick1 g cs off).bind one
    | _ => none
  | .store sz a x => match ρ a with
    | .ptr l u off => (objCells ob l u).bind fun cs =>
        if Nat.ble ro u = true ∧ (ρ x).cells.length = sz ∧ off + sz ≤ cs.length ∧ (ρ x).cells.all V.leaf = true then
          some { v := none', obs := [(l, ⟨u, .cells (splice cs off (ρ x).cells)⟩)] } else none
    | _ => none
  | .nilCheck x => match ρ x with
    | .ptr l u o => one (.ptr l u o)
    | .eptr cs o => one (.eptr cs o)
    | .fn (.func f) a b => one (.fn (.func f) a b)
    | _ => none
  | .fieldAddr off x => match ρ x with
    | .ptr l u o => one (.ptr l u (o + off))
    | .eptr cs o => one (.eptr cs (o + off))
    | _ => none
  | .idxSl sz x i => match ρ x, ρ i with
    | .sl _ _ n cs, .int _ i => if 0 ≤ i ∧ i < n ∧ cs.length = n * sz then one (.eptr cs (i.toNat * sz)) else none
    | .osl l u off n sz', .int _ i => if 0 ≤ i ∧ i < n ∧ sz' = sz then one (.ptr l u (off + i.toNat * sz)) else none
    | _, _ => none
  | .idxArr len sz x i => match ρ x, ρ i with
    | .ptr l u off, .int _ i => if 0 ≤ i ∧ i < len then one (.ptr l u (off + i.toNat * sz)) else none
    | .eptr cs off, .int _ i => if 0 ≤ i ∧ i < len then one (.eptr cs (off + i.toNat * sz)) else none
    | _, _ => none
  | .part g off x => match ρ x with
    | .agg cs => (pick1 g cs off).bind one
    | _ => none
  | .idxStr x i => match ρ x, ρ i with
    | .str s, .int _ i => if 0 ≤ i then (s[i.toNat]?).bind fun b => one (.int .u8 b.toNat) else none
    | _, _ => none
  | .idxVal g len sz x i => match ρ x, ρ i with
    | .agg cs, .int _ i => if 0 ≤ i ∧ i < len then (pick1 g cs (i.toNat * sz)).bind one else none
    | _, _ => none
  | .slStr x lo hi => match ρ x with
    | .str s => (bounds s.length s.length (lo.map ρ) (hi.map ρ)).bind fun (l, h) => one (.str ((s.take h).drop l))
    | _ => none
  | .slSl sz x lo hi => match ρ x with
    | .sl _ nl n cs => if cs.length = n * sz then (bounds n n (lo.map ρ) (hi.map ρ)).bind fun (l, h) => one (.sl none nl (h - l) ((cs.take (h * sz)).drop (l * sz))) else none
    | .osl a u off n sz' => if sz' = sz then (bounds n n (lo.map ρ) (hi.map ρ)).bind fun (l, h) => one (.osl a u (off + l * sz) (h - l) sz) else none
    | _ => none
  | .slArr len sz x lo hi => match ρ x with
    | .ptr a u off => (objCells ob a u).bind fun cs => if off + len * sz ≤ cs.length then (bounds len len (lo.map ρ) (hi.map ρ)).bind fun (l, h) => one (.osl a u (off + l * sz) (h - l) sz) else none
    | _ => none
  | .lenStr x => match ρ x with
    | .str s => one (.int .i64 s.length)
    | _ => none
  | .lenSl x => match ρ x with
    | .sl _ _ n _ => one (.int .i64 n)
    | .osl _ _ _ n _ => one (.int .i64 n)
    | _ => none
  | .lenMap x => match ρ x with
    | .nilmap => one (.int .i64 0)
    | .map l u => (objMap ob l u).bind fun es => one (.int .i64 es.length)
    | _ => none
  | .append o sz bytes s x => match ρ s with
    | .sl t nl n cs => (slCells ob sz (ρ x)).bind fun ys =>
        if ys = [] then (if cs.length = n * sz then one (.sl t nl n cs) else none) else
        if o && nl then
          (if 0 < sz ∧ ys.all V.leaf = true ∧ (ys.length / sz) * bytes ≤ 140737488355328 ∧ ys.length / sz ≤ 140737488355328 then mkObj d ub (.cells ys) (.osl d ub 0 (ys.length / sz) sz) else none) else
        if cs.length = n * sz ∧ 0 < sz ∧ ys.all V.pureLeaf = true ∧ (n + ys.length / sz) * bytes ≤ 140737488355328 ∧ n + ys.length / sz ≤ 140737488355328 then
          match t with
          | some (u, z) => if tk u = true ∧ z = sz then some { v := .sl (some (ub, sz)) false (n + ys.length / sz) (cs ++ ys), del := some u, add := [ub] } else none
          | none => if nl then some { v := .sl (some (ub, sz)) false (n + ys.length / sz) (cs ++ ys), add := [ub] } else none
        else none
    | .osl l u off n sz' => (slCells ob sz (ρ x)).bind fun ys => (objCells ob l u).bind fun cs =>
        if ys = [] then one (.osl l u off n sz') else
        if Nat.ble ro u = true ∧ sz' = sz ∧ off = 0 ∧ n * sz ≤ cs.length ∧ 0 < sz ∧ ys.all V.leaf = true ∧ (n + ys.length / sz) * bytes ≤ 140737488355328 ∧ n + ys.length / sz ≤ 140737488355328 then
          some { v := .osl d ub 0 (n + ys.length / sz) sz, obs := [(d, ⟨ub, .cells (cs.take (n * sz) ++ ys)⟩)], kill := [l] } else none
    | _ => none
  | .extract x i => match ρ x with
    | .tup vs => (vs[i]?).bind one
    | _ => none
  | .mkFn f first captured => one (.fn f (first.map ρ) (captured.map ρ))
  | .mkMap => mkObj d ub (.mp 0 []) (.map d ub)
  | .lookup q zero ok m k =>
    let fin (r : Option (Nat × V)) : Option Delta := match r with
      | some (_, v) => one (if ok then .tup [v, .bool true] else v)
      | none => one (if ok then .tup [zero, .bool false] else zero)
    if isKey q (ρ k) then match ρ m with
    | .nilmap => fin none
    | .map l u => (objMap ob l u).bind fun es => (findKey q (ρ k) es).bind fin
    | _ => none else none
  | .mapSet q m k v => if isKey q (ρ k) then match ρ m with
    | .map l u => if Nat.ble ro u then (objMap ob l u).bind fun es => (findKey q (ρ k) es).bind fun r => match r with
      | some (i, _) => some { v := none', obs := [(l, ⟨u, .mp (objVer ob l + 1) (es.set i (ρ k, (ρ v).strip))⟩)] }
      | none => some { v := none', obs := [(l, ⟨u, .mp (objVer ob l + 1) (es ++ [(ρ k, (ρ v).strip)])⟩)] }
      else none
    | _ => none else none
  | .mapDel q m k => if isKey q (ρ k) then match ρ m with
    | .nilmap => one none'
    | .map l u => if Nat.ble ro u then (objMap ob l u).bind fun es => (findKey q (ρ k) es).bind fun r => match r with
      | some (i, _) => some { v := none', obs := [(l, ⟨u, .mp (objVer ob l + mapK) (es.eraseIdx i)⟩)] }
      | none => some { v := none', obs := [(l, ⟨u, .mp (objVer ob l + 1) es⟩)] }
      else none
    | _ => none else none
  | .mapEnt q zero m k => if isKey q (ρ k) then match ρ m with
    | .map l u => if Nat.ble ro u && Nat.blt (objVer ob l) mapK then (objMap ob l u).bind fun es => (findKey q (ρ k) es).bind fun r => match r with
      | some (i, v) => some { v := .tup [v, .int .i64 i], obs := [(l, ⟨u, .mp (objVer ob l + 1) (es.set i (ρ k, v))⟩)] }
      | none => some { v := .tup [zero, .int .i64 es.length], obs := [(l, ⟨u, .mp (objVer ob l + 1) (es ++ [(ρ k, zero)])⟩)] }
      else none
    | _ => none else none
  | .entSt m i x => match ρ m, ρ i with
    | .map l u, .int .i64 (.ofNat n) => if Nat.ble ro u && Nat.blt (objVer ob l) mapK then (objMap ob l u).bind fun es => match es[n]? with
      | some (k, _) => some { v := none', obs := [(l, ⟨u, .mp (objVer ob l + 1) (es.set n (k, (ρ x).strip))⟩)] }
      | none => none
      else none
    | _, _ => none
  | .range true x => match ρ x with
    | .str s => mkObj d ub (.siter s 0) (.iter d ub)
    | _ => none
  | .range false x => match ρ x with
    | .nilmap => mkObj d ub .nomap (.iter d ub)
    | .map l u => (objMap ob l u).bind fun es => mkObj d ub (.miter l u (objVer ob l) es none) (.iter d ub)
    | _ => none
  | .nextMap _ => none
  | .entry x => match ρ x with
    | .iter l u => match ob l with
      | some ⟨u', .miter l' u2 ver _ (some (k, v))⟩ => if u' = u ∧ (objMap ob l' u2).isSome = true ∧ objVer ob l' = ver then one (.tup [k, v]) else none
      | _ => none
    | _ => none
  | .nextStr x => match ρ x with
    | .iter l u => match ob l with
      | some ⟨u', .siter s pos⟩ => if Nat.ble ro u ∧ u' = u then
          (if pos < s.length then some { v := .tup [.bool true, .int .i64 pos, .int .i32 ((Utf8.decode ⟨s.toArray⟩ pos).1 : Nat)], obs := [(l, ⟨u, .siter s (pos + (Utf8.decode ⟨s.toArray⟩ pos).2)⟩)] }
           else one (.tup [.bool false])) else none
      | _ => none
    | _ => none
  | .iface t x => one (.iface t (ρ x))
  | .assert t zero ok x => match ρ x with
    | .iface t' v => if t' = t then one (if ok then .tup [v, .bool true] else v) else if ok then one (.tup [zero, .bool false]) else none
    | .nilif => if ok then one (.tup [zero, .bool false]) else none
    | _ => none
  | .conv k x => match ρ x with
    | .int _ n => one (.int k (k.wrap n))
    | _ => none
  | .convId x => match ρ x with
    | .str s => one (.str s)
    | _ => none
  | .strOfBytes x => (slCells ob 1 (ρ x)).bind fun cs => (cs.mapM byteOf).bind fun bs => one (.str bs)
  | .strOfInt _ => none
  | .runesOfStr x => match ρ x with
    | .str s => let rs := runesL s s.length 0
      if rs.length ≤ 70368744177664 then some { v := .sl (some (ub, 1)) false rs.length (rs.map fun r => .int .i32 (r : Nat)), add := [ub] } else none
    | _ => none
  | .bytesOfStr _ => none
  | .appS e x y => match ρ y with
    | .str bs => match ρ x with
      | .sl none true 0 [] => if bs = [] then one (.sl none true 0 []) else
          if bs.length ≤ 140737488355328 then mkObj d ub (.tcells e (bs.map byteV)) (.osl d ub 0 bs.length 1) else none
      | .osl l u off n sz => (objT ob l u).bind fun r =>
          if r.1 = e ∧ Nat.ble ro u = true ∧ sz = 1 ∧ off = 0 ∧ n ≤ r.2.length ∧ n + bs.length ≤ 140737488355328 ∧ 0 < n + bs.length then
            some { v := .osl d ub 0 (n + bs.length) 1, obs := [(d, ⟨ub, .tcells e (r.2.take n ++ bs.map byteV)⟩)], kill := [l] } else none
      | _ => none
    | _ => none
  | .toUp x => match ρ x with
    | .ptr l u off => (objCells ob l u).bind fun cs => if off < cs.length then one (.ptr l u off) else none
    | _ => none
  | .ofUp ts x => match ρ x with
    | .ptr l u 0 => (objT ob l u).bind fun r => if ts.any (Nat.beq r.1) = true ∧ 2 ≤ r.2.length then one (.ptr l u 0) else none
    | _ => none
  | .slData x => match ρ x with
    | .sl none true 0 [] => one .nilptr
    | .osl l u off n _ => if 0 < n then one (.ptr l u off) else none
    | _ => none
  | .uStr e p n => match ρ p, ρ n with
    | .nilptr, .int .i64 0 => one (.str [])
    | .ptr l u 0, .int .i64 n => (objT ob l u).bind fun r => if r.1 = e ∧ Nat.ble ro u = true ∧ 0 < n ∧ n ≤ r.2.length ∧ n ≤ 9223372036854775807 then
        ((r.2.take n.toNat).mapM byteOf).bind fun bs => some { v := .str bs, kill := [l] } else none
    | _, _ => none
  | .mkSl o sz bytes zero l c => match ρ l, ρ c with
    | .int .i64 l, .int .i64 c => if 0 ≤ l ∧ l ≤ c ∧ c * bytes ≤ 140737488355328 ∧ c ≤ 140737488355328 ∧ zero.length = sz ∧ 0 < sz then
        (if !o ∧ l = 0 then some { v := .sl (some (ub, sz)) false 0 [], add := [ub] } else mkObj d ub (.cells (repl l.toNat zero)) (.osl d ub 0 l.toNat sz)) else none
    | _, _ => none
  | .minmax isMax xs => match xs.map ρ with
    | [] => none
    | x :: r => (minmaxL isMax x r).bind one
  | .copy sz x y => (slCells ob sz (ρ y)).bind fun ys => match ρ x with
    | .osl l u off n sz' => if Nat.ble ro u = true ∧ sz' = sz ∧ 0 < sz ∧ ys.all V.leaf = true then (objCells ob l u).bind fun cs =>
        if off + n * sz ≤ cs.length then some { v := .int .i64 (Nat.min (ys.length / sz) n : Nat), obs := [(l, ⟨u, .cells (splice cs off (ys.take (Nat.min (ys.length / sz) n * sz)))⟩)] } else none else none
    | .sl _ _ 0 [] => one (.int .i64 0)
    | _ => none
  | .clear sz zero x => match ρ x with
    | .osl l u off n sz' => if Nat.ble ro u = true ∧ sz' = sz ∧ zero.length = sz then (objCells ob l u).bind fun cs =>
        if off + n * sz ≤ cs.length then some { v := none', obs := [(l, ⟨u, .cells (splice cs off (repl n zero))⟩)] } else none else none
    | .sl _ _ 0 [] => one none'
    | _ => none
  | .ext k xs => extV k (xs.map ρ)
  | .call f xs => callA call ub f (xs.map fun x => (ρ x).strip)
  | .callV f xs => match ρ f with
    | .fn (.func g) first captured => callA call ub g ((first ++ xs.map ρ ++ captured).map V.strip)
    | _ => none
  | .stuck => none
/-- The next entry of a map: any that is left. -/
def picks (l u l' u' ver : Nat) : List (V × V) → List (V × V) → List Delta
  | _, [] => []
  | pre, (k, v) :: r => { v := .tup [.bool true, k, v], obs := [(l, ⟨u, .miter l' u' ver (pre ++ r) (some (k, v))⟩)] } :: picks l u l' u' ver (pre ++ [(k, v)]) r
def nextL (ob : Nat → Option Obj') (ro : Nat) (x : V) : Option (List Delta) :=
  match x with
  | .iter l u => match ob l with
    | some ⟨u0, .miter l' u' ver left _⟩ => if Nat.ble ro u = true ∧ u0 = u ∧ (objMap ob l' u').isSome = true ∧ objVer ob l' = ver then (match left with
        | [] => some [{ v := .tup [.bool false] }]
        | es => some (picks l u l' u' ver [] es)) else none
    | some ⟨u0, .nomap⟩ => if u0 = u then some [{ v := .tup [.bool false] }] else none
    | _ => none
  | _ => none
def put (tm : Nat → V) (d : Option Nat) (v : V) : Nat → V :=
  match d with
  | some d => upd tm d v
  | none => tm
def setObs (ob : Nat → Option Obj') : List (Nat × Obj') → Nat → Option Obj'
  | [] => ob
  | (l, o) :: r => upd (setObs ob r) l (some o)
def setToks (tk : Nat → Bool) (b : Bool) : List Nat → Nat → Bool
  | [] => tk
  | u :: r => upd (setToks tk b r) u b
def St.app (st : St) (dst : Option Nat) (δ : Delta) : St :=
  { st with tm := put st.tm dst δ.v, ob := setObs (fun k => if δ.kill.any (Nat.beq k) then none else st.ob k) δ.obs, tk := setToks (setToks st.tk false δ.del.toList) true δ.add }
def wanted (o : AOpr) (tm : Nat → V) : Option Bool :=
  match o.guard with
  | none => some true
  | some (t, b) => match tm t with
    | .bool b' => some (b' == b)
    | .tup [] => some false
    | _ => none
def AOpr.name (o : AOpr) (fb ub : Nat) : Nat := cond o.nm (2 * ub + 1) (2 * (fb + o.dst.getD 0))
/-- What a round of a range over a function does. -/
abbrev Y := Nat → Nat → List V → (Nat → Option Obj') → (Nat → Bool) → Nat → Nat → Option (V × (Nat → Option Obj') × (Nat → Bool) × Nat)
def noY : Y := fun _ _ _ _ _ _ _ => none
/-- How calls are made: alone; looking at the objects of who calls; sharing them; a round. -/
structure Callers where
  d : FuncId → List V → Option V
  o : FuncId → List V → (Nat → Option Obj') → (Nat → Bool) → Nat → Nat → Option V
  s : FuncId → List V → (Nat → Option Obj') → (Nat → Bool) → Nat → Nat → Nat → Option (List (V × (Nat → Option Obj') × (Nat → Bool) × Nat))
  y : Y
/-- The function that is called, with what it is handed, if it shares. -/
def sharedCall (E : Env) (nm : Bool) (ρ : A → V) : AOp → Option (FuncId × List V)
  | .call f xs => if !E.sh nm f && xs.all fun x => (ρ x).strip.pureTop then none else some (f, xs.map ρ)
  | .callV f xs => match ρ f with
    | .fn (.func g) first captured => if !E.sh nm g && (first ++ xs.map ρ ++ captured).all fun v => v.strip.pureTop then none else some (g, first ++ xs.map ρ ++ captured)
    | _ => none
  | _ => none
/-- The round that is asked for. -/
def yieldCall (ρ : A → V) : AOp → Option (Nat × Nat × List V)
  | .callV f xs => match ρ f with
    | .yld l u => some (l, u, xs.map ρ)
    | _ => none
  | _ => none
def AOp.next? : AOp → Option A
  | .nextMap x => some x
  | _ => none
/-- It looks at more than one object. -/
def AOp.far : AOp → Bool
  | .entry _ | .nextMap _ => true
  | _ => false
def step (E : Env) (call : Callers) (o : AOpr) (st : St) (ub : Nat) : Option (List (St × Nat)) :=
  match wanted o st.tm with
  | some true => match yieldCall (eval E st.tm) o.op with
   | some (l, u, xs) => (call.y l u xs st.ob st.tk st.ro ub).map fun (r, ob, tk, ub') => [({ st with tm := put st.tm o.dst r, ob := ob, tk := tk }, ub')]
   | none => match sharedCall E o.nm (eval E st.tm) o.op with
    | some (f, xs) => if E.sh o.nm f then (call.s f xs st.ob st.tk st.ro ((st.fb + o.dst.getD 0 + 1) * 1024) ub).map fun l => l.map fun x => ({ st with tm := put st.tm o.dst x.1, ob := x.2.1, tk := x.2.2.1 }, x.2.2.2)
      else ((call.o f xs st.ob st.tk ((st.fb + o.dst.getD 0 + 1) * 1024) ub).bind (retA ub)).map fun δ => [(st.app o.dst δ, ub + 64)]
    | none => match o.op.next? with
      | some x => (nextL st.ob st.ro (eval E st.tm x)).map fun l => l.map fun δ => (st.app o.dst δ, ub + 64)
      | none => (aop call.d (eval E st.tm) st.ob st.tk st.ro (o.name st.fb ub) ub o.op).map fun δ => [(st.app o.dst δ, ub + 64)]
  | some false => some [({ st with tm := put st.tm o.dst none' }, ub)]
  | none => none
def bindLs {α β : Type} (f : α → Option (List β)) : List α → Option (List β)
  | [] => some []
  | [x] => f x
  | x :: y :: r => (f x).bind fun a => (bindLs f (y :: r)).map (a ++ ·)
def bindL {α β : Type} (m : Option (List α)) (f : α → Option (List β)) : Option (List β) := m.bind (bindLs f)
def opsR (E : Env) (call : Callers) : List AOpr → St → Nat → Option (List St)
  | [], st, ub => some [{ st with nx := ub }]
  | o :: rest, st, ub => bindL (step E call o st ub) fun x => opsR E call rest x.1 x.2
/-- Whose object a value leads to. -/
def lOf : V → List Nat
  | .ptr l _ _ | .osl l _ _ _ _ | .map l _ | .iter l _ => [l]
  | _ => []
def uOf : V → List Nat
  | .sl (some (u, _)) _ _ _ => [u]
  | _ => []
/-- The objects that an operation looks at. -/
def rdOb (ρ : A → V) : AOp → List Nat
  | .load _ x | .store _ x _ | .lookup _ _ _ x _ | .lenMap x | .mapSet _ x _ _ | .mapDel _ x _ | .mapEnt _ _ x _ | .entSt x _ _ | .nextStr x | .range _ x | .clear _ _ x | .slArr _ _ x _ _ | .strOfBytes x | .toUp x | .ofUp _ x => lOf (ρ x)
  | .append _ _ _ x y | .eq _ _ x y | .copy _ x y => lOf (ρ x) ++ lOf (ρ y)
  | .appS _ x _ | .uStr _ x _ => lOf (ρ x)
  | _ => []
/-- The leaves to append that it looks at. -/
def rdTk (ρ : A → V) : AOp → List Nat
  | .append _ _ _ s _ => uOf (ρ s)
  | _ => []
def startS (args : List V) (ob : Nat → Option Obj') (tk : Nat → Bool) (ro base ub : Nat) : St := { tm := fun n => args.getD n none', ob := ob, tk := tk, ro := ro, nx := ub, fb := base, df := [] }
/-- What is handed on, as it stands. -/
def frzTop (ob : Nat → Option Obj') : V → Option V
  | .agg cs => (cs.mapM (solid (startS [] ob (fun _ => false) 0 0 0) 6)).map .agg
  | .fn .. => none
  | v => solid (startS [] ob (fun _ => false) 0 0 0) 6 v
/-- A value that leads nowhere. -/
def V.scal : V → Bool
  | .bool _ | .int _ _ | .str _ | .nilptr | .nilmap | .nilfn | .nilif => true
  | .sl none nl n cs => nl && n == 0 && cs.isEmpty
  | _ => false
/-- A result that leads to nothing but what is new. -/
def V.freeL : V → Bool
  | .sl (some _) _ _ cs => cs.all V.scal
  | v => v.scal
def V.freeT : V → Bool
  | .agg cs => cs.all V.freeL
  | v => v.freeL
def V.freeR : V → Bool
  | .tup vs => vs.all V.freeT
  | v => v.freeT
/-- A result that is the caller's own. -/
def thawR (ob : Nat → Option Obj') (tk : Nat → Bool) (ub : Nat) : V → Option (V × (Nat → Option Obj') × (Nat → Bool) × Nat)
  | .sl (some (_, z)) false n cs => if cs.all V.scal then some (.osl (2 * ub + 1) ub 0 n z, upd ob (2 * ub + 1) (some ⟨ub, .cells cs⟩), tk, ub + 64) else none
  | r => if r.scal then some (r, ob, tk, ub + 64) else none
/-- Such a result, of an operation. -/
def thawD (d ub : Nat) : V → Option Delta
  | .sl (some (_, z)) false n cs => if cs.all V.scal then some { v := .osl d ub 0 n z, obs := [(d, ⟨ub, .cells cs⟩)] } else none
  | r => if r.scal then some { v := r } else none
/-- What such a call brings. -/
def mkD (E : Env) (f : FuncId) (xs : List V) (d ub : Nat) : Option Delta :=
  match E.nw f, xs with
  | some cs, [.sl none true 0 []] => some { v := .ptr d ub 0, obs := [(d, ⟨ub, .cells cs⟩)] }
  | _, _ => none
structure FP where
  ro : List Nat := []
  wo : List Nat := []
  rt : List Nat := []
  wt : List Nat := []
  /-- it may look at any object that was there -/
  all : Bool := false
  seen : Nat → Bool := fun _ => false
  /-- what it writes is new -/
  nw : Bool := false
def disj (x y : List Nat) : Bool := !(x.any fun a => y.any fun b => Nat.beq a b)
def indep (f g : FP) : Bool := disj f.wo g.ro && disj f.wo g.wo && disj f.ro g.wo && disj f.wt g.rt && disj f.wt g.wt && disj f.rt g.wt && (!f.all || g.wo.all fun l => !f.seen l) && (!g.all || f.wo.isEmpty)
def Delta.wo (δ : Delta) : List Nat := δ.kill ++ δ.obs.map (·.1)
def Delta.wt (δ : Delta) : List Nat := δ.del.toList ++ δ.add
def fpOf (ρ : A → V) (o : AOp) (δ : Delta) : FP := { ro := rdOb ρ o, wo := δ.wo, rt := rdTk ρ o, wt := δ.wt }
/-- A region of which any order that keeps to its edges may be drawn: as in the text's order, and what each looks at and writes. -/
def drawR (E : Env) (call : Callers) : List AOpr → St → Nat → Option (List FP × St)
  | [], st, ub => some ([], { st with nx := ub })
  | o :: r, st, ub => match wanted o st.tm with
    | some true => match sharedCall E o.nm (eval E st.tm) o.op with
      | some (f, xs) => if E.sh o.nm f then (if E.tw f then (((xs.mapM (frzTop st.ob)).bind fun a' => call.d f a').bind (thawD (o.name st.fb ub) ub)).bind fun δ =>
            (drawR E call r (st.app o.dst δ) (ub + 64)).map fun x => ({ wo := δ.wo, all := true, seen := fun l => (st.ob l).isSome, nw := true } :: x.1, x.2) else (mkD E f xs (o.name st.fb ub) ub).bind fun δ =>
            (drawR E call r (st.app o.dst δ) (ub + 64)).map fun x => ({ wo := δ.wo, nw := true } :: x.1, x.2)) else
          ((call.o f xs st.ob st.tk ((st.fb + o.dst.getD 0 + 1) * 1024) (ub + 64 * (r.length + 1))).bind (retA ub)).bind fun δ =>
            (drawR E call r (st.app o.dst δ) (ub + 64)).map fun x => ({ wt := δ.wt, all := true, seen := fun l => (st.ob l).isSome } :: x.1, x.2)
      | none => if o.op.far then none else
          (aop call.d (eval E st.tm) st.ob st.tk st.ro (o.name st.fb ub) ub o.op).bind fun δ =>
            (drawR E call r (st.app o.dst δ) (ub + 64)).map fun x => (fpOf (eval E st.tm) o.op δ :: x.1, x.2)
    | some false => (drawR E call r (st.app o.dst { v := none' }) (ub + 64)).map fun x => ({} :: x.1, x.2)
    | none => none
def drawOk (free : List (Nat × Nat)) (fs : List FP) : Bool := free.all fun p => indep (fs.getD p.1 {}) (fs.getD p.2 {})
/-- What is new is not touched by any other. -/
def noNew (fs : List FP) : Bool := fs.all fun f => !f.nw
def newPair (f g : FP) : Bool := disj f.wo g.ro && disj f.wo g.wo && !g.all
def newFull (fs : List FP) : Bool := (List.range fs.length).all fun i => !(fs.getD i {}).nw || (List.range fs.length).all fun j => Nat.beq i j || newPair (fs.getD i {}) (fs.getD j {})
def newOk (fs : List FP) : Bool := noNew fs || newFull fs
/-- Such an operation makes nothing. -/
def AOp.still : AOp → Bool
  | .mov _ | .pick .. | .bin .. | .un .. | .eq .. | .load .. | .nilCheck _ | .fieldAddr .. | .idxSl .. | .idxArr .. | .part .. | .idxVal .. | .lenStr _ | .lenSl _ | .lenMap _ | .extract .. | .conv .. | .lookup .. | .minmax .. => true
  | _ => false
/-- What was found ahead is found again. -/
def sameF (fs : List AOpr) (s s' : St) : Bool := fs.all fun o => match o.dst with | some d => V.eqb (s.tm d) (s'.tm d) | none => true
abbrev Outs := Option (List (Ex × St))
def loopL (body : St → Outs) : Nat → St → Outs
  | 0, _ => none
  | n + 1, st => bindL (body st) fun x => match x with
    | (.nrm, st') => loopL body n st'
    | (e, st') => some [(e, st')]
/-- What is handed to a round. -/
def setPs (tm : Nat → V) : List Nat → List V → Nat → V
  | p :: ps, v :: vs => setPs (upd tm p v) ps vs
  | _, _ => tm
/-- A round of the range l, u: the assignments, the body. -/
def roundY (fa fb : St → Outs) (st : St) (ps : List Nat) (l u : Nat) : Y := fun l' u' args ob tk ro ub =>
  if l' = l ∧ u' = u ∧ args.length = ps.length ∧ Nat.ble ro u = true then match ob l with
  | some ⟨u1, .loop .ready none⟩ => if u1 = u then match fa { tm := setPs st.tm ps args, ob, tk, ro, nx := ub, fb := st.fb, df := [] } with
    | some [(.nrm, s1)] => match s1.ob l with
      | some ⟨u2, .loop .ready none⟩ => if u2 = u then match fb { s1 with ob := upd s1.ob l (some ⟨u, .loop .busy none⟩) } with
        | some [(e, s2)] => match s2.ob l with
          | some ⟨u3, .loop .busy none⟩ => if u3 = u then (match e with
            | .nrm => some (.bool true, upd s2.ob l (some ⟨u, .loop .ready none⟩), s2.tk, s2.nx)
            | e => some (.bool false, upd s2.ob l (some ⟨u, .loop .done (some e)⟩), s2.tk, s2.nx)) else none
          | _ => none
        | _ => none else none
      | _ => none
    | _ => none else none
  | _ => none else none
/-- The one outcome. -/
def only {α : Type} : Option (List α) → Option α
  | some [x] => some x
  | _ => none
def codeL (E : Env) (call : Y → Callers) (y : Y) (N : Nat) : C → St → Outs
  | .skip, st => some [(.nrm, st)]
  | .region ops, st => (opsR E (call y) ops st st.nx).map fun l => l.map fun st' => (.nrm, st')
  | .draw ops free, st => (drawR E (call y) ops st st.nx).bind fun x => if drawOk free x.1 && newOk x.1 then some [(.nrm, x.2)] else none
  | .pin o fs, st => bindL (step E (call y) o st st.nx) fun x => (drawR E (call y) fs x.1 x.2).bind fun p => if sameF fs st p.2 then some [(.nrm, p.2)] else none
  | .seq a b, st => bindL (codeL E call y N a st) fun x => match x with
    | (.nrm, st') => codeL E call y N b st'
    | (e, st') => some [(e, st')]
  | .cond c a b, st => match eval E st.tm c with
    | .bool true => codeL E call y N a st
    | .bool false => codeL E call y N b st
    | _ => none
  | .block id a, st => (codeL E call y N a st).map fun l => l.map fun x => match x with
    | (.exit i, st') => if i = id then (.nrm, st') else (.exit i, st')
    | x => x
  | .loop a, st => loopL (codeL E call y N a) N st
  | .exit id, st => some [(.exit id, st)]
  | .rangeFunc f ps as bd, st => match eval E st.tm f with
    | .fn (.func g) first captured =>
      (only ((call (roundY (codeL E call y N as) (codeL E call y N bd) st ps (2 * st.nx + 1) st.nx)).s g (first ++ [.yld (2 * st.nx + 1) st.nx] ++ captured)
        (upd (upd st.ob (2 * st.nx + 3) (some ⟨st.nx + 1, .dfr⟩)) (2 * st.nx + 1) (some ⟨st.nx, .loop .ready none⟩)) st.tk st.ro ((st.fb + 1023) * 1024) (st.nx + 64))).bind fun (_, ob, tk, ub) =>
          match ob (2 * st.nx + 1) with
          | some ⟨u, .loop s pend⟩ => if u = st.nx ∧ s ≠ .busy ∧ Nat.ble st.ro st.nx = true then some [(pend.getD .nrm, { st with ob := fun k => if Nat.beq (2 * st.nx + 1) k then none else ob k, tk := tk, nx := ub, df := (2 * st.nx + 3, st.nx + 1) :: st.df })] else none
          | _ => none
    | _ => none
  | .stuck, _ => none
  | .ret, st => some [(.ret, st)]
def resOf (st : St) : ARes → Option V
  | .t n => some (st.tm n)
  | .cell n g => match st.tm n with
    | .ptr l u off => (objCells st.ob l u).bind fun cs => pick1 g cs off
    | _ => none
/-- The marks are all there. -/
def dfOk (st : St) : Bool := st.df.all (fun x => match st.ob x.1 with | some ⟨u, .dfr⟩ => Nat.beq u x.2 && Nat.ble st.ro u | _ => false) && nodup (st.df.map (·.1))
/-- Behind the marks. -/
def St.noDf (st : St) : St :=
  match st.df with
  | [] => st
  | df => { st with ob := fun k => if df.any (fun x => Nat.beq x.1 k) then none else st.ob k, df := [] }
def endV (res : List ARes) : Ex × St → Option V
  | (.nrm, st) | (.ret, st) => if dfOk st then (res.mapM (resOf st.noDf)).bind (outRes st.noDf) else none
  | _ => none
def start (args : List V) : St := { tm := fun n => args.getD n none', ob := fun _ => none, tk := fun _ => false, ro := 0, nx := 0, fb := 0, df := [] }
def endS (res : List ARes) : Ex × St → Option (V × (Nat → Option Obj') × (Nat → Bool) × Nat)
  | (.nrm, st) | (.ret, st) => if st.df.isEmpty then (res.mapM (resOf st)).map fun l => (match l with | [v] => v | l => .tup l, st.ob, st.tk, st.nx) else none
  | _ => none
/-- What all outcomes come to. -/
def one1 (f : Ex × St → Option V) : Option (List (Ex × St)) → Option V
  | some (x :: xs) => (f x).bind fun r => if xs.all fun y => match f y with | some r' => V.eqb r' r | none => false then some r else none
  | _ => none
/-- A number. -/
def int64? : V → Option Int
  | .int .i64 n => some n
  | _ => none
def insI (x : Int) : List Int → List Int
  | [] => [x]
  | y :: r => if x ≤ y then x :: y :: r else y :: insI x r
def sortI : List Int → List Int
  | [] => []
  | x :: r => insI x (sortI r)
/-- Pairs, one behind the other. -/
def pairsI : List Int → List (Int × Int)
  | a :: b :: r => (a, b) :: pairsI r
  | _ => []
def flatI : List (Int × Int) → List Int
  | [] => []
  | p :: r => p.1 :: p.2 :: flatI r
def pairLe (x y : Int × Int) : Bool := decide (x.1 < y.1) || decide (x.1 = y.1) && decide (x.2 ≤ y.2)
def insP (x : Int × Int) : List (Int × Int) → List (Int × Int)
  | [] => [x]
  | y :: r => if pairLe x y then x :: y :: r else y :: insP x r
def sortP : List (Int × Int) → List (Int × Int)
  | [] => []
  | x :: r => insP x (sortP r)
/-- By themselves, or as pairs by such a function. -/
def srtSz : Option FuncId → Nat
  | none => 1
  | some _ => 2
def srtIs : Option FuncId → List Int → List Int
  | none, zs => sortI zs
  | some _, zs => flatI (sortP (pairsI zs))
def smallI (z : Int) : Bool := decide (-1000000000000 ≤ z) && decide (z ≤ 1000000000000)
def srtMay : Option FuncId → List Int → Bool
  | none, _ => true
  | some _, zs => zs.all smallI
def srtArg : Option FuncId → List V → Option V
  | none, [x] => some x
  | some g, [x, .fn (.func g') [] []] => if g = g' then some x else none
  | _, _ => none
/-- Numbers are put in order. -/
def sortA (m : Option FuncId) (ob : Nat → Option Obj') (tk : Nat → Bool) (ro ub : Nat) (args : List V) : Option (V × (Nat → Option Obj') × (Nat → Bool) × Nat) :=
  match srtArg m args with
  | some (.osl l u off n sz) => (objCells ob l u).bind fun cs => if Nat.ble ro u = true ∧ sz = srtSz m ∧ off + n * srtSz m ≤ cs.length ∧ n ≤ 1000000000 then
      (((cs.drop off).take (n * srtSz m)).mapM int64?).bind fun zs => if srtMay m zs then some (.tup [], upd ob l (some ⟨u, .cells (splice cs off ((srtIs m zs).map (.int .i64)))⟩), tk, ub) else none else none
  | some (.sl _ _ 0 []) => some (.tup [], ob, tk, ub)
  | _ => none
/-- A function's text is run; else what is known of it counts. -/
def dOr (E : Env) (f : FuncId) (args : List V) (k : AF → Option V) : Option V :=
  match E.fc f with
  | some af => k af
  | none => E.kn f args
/-- Texts, one behind the other. -/
def strOf? : V → Option (List UInt8)
  | .str s => some s
  | _ => none
def joinL (sep : List UInt8) : List (List UInt8) → List UInt8
  | [] => []
  | [x] => x
  | x :: y :: r => x ++ sep ++ joinL sep (y :: r)
def joinV : List V → Option V
  | [.sl _ _ n cs, .str sep] => if cs.length = n ∧ n ≤ 1000000 then (cs.mapM strOf?).bind fun l => if (joinL sep l).length ≤ 140737488355328 then some (.str (joinL sep l)) else none else none
  | _ => none
def callers (E : Env) : Nat → Y → Callers
  | 0, y => { d := fun _ _ => none, o := fun _ _ _ _ _ _ => none, s := fun _ _ _ _ _ _ _ => none, y := y }
  | n + 1, y => {
    d := fun f args => dOr E f args fun af => one1 (endV af.res) (codeL E (callers E n) noY n af.body (start args))
    o := fun f args ob _ base ub => if E.fz f then (args.mapM (frzTop ob)).bind fun args' => ((callers E n noY).d f args').bind fun r => if r.freeR then some r else none else
      (E.fs f).bind fun af => one1 (endV af.res) (codeL E (callers E n) noY n af.body (startS args ob (fun _ => false) ub base ub))
    s := fun f args ob tk ro base ub => if E.tw f then (args.mapM (frzTop ob)).bind fun args' => ((callers E n noY).d f args').bind fun r => (thawR ob tk ub r).map fun x => [x] else match E.srt f with
      | some m => (sortA m ob tk ro ub args).map fun x => [x]
      | none => (E.fs f).bind fun af => (codeL E (callers E n) y n af.body (startS args ob tk ro base ub)).bind fun l => if E.mn f then l.mapM (endS af.res) else match l with
        | [x] => (endS af.res x).map fun r => [r]
        | _ => none
    y := y }
def ofLeaf : Value → Option V
  | .bool b => some (.bool b)
  | .int k n => some (.int k n)
  | .string s => some (.str s.data.toList)
  | .pointer none => some .nilptr
  | .slice none 0 0 => some (.sl none true 0 [])
  | .map none => some .nilmap
  | .nilFunc => some .nilfn
  | .nilIface => some .nilif
  | _ => none
def ofConst : Value → Option V
  | .agg cs => (cs.toList.mapM ofLeaf).map .agg
  | v => ofLeaf v
def opd : Operand → Option A
  | .tmp t => some (.t t)
  | .const v => (ofConst v).map .c
  | .global g => some (.g g)
  | .func f => some (.c (.fn (.func f) [] []))
def opds (xs : Array Operand) : Option (List A) := xs.toList.mapM opd
def szOf (P : Program) (t : TypeId) : Option Nat := (P.info? t).map (·.size)
def zeroOf (P : Program) (t : TypeId) : Option (List V) := (P.info? t).bind fun i => i.zero.bind fun z => z.cells.toList.mapM ofLeaf
def isAggD : TypeDesc → Bool
  | .struct _ | .array _ _ => true
  | _ => false
/-- how a variable of a type is read: whole (so many cells), or as one cell -/
def rowOf (P : Program) (t : TypeId) : Option (Option Nat) :=
  (P.underlying t).bind fun d => if isAggD d then (szOf P t).map some else some none
def fieldOf (P : Program) (s : TypeId) (f : Nat) : Option Field :=
  match P.underlying s with
  | some (.struct fs) => fs[f]?
  | _ => none
/-- '==' of such values is '==' of their cells. -/
def lkOf (P : Program) (t : TypeId) : Option LK :=
  match P.underlying t with
  | some .bool => some .bool
  | some (.int _) => some .int
  | some .string => some .str
  | _ => none
/-- A struct whose cells are plain: the types of its cells in order. -/
def eqFs (rec : TypeId → Option (List LK)) (P : Program) : Nat → List Field → Option (List LK)
  | _, [] => some []
  | off, f :: r => if f.name = "_" ∨ f.offset ≠ off then none else
    (rec f.type).bind fun l => if szOf P f.type = some l.length then (eqFs rec P (off + l.length) r).map (l ++ ·) else none
def eqTs (P : Program) : Nat → TypeId → Option (List LK)
  | 0, _ => none
  | d + 1, t =>
    match P.underlying t with
    | some .bool => some [.bool]
    | some (.int _) => some [.int]
    | some .string => some [.str]
    | some (.struct fs) => if P.stoodInHeld t then none else eqFs (eqTs P d) P 0 fs.toList
    | _ => none
def eqK (P : Program) (t : TypeId) (x y : Operand) : Option EqK :=
  match P.underlying t with
  | some .bool => some .bool
  | some (.pointer e) => match szOf P e with
    | some (_ + 1) => some .ptr
    | _ => none
  | some (.slice _) => some .sl
  | some (.map _ _) => some .map
  | some (.func ..) => some .fn
  | some (.interface _) => (match x, y with | .const _, _ | _, .const _ => some .iface | _, _ => none)
  | some (.struct _) => if P.eqGuardType P.depth t then none else (eqTs P 8 t).map .struct
  | some (.array n e) => if P.eqGuardType P.depth t ∨ szOf P e ≠ some 1 then none else (lkOf P e).map fun k => .struct (List.replicate n k)
  | _ => none
def isStrInt (P : Program) (t : TypeId) : Bool :=
  match P.underlying t with
  | some .string | some (.int _) => true
  | _ => false
def compParts (place : Nat → Option (Nat × Nat)) (ps : Array (Nat × Operand)) : Option (List (Nat × Nat × A)) :=
  ps.toList.mapM fun (i, x) => (place i).bind fun (o, s) => (opd x).map fun a => (o, s, a)
def compOpt (x : Option Operand) : Option (Option A) :=
  match x with
  | none => some none
  | some x => (opd x).map some
def isZ8 : Value → Bool
  | .int .u8 (.ofNat 0) => true
  | _ => false
def compBuiltin (P : Program) (o : Bool) (b : Builtin) (args : Array Operand) (ats : Array TypeId) : Option AOp :=
  match b with
  | .len => (opds args).bind fun l => match l, (ats[0]?).bind P.underlying with
    | [x], some .string => some (.lenStr x)
    | [x], some (.slice _) => some (.lenSl x)
    | [x], some (.map _ _) => some (.lenMap x)
    | _, _ => none
  | .append => (opds args).bind fun l => match l, ats.toList with
    | [s, x], [t, u] => if t = u then match P.underlying t with
        | some (.slice e) => (P.info? e).bind fun i => i.zero.bind fun z => if 0 < i.size ∧ z.cells.size = i.size then some (.append o i.size i.bytes s x) else none
        | _ => none else match P.underlying t, P.underlying u with
        | some (.slice e), some .string => (P.info? e).bind fun i => i.zero.bind fun z => if i.size = 1 ∧ i.bytes = 1 ∧ isZ8 z = true then some (.appS e s x) else none
        | _, _ => none
    | _, _ => none
  | .min => (opds args).map (.minmax false)
  | .max => (opds args).map (.minmax true)
  | .copy => (opds args).bind fun l => match l, (ats[0]?).bind P.underlying with
    | [x, y], some (.slice e) => (szOf P e).map fun s => .copy s x y
    | _, _ => none
  | .clear => (opds args).bind fun l => match l, (ats[0]?).bind P.underlying with
    | [x], some (.slice e) => (szOf P e).bind fun s => (zeroOf P e).map fun z => .clear s z x
    | _, _ => none
  | .unsafeSliceData => (opds args).bind fun l => match l with
    | [x] => some (.slData x)
    | _ => none
  | .unsafeString => (opds args).bind fun l => match l, ats.toList with
    | [p, n], [pt, _] => match P.underlying pt with
      | some (.pointer e) => if P.cellsOf e = 1 then some (.uStr e p n) else none
      | _ => none
    | _, _ => none
  | .delete => (opds args).bind fun l => match l, (ats[0]?).bind P.underlying with
    | [m, k], some (.map kt _) => (lkOf P kt).map fun q => .mapDel q m k
    | _, _ => none
  | _ => none
def extOf (P : Program) (f : FuncId) : Option ExtK :=
  (P.funcs[f]?).bind fun fn => if fn.body.isSome ∨ fn.origin ≠ "" then none else
    if fn.name = "internal/bytealg.CountString" then some .count else if fn.name = "internal/bytealg.IndexByteString" then some .indexByte else if fn.name = "internal/abi.NoEscape" then some .same else none
def compCall (P : Program) (o : Bool) (c : Call) : Option AOp :=
  match c.callee with
  | .value (.func f) => (opds c.args).map fun l => match extOf P f with | some k => .ext k l | none => .call f l
  | .value x => (opd x).bind fun a => (opds c.args).map (.callV a)
  | .invoke _ _ => none
  | .builtin b => (compBuiltin P o b c.args c.argTypes).filter fun a => !a.isCall && !a.isNext
/-- A pointer and a slice: the type is kept. -/
def allocOf (e : TypeId) : List V → AOp
  | [.nilptr, .sl none true 0 []] => .allocT e [.nilptr, .sl none true 0 []]
  | z => .alloc z
def boxOf : Option (List V) → TypeId → Nat → A → AOp
  | some [.nilptr, .sl none true 0 []], e, n, x => .boxT e n x
  | _, _, n, x => .box n x
/-- The types whose variables lie where one of type u does: its own, structs of such a one. -/
def seenAs (P : Program) (u : TypeId) : List TypeId :=
  (List.range P.types.size).filter fun t => (Nat.beq t u || match P.underlying t with | some (.struct fs) => (match fs.toList with | [f] => Nat.beq f.type u | _ => false) | _ => false) &&
    rowAt P (sameLayout P P.depth · u) P.depth t 1 0 1 && Nat.beq (P.cellsOf t) 2
def compOp1 (P : Program) (o : Bool) (op : Op) : Option AOp :=
  match op with
  | .move x | .assign x => (opd x).map .mov
  | .pick c a b => (opd c).bind fun c => (opd a).bind fun a => (opd b).map fun b => .pick c a b
  | .alloc e => (zeroOf P e).map (allocOf e)
  | .box e x => (szOf P e).bind fun n => (opd x).map (boxOf (zeroOf P e) e n)
  | .build t ps => (zeroOf P t).bind fun z => match P.underlying t with
    | some (.struct fs) => (fs.toList.mapM fun f => (P.info? f.type).map fun i => (f.offset, i.size)).bind fun places => (compParts (places.toArray[·]?) ps).map (.build z)
    | some (.array _ e) => (szOf P e).bind fun s => (compParts (fun i => some (i * s, s)) ps).map (.build z)
    | _ => none
  | .buildSlice t n ps => match P.underlying t with
    | some (.slice e) => (szOf P e).bind fun s => (zeroOf P e).bind fun z =>
        if z.length = s ∧ 0 < s ∧ n * s ≤ 16777216 then (compParts (fun i => some (i * s, s)) ps).map fun l => .buildSl o s (repl n z) l n else none
    | _ => none
  | .load t x => (rowOf P t).bind fun g => (opd x).map (.load g)
  | .store t a x => (szOf P t).bind fun s => (opd a).bind fun a => (opd x).map (.store s a)
  | .nilCheck x => (opd x).map .nilCheck
  | .binOp op t x y _ => (opd x).bind fun x' => (opd y).bind fun y' => match op with
    | .eql => if isStrInt P t then some (.bin .eql x' y') else (eqK P t x y).map fun k => .eq false k x' y'
    | .neq => if isStrInt P t then some (.bin .neq x' y') else (eqK P t x y).map fun k => .eq true k x' y'
    | op => some (.bin op x' y')
  | .unOp op _ x => (opd x).map (.un op)
  | .convert s d x => match P.underlying s, P.underlying d with
    | some (.int _), some (.int k) => (opd x).map (.conv k)
    | some .string, some .string => (opd x).map .convId
    | some .string, some (.slice e) => match P.underlying e with
      | some (.int .i32) => (opd x).map .runesOfStr
      | _ => none
    | some (.slice e), some .string => match P.underlying e with
      | some (.int .u8) => if szOf P e = some 1 then (opd x).map .strOfBytes else none
      | _ => none
    | some (.pointer e), some .unsafePointer => match szOf P e with
      | some (_ + 1) => (opd x).map .toUp
      | _ => none
    | some .unsafePointer, some (.pointer e) => match szOf P e with
      | some (_ + 1) => (opd x).map (.ofUp (seenAs P e))
      | _ => none
    | _, _ => none
  | .makeInterface t x => match P.underlying t with
    | some (.interface _) => none
    | some _ => (opd x).map (.iface t)
    | none => none
  | .makeFunc f a b => (opds a).bind fun a => (opds b).map (.mkFn f a)
  | .makeMap _ none => some .mkMap
  | .makeSlice t l c => match P.underlying t with
    | some (.slice e) => (P.info? e).bind fun i => (zeroOf P e).bind fun z => (opd l).bind fun l => (opd c).map fun c => .mkSl o i.size i.bytes z l c
    | _ => none
  | .typeAssert x _ t ok => match P.underlying t with
    | some (.interface _) => none
    | some _ => (P.info? t).bind fun i => i.zero.bind fun z => (ofConst z).bind fun z => (opd x).map (.assert t z ok)
    | none => none
  | .slice t x lo hi none => (opd x).bind fun x => (compOpt lo).bind fun lo => (compOpt hi).bind fun hi => match P.underlying t with
    | some .string => some (.slStr x lo hi)
    | some (.slice e) => (szOf P e).map fun s => .slSl s x lo hi
    | some (.array n e) => if n ≤ maxLen then (szOf P e).map fun s => .slArr n s x lo hi else none
    | _ => none
  | .fieldAddr s x f => (fieldOf P s f).bind fun f => (szOf P f.type).bind fun n => if n = 0 then none else (opd x).map (.fieldAddr f.offset)
  | .field s x f => (fieldOf P s f).bind fun f => (rowOf P f.type).bind fun g => (opd x).map (.part g f.offset)
  | .indexAddr t x i => (opd x).bind fun x => (opd i).bind fun i => match P.underlying t with
    | some (.slice e) => (szOf P e).bind fun s => if s = 0 then none else some (.idxSl s x i)
    | some (.array n e) => (szOf P e).map fun s => .idxArr n s x i
    | _ => none
  | .index t x i => (opd x).bind fun x => (opd i).bind fun i => match P.underlying t with
    | some .string => some (.idxStr x i)
    | some (.array n e) => (szOf P e).bind fun s => (rowOf P e).map fun g => .idxVal g n s x i
    | _ => none
  | .lookup t m k ok => match P.underlying t with
    | some (.map kt e) => (lkOf P kt).bind fun q => (P.info? e).bind fun i => i.zero.bind fun z => (ofConst z).bind fun z => (opd m).bind fun m => (opd k).map fun k => .lookup q z ok m k
    | _ => none
  | .mapUpdate t m k v => match P.underlying t with
    | some (.map kt _) => (lkOf P kt).bind fun q => (opd m).bind fun m => (opd k).bind fun k => (opd v).map (.mapSet q m k)
    | _ => none
  | .insert t m k v => match P.underlying t with
    | some (.map kt _) => (lkOf P kt).bind fun q => (opd m).bind fun m => (opd k).bind fun k => (opd v).map (.mapSet q m k)
    | _ => none
  | .mapEntry t m k => match P.underlying t with
    | some (.map kt e) => (lkOf P kt).bind fun q => (P.info? e).bind fun i => i.zero.bind fun z => (ofConst z).bind fun z => (opd m).bind fun m => (opd k).map fun k => .mapEnt q z m k
    | _ => none
  | .entryStore _ m s x => (opd m).bind fun m => (opd s).bind fun s => (opd x).map (.entSt m s)
  | .range t x => match P.underlying t with
    | some .string => (opd x).map (.range true)
    | some (.map _ _) => (opd x).map (.range false)
    | _ => none
  | .next x true => (opd x).map .nextStr
  | .entry x => (opd x).map .entry
  | .extract x i => (opd x).map fun x => .extract x i
  | _ => none
def compOp (P : Program) (m : Bool) (o : Oper) : Option AOp :=
  match o.op with
  | .call c => compCall P m c
  | .next x false => (opd x).map .nextMap
  | op => (compOp1 P m op).filter fun a => !a.isCall && !a.isNext
def compOpr (P : Program) (m : Bool) (ops : Array Oper) (o : Oper) : Option AOpr :=
  let a := (compOp P m o).getD .stuck
  match o.guard with
    | none => some { dst := o.dst, op := a, guard := none, nm := m }
    | some (j, b) => ((ops[j]?).bind (·.dst)).map fun t => { dst := o.dst, op := a, guard := some (t, b), nm := m }
def AOp.opds : AOp → List A
  | .mov x | .un _ x | .box _ x | .boxT _ _ x | .load _ x | .nilCheck x | .fieldAddr _ x | .part _ _ x | .lenStr x | .lenSl x | .lenMap x | .extract x _ | .range _ x | .nextStr x | .nextMap x | .entry x | .iface _ x | .assert _ _ _ x
  | .conv _ x | .convId x | .strOfBytes x | .strOfInt x | .runesOfStr x | .bytesOfStr x | .toUp x | .ofUp _ x | .slData x => [x]
  | .pick a b c => [a, b, c]
  | .clear _ _ x => [x]
  | .bin _ x y | .eq _ _ x y | .store _ x y | .idxSl _ x y | .idxArr _ _ x y | .idxStr x y | .idxVal _ _ _ x y | .append _ _ _ x y | .lookup _ _ _ x y | .mapDel _ x y | .mapEnt _ _ x y | .mkSl _ _ _ _ x y | .copy _ x y | .appS _ x y | .uStr _ x y => [x, y]
  | .alloc _ | .allocT .. | .mkMap | .stuck => []
  | .build _ ps | .buildSl _ _ _ ps _ => ps.map (·.2.2)
  | .slStr x l h | .slSl _ x l h | .slArr _ _ x l h => x :: (l.toList ++ h.toList)
  | .mkFn _ a b => a ++ b
  | .mapSet _ m k v | .entSt m k v => [m, k, v]
  | .minmax _ xs | .call _ xs | .ext _ xs => xs
  | .callV f xs => f :: xs
def A.tmps : A → List Nat
  | .t n => [n]
  | _ => []
def AOpr.looks (o : AOpr) : List Nat := o.op.opds.flatMap A.tmps ++ (match o.guard with | some (t, _) => [t] | none => [])
def AOp.rO : AOp → Bool
  | .load .. | .store .. | .lookup .. | .lenMap .. | .mapSet .. | .mapDel .. | .mapEnt .. | .entSt .. | .nextStr .. | .append .. | .eq .. | .copy .. | .clear .. | .range .. | .nextMap .. | .entry .. | .slArr .. | .strOfBytes .. | .toUp .. | .ofUp .. | .appS .. | .uStr .. => true
  | _ => false
def AOp.rA : AOp → Bool
  | .call .. | .callV .. => true
  | _ => false
def AOp.wO : AOp → Bool
  | .alloc .. | .allocT .. | .appS .. | .uStr .. | .box .. | .boxT .. | .mkMap | .range .. | .store .. | .mapSet .. | .mapDel .. | .mapEnt .. | .entSt .. | .nextStr .. | .append .. | .buildSl .. | .mkSl .. | .copy .. | .clear .. | .nextMap .. => true
  | _ => false
def AOp.rT : AOp → Bool
  | .append .. => true
  | _ => false
def AOp.wT : AOp → Bool
  | .append .. | .buildSl .. | .mkSl .. | .runesOfStr .. | .call .. | .callV .. => true
  | _ => false
/-- Two operations of which neither writes what the other looks at or writes, whatever the state. -/
def AOp.quiet (x y : AOp) : Bool :=
  !(x.wO && (y.rO || y.wO)) && !(y.wO && x.rO) && !(x.wT && (y.rT || y.wT)) && !(y.wT && x.rT) && !(x.rA && (y.wO || y.wT)) && !(y.rA && (x.wO || x.wT))
def AOpr.apart (x y : AOpr) : Bool :=
  (match x.dst with
   | some d => !(y.looks.any fun t => Nat.beq t d) && (match y.dst with | some e => !Nat.beq e d | none => true)
   | none => true) &&
  (match y.dst with
   | some d => !(x.looks.any fun t => Nat.beq t d)
   | none => true)
/-- What must come ahead of each operation: a row of bits. -/
def ahead (o : Oper) (ms : List Nat) : Nat :=
  o.after.toList.foldl (fun m e => if Region.binds .any e then m ||| (1 <<< e.on ||| ms.getD e.on 0) else m) 0
def aheads : List Oper → List Nat → List Nat
  | [], ms => ms
  | o :: r, ms => aheads r (ms ++ [ahead o ms])
/-- The pairs that no edge orders and that may touch: none if two such are not apart, or an edge leads ahead. -/
def drawPairs (ops : Array Oper) (als : List AOpr) : Option (List (Nat × Nat)) :=
  let ms := aheads ops.toList []
  let n := als.length
  let pairs := (List.range n).flatMap fun j => ((List.range j).filter fun i => !(ms.getD j 0).testBit i).map fun i => (i, j)
  if ((List.range n).all fun j => match ops[j]? with | some o => o.after.all fun e => !Region.binds .any e || Nat.blt e.on j | none => true) &&
     (pairs.all fun p => match als[p.1]?, als[p.2]? with | some x, some y => x.apart y | _, _ => true)
  then some (pairs.filter fun p => match als[p.1]?, als[p.2]? with | some x, some y => !x.op.quiet y.op | _, _ => false)
  else none
/-- From where on each is behind all ahead of it. -/
def serialFrom (ops : Array Oper) (n : Nat) : Nat :=
  (List.range n).foldl (fun k j => if (List.range j).all fun i => ((aheads ops.toList []).getD j 0).testBit i then k else j + 1) 0
/-- A call that is behind all ahead of it, and no edge orders it with what is behind it: that is still, and writes what nobody else writes or has looked at. -/
def pinOk (ops : Array Oper) (als : List AOpr) (k c : Nat) : Bool :=
  Nat.blt (c + 1) k && (match als[c]? with | some o => o.op.isCall | none => false) && ((List.range c).all fun i => ((aheads ops.toList []).getD c 0).testBit i) &&
  ((List.range k).all fun j => Nat.ble j c || match als[j]? with
    | some o => o.op.still && !((aheads ops.toList []).getD j 0).testBit c && (match o.dst with
      | some d => (List.range k).all fun i => match als[i]? with
        | some x => (Nat.beq i j || match x.dst with | some e => !Nat.beq e d | none => true) && (Nat.blt j i || !(x.looks.any fun t => Nat.beq t d))
        | none => true
      | none => true)
    | none => true)
def pinAt (ops : Array Oper) (als : List AOpr) (k : Nat) : Option Nat :=
  (((List.range k).filter fun i => match als[i]? with | some o => o.op.isCall | none => false).getLast?).filter (pinOk ops als k)
/-- A call that is behind all ahead of it, and all behind it is behind all of them, and still. -/
def midOk (ops : Array Oper) (als : List AOpr) (c : Nat) : Bool :=
  (match als[c]? with | some o => o.op.isCall | none => false) && ((List.range c).all fun i => ((aheads ops.toList []).getD c 0).testBit i) &&
  ((List.range als.length).all fun j => Nat.ble j c || ((List.range (c + 1)).all fun i => ((aheads ops.toList []).getD j 0).testBit i) && (match als[j]? with | some o => o.op.still | none => false)) &&
  (((als.drop (c + 1)).any fun o => match o.op with | .extract _ _ => true | _ => false) || ((als.take c).any fun o => o.op.isCall))
def midAt (ops : Array Oper) (als : List AOpr) : Option Nat :=
  (((List.range als.length).filter fun i => match als[i]? with | some o => o.op.isCall | none => false).getLast?).filter (midOk ops als)
def noOp : AOpr := { dst := none, op := .mov (.c (.tup [])), guard := none, nm := true }
/-- 'r': in a round of a range over a function, or where none may be. -/
def comp (P : Program) (m r : Bool) : Code → Option C
  | .skip => some .skip
  | .region _ ops false => (ops.toList.mapM (compOpr P m ops)).map .region
  | .region _ ops true => (ops.toList.mapM (compOpr P m ops)).map fun l => match drawPairs ops l with
    | some free => if m && Nat.blt (serialFrom ops l.length) l.length && (l.drop (serialFrom ops l.length)).any (fun o => o.op.isCall)
      then match pinAt ops l (serialFrom ops l.length) with
        | some c => .seq (.draw ((l.take (serialFrom ops l.length)).set c noOp) free) (.seq (.pin (l.getD c noOp) ((l.take (serialFrom ops l.length)).drop (c + 1))) (.region (l.drop (serialFrom ops l.length))))
        | none => .seq (.draw (l.take (serialFrom ops l.length)) free) (.region (l.drop (serialFrom ops l.length)))
      else match (if m then midAt ops l else none) with
        | some c => .seq (.draw (l.take c) free) (.seq (.region [l.getD c noOp]) (.draw (List.replicate (c + 1) noOp ++ l.drop (c + 1)) free))
        | none => .draw l free
    | none => .stuck
  | .seq a b => (comp P m r a).bind fun a => (comp P m r b).map (.seq a)
  | .cond c a b => (opd c).bind fun c => (comp P m r a).bind fun a => (comp P m r b).map (.cond c a)
  | .block id a => (comp P m r a).map (.block id)
  | .loop a => (comp P m r a).map .loop
  | .scope a => comp P m r a
  | .label _ => some .skip
  | .exit id => some (.exit id)
  | .ret => some .ret
  | .rangeFunc f ps a b => cond r (some .stuck) ((opd f).bind fun f => (comp P m true a).bind fun a => (comp P m true b).map (.rangeFunc f ps.toList a))
  | _ => some .stuck
def compRes (P : Program) : ResultVar → Option ARes
  | .tmp t => some (.t t)
  | .cell t ty => (rowOf P ty).map (.cell t)
def compF (P : Program) (m r : Bool) (fn : Func) : Option AF :=
  fn.body.bind fun c => (comp P m r c).bind fun b => (fn.results.toList.mapM (compRes P)).map fun r => { body := b, res := r }
/-- What stays of an object's block: how many cells it has, or a loop's record. -/
inductive Kd where
  | n (k : Nat)
  | lp (r : Loop)
def Kd.size : Kd → Nat
  | .n k => k
  | .lp _ => 0
inductive Place where
  /-- an object: its block, and what stays of it -/
  | obj (b : Nat) (k : Kd)
  | tok (b n cap sz : Nat)
abbrev IMap := Nat → Nat → Option Value
inductive RepP (I : IMap) : Value → V → Prop where
  | bool (b : Bool) : RepP I (.bool b) (.bool b)
  | int (k : IntKind) (n : Int) : RepP I (.int k n) (.int k n)
  | str (s : ByteArray) : RepP I (.string s) (.str s.data.toList)
  | nilptr : RepP I (.pointer none) .nilptr
  | nilmap : RepP I (.map none) .nilmap
  | nilfn : RepP I .nilFunc .nilfn
  | nilif : RepP I .nilIface .nilif
  | slnil : RepP I (.slice none 0 0) (.sl none true 0 [])
  | sl (a : Addr) (n cap : Nat) (cs : List V) (xs : Nat → Value) (hs : cs ≠ [] → a.spot = none) (hc : n ≤ cap) (hm : cap ≤ maxLen)
      (hi : ∀ j, j < cs.length → I a.block (a.off + j) = some (xs j)) (hl : ∀ (j : Nat) (v : V), cs[j]? = some v → v.pureLeaf = true)
      (hr : ∀ (j : Nat) (v : V), cs[j]? = some v → RepP I (xs j) v) : RepP I (.slice (some a) n cap) (.sl none false n cs)
  | agg (xs : Array Value) (cs : List V) (hlen : xs.size = cs.length) (hl : ∀ (j : Nat) (v : V), cs[j]? = some v → v.leaf = true)
      (hr : ∀ (j : Nat) (x : Value) (v : V), xs[j]? = some x → cs[j]? = some v → RepP I x v) : RepP I (.agg xs) (.agg cs)
  | eptr (b base off : Nat) (cs : List V) (xs : Nat → Value) (hi : ∀ j, j < cs.length → I b (base + j) = some (xs j))
      (hl : ∀ (j : Nat) (v : V), cs[j]? = some v → v.pureLeaf = true)
      (hr : ∀ (j : Nat) (v : V), cs[j]? = some v → RepP I (xs j) v) : RepP I (.pointer (some ⟨b, base + off, none⟩)) (.eptr cs off)
  | fn (f : Fn) (xs ys : Array Value) (as bs : List V) (hx : xs.size = as.length) (hy : ys.size = bs.length)
      (hrx : ∀ (j : Nat) (x : Value) (v : V), xs[j]? = some x → as[j]? = some v → RepP I x v) (hry : ∀ (j : Nat) (x : Value) (v : V), ys[j]? = some x → bs[j]? = some v → RepP I x v) :
      RepP I (.func f xs ys) (.fn f as bs)
  | iface (t : TypeId) (x : Value) (v : V) (hr : RepP I x v) : RepP I (.iface t x) (.iface t v)
inductive Rep (γ : Nat → Option Place) (I : IMap) : Value → V → Prop where
  | pure (x : Value) (v : V) (h : RepP I x v) : Rep γ I x v
  | undef (x : Value) : Rep γ I x .undef
  | tup (xs : Array Value) (vs : List V) (hlen : xs.size = vs.length) (hr : ∀ (j : Nat) (x : Value) (v : V), xs[j]? = some x → vs[j]? = some v → Rep γ I x v) : Rep γ I (.tuple xs) (.tup vs)
  | agg (xs : Array Value) (cs : List V) (hlen : xs.size = cs.length) (hl : ∀ (j : Nat) (v : V), cs[j]? = some v → v.leaf = true)
      (hr : ∀ (j : Nat) (x : Value) (v : V), xs[j]? = some x → cs[j]? = some v → Rep γ I x v) : Rep γ I (.agg xs) (.agg cs)
  | tsl (u b n cap sz : Nat) (cs : List V) (xs : Nat → Value) (hu : γ u = some (.tok b n cap sz)) (hlen : cs.length = n * sz) (hc : n ≤ cap) (hm : cap ≤ maxLen)
      (hi : ∀ j, j < cs.length → I b j = some (xs j)) (hl : ∀ (j : Nat) (v : V), cs[j]? = some v → v.pureLeaf = true) (hr : ∀ (j : Nat) (v : V), cs[j]? = some v → RepP I (xs j) v) :
      Rep γ I (.slice (some ⟨b, 0, none⟩) n cap) (.sl (some (u, sz)) false n cs)
  | ptr (l u off b : Nat) (k : Kd) (hu : γ u = some (.obj b k)) : Rep γ I (.pointer (some ⟨b, off, none⟩)) (.ptr l u off)
  | osl (l u off n sz cap b : Nat) (k : Kd) (a : Addr) (hu : γ u = some (.obj b k)) (ha : 0 < cap → a = ⟨b, off, none⟩ ∧ off + cap * sz ≤ k.size) (hc : n ≤ cap) (hm : cap ≤ maxLen) :
      Rep γ I (.slice (some a) n cap) (.osl l u off n sz)
  | map (l u b : Nat) (k : Kd) (hu : γ u = some (.obj b k)) : Rep γ I (.map (some b)) (.map l u)
  | iter (l u b : Nat) (k : Kd) (hu : γ u = some (.obj b k)) : Rep γ I (.pointer (some ⟨b, 0, none⟩)) (.iter l u)
  | yld (l u b : Nat) (k : Kd) (hu : γ u = some (.obj b k)) : Rep γ I (.func (.yield b) #[] #[]) (.yld l u)
  | fn (f : Fn) (xs ys : Array Value) (as bs : List V) (hx : xs.size = as.length) (hy : ys.size = bs.length)
      (hrx : ∀ (j : Nat) (x : Value) (v : V), xs[j]? = some x → as[j]? = some v → Rep γ I x v) (hry : ∀ (j : Nat) (x : Value) (v : V), ys[j]? = some x → bs[j]? = some v → Rep γ I x v) :
      Rep γ I (.func f xs ys) (.fn f as bs)
  | iface (t : TypeId) (x : Value) (v : V) (hr : Rep γ I x v) : Rep γ I (.iface t x) (.iface t v)
theorem RepP.mono {I I' : IMap} (hI : ∀ b o x, I b o = some x → I' b o = some x) {x : Value} {v : V} (h : RepP I x v) : RepP I' x v := by
  induction h with
  | bool b => exact .bool b
  | int k n => exact .int k n
  | str s => exact .str s
  | nilptr => exact .nilptr
  | nilmap => exact .nilmap
  | nilfn => exact .nilfn
  | nilif => exact .nilif
  | slnil => exact .slnil
  | sl a n cap cs xs hs hc hm hi hl hr ih => exact .sl a n cap cs xs hs hc hm (fun j hj => hI _ _ _ (hi j hj)) hl ih
  | agg xs cs hlen hl hr ih => exact .agg xs cs hlen hl ih
  | eptr b base off cs xs hi hl hr ih => exact .eptr b base off cs xs (fun j hj => hI _ _ _ (hi j hj)) hl ih
  | fn f xs ys as bs hx hy hrx hry ih1 ih2 => exact .fn f xs ys as bs hx hy ih1 ih2
  | iface t x v hr ih => exact .iface t x v ih
theorem Rep.mono {γ γ' : Nat → Option Place} {I I' : IMap} (hγ : ∀ u p, γ u = some p → γ' u = some p) (hI : ∀ b o x, I b o = some x → I' b o = some x) {x : Value} {v : V} (h : Rep γ I x v) : Rep γ' I' x v := by
  induction h with
  | pure x v h => exact .pure x v (h.mono hI)
  | undef x => exact .undef x
  | tup xs vs hlen hr ih => exact .tup xs vs hlen ih
  | agg xs cs hlen hl hr ih => exact .agg xs cs hlen hl ih
  | tsl u b n cap sz cs xs hu hlen hc hm hi hl hr => exact .tsl u b n cap sz cs xs (hγ _ _ hu) hlen hc hm (fun j hj => hI _ _ _ (hi j hj)) hl (fun j v hj => (hr j v hj).mono hI)
  | ptr l u off b k hu => exact .ptr l u off b k (hγ _ _ hu)
  | osl l u off n sz cap b k a hu ha hc hm => exact .osl l u off n sz cap b k a (hγ _ _ hu) ha hc hm
  | map l u b k hu => exact .map l u b k (hγ _ _ hu)
  | iter l u b k hu => exact .iter l u b k (hγ _ _ hu)
  | yld l u b k hu => exact .yld l u b k (hγ _ _ hu)
  | fn f xs ys as bs hx hy hrx hry ih1 ih2 => exact .fn f xs ys as bs hx hy ih1 ih2
  | iface t x v hr ih => exact .iface t x v ih
/-- What a value of one cell is in memory. -/
theorem Rep.oneCell {γ : Nat → Option Place} {I : IMap} {x : Value} {v : V} (h : Rep γ I x v) (hl : v.leaf = true) : x.oneCell' = true := by
  cases h with
  | pure x v h => cases h <;> first | rfl | (simp [V.leaf] at hl)
  | undef x => simp [V.leaf] at hl
  | tup => simp [V.leaf] at hl
  | agg => simp [V.leaf] at hl
  | _ => rfl
inductive Owner where
  | ob (l : Nat)
  | tk (u : Nat)
/-- Entries, as the interpreter has them. -/
def EntsOk (γ : Nat → Option Place) (I : IMap) (m : List MapEntry) (es : List (V × V)) : Prop :=
  m.length = es.length ∧ ∀ (j : Nat) (e : MapEntry) (k v : V), m[j]? = some e → es[j]? = some (k, v) → RepP I e.key k ∧ Rep γ I e.val v
def exCode : Ex → Code
  | .nrm => .skip
  | .exit id => .exit id
  | .ret => .ret
def lsOf : LS → LoopState
  | .ready => .ready
  | .busy => .busy
  | .done => .done
/-- An object's block. 'ob', 'h': all objects, and all blocks: a range looks at its map too. -/
def ObjOk (γ : Nat → Option Place) (I : IMap) (ob : Nat → Option Obj') (h : Array Obj) (k : Kd) (o : Option Obj) : OBody → Prop
  | .cells cs => ∃ arr e, o = some (.cells arr e (0, 0)) ∧ arr.size = k.size ∧ cs.length ≤ k.size ∧ ∀ (j : Nat) (x : Value) (v : V), arr[j]? = some x → cs[j]? = some v → v.leaf = true ∧ Rep γ I x v
  | .tcells t cs => ∃ arr, o = some (.cells arr t (0, 0)) ∧ arr.size = k.size ∧ cs.length ≤ k.size ∧ ∀ (j : Nat) (x : Value) (v : V), arr[j]? = some x → cs[j]? = some v → v.leaf = true ∧ Rep γ I x v
  | .mp ver es => ∃ (m : Array MapEntry) (clock : Nat), o = some (.map m clock) ∧ EntsOk γ I m.toList es ∧ (m.toList.map (·.born)).Nodup ∧ (∀ e ∈ m, e.born < clock) ∧
      (ver < mapK → clock = m.size ∧ ∀ (i : Nat) (e : MapEntry), m[i]? = some e → e.born = i)
  | .siter s pos => ∃ s', o = some (.stringIter s' pos) ∧ s'.data.toList = s
  | .miter l u ver left last => ∃ (mb : Nat) (mk : Kd) (since : Nat) (seen : Array Nat) (stepped : Nat), o = some (.mapIter (some mb) since seen stepped) ∧ γ u = some (.obj mb mk) ∧
      ∀ ver' es, ob l = some ⟨u, .mp ver' es⟩ → ver ≤ ver' ∧ (ver' = ver → ∃ (m : Array MapEntry), h[mb]? = some (.map m stepped) ∧ (∀ e ∈ m, e.born < since) ∧ since ≤ stepped ∧
        EntsOk γ I (m.toList.filter fun e => !seen.contains e.born) left ∧
        (∀ k v, last = some (k, v) → ∃ stamp e, seen.back? = some stamp ∧ m.find? (fun e => e.born == stamp) = some e ∧ RepP I e.key k ∧ Rep γ I e.val v))
  | .nomap => ∃ since seen stepped, o = some (.mapIter none since seen stepped)
  | .loop s pend => ∃ r : Loop, k = .lp r ∧ o = some (.loop { r with state := lsOf s, pending := pend.map exCode })
  | .dfr => o = some (.deferred (some []))
def TokOk (o : Option Obj) (n cap sz : Nat) : Prop := ∃ arr e, o = some (.cells arr e (0, 0)) ∧ cap * sz ≤ arr.size ∧ n ≤ cap ∧ cap ≤ maxLen
theorem EntsOk.mono {γ γ' : Nat → Option Place} {I I' : IMap} (hγ : ∀ u p, γ u = some p → γ' u = some p) (hI : ∀ b o x, I b o = some x → I' b o = some x) {m : List MapEntry} {es : List (V × V)} (h : EntsOk γ I m es) : EntsOk γ' I' m es :=
  ⟨h.1, fun j e k v he hk => ⟨(h.2 j e k v he hk).1.mono hI, (h.2 j e k v he hk).2.mono hγ hI⟩⟩
theorem ObjOk.mono {γ γ' : Nat → Option Place} {I I' : IMap} (hγ : ∀ u p, γ u = some p → γ' u = some p) (hI : ∀ b o x, I b o = some x → I' b o = some x) {ob : Nat → Option Obj'} {hp : Array Obj} {k : Kd} {o : Option Obj} {b : OBody}
    (h : ObjOk γ I ob hp k o b) : ObjOk γ' I' ob hp k o b := by
  cases b with
  | cells cs => obtain ⟨arr, e, h1, h2, h3, h4⟩ := h; exact ⟨arr, e, h1, h2, h3, fun j x v hx hv => ⟨(h4 j x v hx hv).1, (h4 j x v hx hv).2.mono hγ hI⟩⟩
  | tcells t cs => obtain ⟨arr, h1, h2, h3, h4⟩ := h; exact ⟨arr, h1, h2, h3, fun j x v hx hv => ⟨(h4 j x v hx hv).1, (h4 j x v hx hv).2.mono hγ hI⟩⟩
  | mp ver es => obtain ⟨m, c, h1, h2, h3, h4⟩ := h; exact ⟨m, c, h1, h2.mono hγ hI, h3, h4⟩
  | siter s pos => exact h
  | miter l u ver left last =>
    obtain ⟨mb, mk, since, seen, stepped, h1, h2, h3⟩ := h
    refine ⟨mb, mk, since, seen, stepped, h1, hγ _ _ h2, fun ver' es he => ⟨(h3 ver' es he).1, fun hv => ?_⟩⟩
    obtain ⟨m, k1, k2, k3, k4, k5⟩ := (h3 ver' es he).2 hv
    refine ⟨m, k1, k2, k3, k4.mono hγ hI, fun k v hl => ?_⟩
    obtain ⟨stamp, e, q1, q2, q3, q4⟩ := k5 k v hl
    exact ⟨stamp, e, q1, q2, q3.mono hI, q4.mono hγ hI⟩
  | nomap => exact h
  | loop s pend => exact h
  | dfr => exact h
/-- The maps that a body looks at are as they were, or were changed. -/
def MapsKeep (γ : Nat → Option Place) (ob ob' : Nat → Option Obj') (hp hp' : Array Obj) : Prop :=
  ∀ l u ver' es' mb mk, γ u = some (.obj mb mk) → ob' l = some ⟨u, .mp ver' es'⟩ →
    (ob l = some ⟨u, .mp ver' es'⟩ ∧ ∀ m c, hp[mb]? = some (.map m c) → hp'[mb]? = some (.map m c)) ∨ (∃ v0 es0, ob l = some ⟨u, .mp v0 es0⟩ ∧ v0 < ver')
theorem ObjOk.keep {γ : Nat → Option Place} {I : IMap} {ob ob' : Nat → Option Obj'} {hp hp' : Array Obj} {k : Kd} {o : Option Obj} {b : OBody} (h : ObjOk γ I ob hp k o b) (hb : MapsKeep γ ob ob' hp hp') : ObjOk γ I ob' hp' k o b := by
  cases b with
  | miter l u ver left last =>
    obtain ⟨mb, mk, since, seen, stepped, h1, h2, h3⟩ := h
    refine ⟨mb, mk, since, seen, stepped, h1, h2, fun ver' es he => ?_⟩
    rcases hb l u ver' es mb mk h2 he with ⟨h5, h6⟩ | ⟨v0, es0, h5, h6⟩
    · refine ⟨(h3 _ _ h5).1, fun hv => ?_⟩
      obtain ⟨m, k1, k2, k3, k4, k5⟩ := (h3 _ _ h5).2 hv
      exact ⟨m, h6 _ _ k1, k2, k3, k4, k5⟩
    · have := (h3 _ _ h5).1
      exact ⟨by omega, fun hv => by omega⟩
  | _ => exact h
/-- Who owns which block, and that it is so. -/
structure Own (γ : Nat → Option Place) (I : IMap) (B : Nat) (st : St) (w : World) (Ω : Nat → Option Owner) : Prop where
  ob : ∀ l o, st.ob l = some o → ∃ b k, γ o.uid = some (.obj b k) ∧ Ω b = some (.ob l) ∧ (st.ro ≤ o.uid → B ≤ b) ∧ ObjOk γ I st.ob w.heap k w.heap[b]? o.body ∧ ∀ j, I b j = none
  tk : ∀ u, st.tk u = true → ∃ b n cap sz, γ u = some (.tok b n cap sz) ∧ Ω b = some (.tk u) ∧ B ≤ b ∧ TokOk w.heap[b]? n cap sz ∧ ∀ j, n * sz ≤ j → I b j = none
  lt : ∀ b o, Ω b = some o → b < w.heap.size
/-- What is so of memory: 'w0', 'I0': the world, and what stays in it, as the outermost frame that shares began. -/
structure Sh (E : Env) (w0 : World) (I0 : IMap) (γ : Nat → Option Place) (I : IMap) (st : St) (w : World) : Prop where
  imm : ∀ b o x, I b o = some x → w.cell? ⟨b, o, none⟩ = some x
  gl : ∀ g cs, E.gl g = some cs → RepP I (.pointer (some ⟨g, 0, none⟩)) (.eptr cs 0)
  own : ∃ Ω, Own γ I w0.heap.size st w Ω
  fr : w0.grownBy w none
  old : ∀ b o, b < w0.heap.size → I b o = I0 b o
/-- The marks among what a frame defers. -/
def DfOk (γ : Nat → Option Place) : List (Nat × Nat) → List Deferred → Prop
  | [], [] => True
  | x :: l, d :: ds => (∃ b k, d = { target := .collected b, args := #[] } ∧ γ x.2 = some (.obj b k)) ∧ DfOk γ l ds
  | _, _ => False
theorem DfOk.mono {γ γ' : Nat → Option Place} (hγ : ∀ u p, γ u = some p → γ' u = some p) : ∀ {l : List (Nat × Nat)} {ds : List Deferred}, DfOk γ l ds → DfOk γ' l ds
  | [], [], _ => trivial
  | _ :: _, _ :: _, h => ⟨(let ⟨b, k, h1, h2⟩ := h.1; ⟨b, k, h1, hγ _ _ h2⟩), DfOk.mono hγ h.2⟩
  | [], _ :: _, h => h.elim
  | _ :: _, [], h => h.elim
structure R (E : Env) (w0 : World) (I0 : IMap) (nt : Nat) (γ : Nat → Option Place) (I : IMap) (st : St) (a : Act) (w : World) : Prop where
  sz : a.tmps.size = nt
  df : DfOk γ st.df a.defers
  tm : ∀ t, Rep γ I (a.tmps.getD t undef) (st.tm t)
  sh : Sh E w0 I0 γ I st w
section
variable {E : Env} {w0 w : World} {I0 I : IMap} {nt : Nat} {γ : Nat → Option Place} {st : St} {a : Act}
theorem R.imm (h : R E w0 I0 nt γ I st a w) : ∀ b o x, I b o = some x → w.cell? ⟨b, o, none⟩ = some x := h.sh.imm
theorem R.gl (h : R E w0 I0 nt γ I st a w) : ∀ g cs, E.gl g = some cs → RepP I (.pointer (some ⟨g, 0, none⟩)) (.eptr cs 0) := h.sh.gl
theorem R.own (h : R E w0 I0 nt γ I st a w) : ∃ Ω, Own γ I w0.heap.size st w Ω := h.sh.own
theorem R.fr (h : R E w0 I0 nt γ I st a w) : w0.grownBy w none := h.sh.fr
theorem R.old (h : R E w0 I0 nt γ I st a w) : ∀ b o, b < w0.heap.size → I b o = I0 b o := h.sh.old
end
/-- The world grows, or changes in blocks of the frame's own. -/
structure Grow (B : Nat) (w w' : World) (T : Nat → Prop) : Prop where
  os : w'.os = w.os
  tape : w'.tape = w.tape
  output : w'.output = w.output
  size : w.heap.size ≤ w'.heap.size
  block : ∀ k, k < w.heap.size → ¬ T k → w'.heap[k]? = w.heap[k]?
  low : ∀ k, T k → B ≤ k
theorem Grow.frame {w0 w w' : World} {T : Nat → Prop} (h : w0.grownBy w none) (g : Grow w0.heap.size w w' T) : w0.grownBy w' none :=
  ⟨g.os.trans h.os, g.tape.trans h.tape, g.output.trans h.output, Nat.le_trans h.size g.size, fun k hk hn =>
    (g.block k (Nat.lt_of_lt_of_le hk h.size) (fun ht => Nat.not_lt_of_le (g.low k ht) hk)).trans (h.block k hk hn)⟩
theorem mapM_some {α β : Type} {f : α → Option β} : ∀ {l : List α} {r : List β}, l.mapM f = some r → r.length = l.length ∧ ∀ (j : Nat) (x : α) (y : β), l[j]? = some x → r[j]? = some y → f x = some y
  | [], r, h => by
    simp at h
    subst h
    exact ⟨rfl, fun j x y hx _ => by simp at hx⟩
  | a :: l, r, h => by
    simp only [List.mapM_cons] at h
    cases ha : f a with
    | none => simp [ha] at h
    | some b =>
      cases hl : l.mapM f with
      | none => simp [ha, hl] at h
      | some r' =>
        simp [ha, hl] at h
        subst h
        obtain ⟨h1, h2⟩ := mapM_some hl
        refine ⟨by simp [h1], fun j x y hx hy => ?_⟩
        cases j with
        | zero => simp at hx hy; subst hx; subst hy; exact ha
        | succ j => simp at hx hy; exact h2 j x y hx hy
theorem eval_rep {E : Env} {w0 w : World} {I0 : IMap} {nt : Nat} {γ : Nat → Option Place} {I : IMap} {st : St} {a : Act} (h : R E w0 I0 nt γ I st a w) {x : Operand} {y : A} (hx : opd x = some y) : Rep γ I (a.eval x) (eval E st.tm y) := by
  have leafOk : ∀ v z, ofLeaf v = some z → RepP I v z ∧ z.leaf = true := by
    intro v z hz
    unfold ofLeaf at hz
    split at hz <;> simp only [Option.some.injEq, reduceCtorEq] at hz <;> subst hz
    · exact ⟨.bool _, rfl⟩
    · exact ⟨.int _ _, rfl⟩
    · exact ⟨.str _, rfl⟩
    · exact ⟨.nilptr, rfl⟩
    · exact ⟨.slnil, rfl⟩
    · exact ⟨.nilmap, rfl⟩
    · exact ⟨.nilfn, rfl⟩
    · exact ⟨.nilif, rfl⟩
  cases x with
  | tmp t => simp only [opd, Option.some.injEq] at hx; subst hx; exact h.tm t
  | const v =>
    simp only [opd, Option.map_eq_some_iff] at hx
    obtain ⟨z, hz, rfl⟩ := hx
    simp only [Act.eval, eval]
    unfold ofConst at hz
    split at hz
    · rename_i cs
      simp only [Option.map_eq_some_iff] at hz
      obtain ⟨l, hl, rfl⟩ := hz
      obtain ⟨hlen, hp⟩ := mapM_some hl
      have hget : ∀ (j : Nat) (z : V), l[j]? = some z → ∃ x, cs[j]? = some x ∧ ofLeaf x = some z := by
        intro j z hz
        have hj : j < cs.toList.length := by rw [← hlen]; exact (List.getElem?_eq_some_iff.1 hz).1
        have hx : cs.toList[j]? = some cs.toList[j] := List.getElem?_eq_getElem hj
        exact ⟨_, by rw [← Array.getElem?_toList]; exact hx, hp j _ _ hx hz⟩
      refine .pure _ _ (.agg cs l hlen.symm (fun j v hv => ?_) (fun j x v hx hv => ?_))
      · obtain ⟨x, _, h2⟩ := hget j v hv; exact (leafOk _ _ h2).2
      · obtain ⟨x', h1, h2⟩ := hget j v hv
        rw [hx] at h1
        cases h1
        exact (leafOk _ _ h2).1
    · exact .pure _ _ (leafOk _ _ hz).1
  | global g =>
    simp only [opd, Option.some.injEq] at hx
    subst hx
    simp only [Act.eval, eval]
    cases hg : E.gl g with
    | none => exact .undef _
    | some cs => exact .pure _ _ (h.gl g cs hg)
  | func f => simp only [opd, Option.some.injEq] at hx; subst hx; exact .pure _ _ (.fn _ _ _ _ _ rfl rfl (by simp) (by simp))
section
variable {P : Program} {E : Env} {w0 w : World} {I0 : IMap} {nt : Nat} {γ : Nat → Option Place} {I : IMap} {st : St} {a : Act} {o : Oper} {ub : Nat} {δ : Delta}
/-- The operation runs, and what is behind it is as the interpreter has it. -/
def OpOk (P : Program) (E : Env) (w0 : World) (I0 : IMap) (nt : Nat) (γ : Nat → Option Place) (I : IMap) (st : St) (a : Act) (w : World) (o : Oper) (ub : Nat) (δ : Delta) : Prop :=
  ∃ x w' γ' I', ((execOp a.eval o).run P w = .ok (.value x) w' ∨ ((execOp a.eval o).run P w = .ok .skip w' ∧ x = undef)) ∧
    R E w0 I0 nt γ' I' (st.app o.dst δ) (a.put o.dst x) w' ∧ (∀ u, ¬(ub ≤ u ∧ u < ub + 64) → γ' u = γ u) ∧ (∀ u p, γ u = some p → γ' u = some p) ∧ (∀ b o x, I b o = some x → I' b o = some x)
theorem put_getD (a : Act) (dst : Option Tmp) (x : Value) (hd : ∀ d, dst = some d → d < a.tmps.size) (t : Nat) :
    (a.put dst x).tmps.getD t undef = if dst = some t then x else a.tmps.getD t undef := by
  cases dst with
  | none => simp [Act.put]
  | some d =>
    have hlt := hd d rfl
    by_cases h : d = t
    · subst h
      simp [Act.put, hlt]
    · simp only [Act.put, Option.some.injEq, h, if_false]
      simp [Array.getElem?_setIfInBounds_ne h]
theorem put_size (a : Act) (dst : Option Tmp) (x : Value) : (a.put dst x).tmps.size = a.tmps.size := by
  cases dst <;> simp [Act.put]
theorem put_defers' (a : Act) (dst : Option Tmp) (x : Value) : (a.put dst x).defers = a.defers := by
  cases dst <;> rfl
theorem rep_put {γ' : Nat → Option Place} {I' : IMap} {tm : Nat → V} {dst : Option Tmp} {x : Value} {v : V} (hd : ∀ d, dst = some d → d < a.tmps.size)
    (h : ∀ t, Rep γ' I' (a.tmps.getD t undef) (tm t)) (hx : Rep γ' I' x v) : ∀ t, Rep γ' I' ((a.put dst x).tmps.getD t undef) (put tm dst v t) := by
  intro t
  rw [put_getD a dst x hd t]
  cases dst with
  | none => simpa [put] using h t
  | some d =>
    by_cases hdt : d = t
    · subst hdt; simpa [put] using hx
    · simp only [Option.some.injEq, hdt, if_false, put]
      rw [upd_ne _ _ (fun e => hdt e.symm)]
      exact h t
theorem df_put (h : R E w0 I0 nt γ I st a w) {γ' : Nat → Option Place} (hγ : ∀ u p, γ u = some p → γ' u = some p) (dst : Option Tmp) (x : Value) : DfOk γ' st.df (a.put dst x).defers := by
  rw [put_defers']
  exact h.df.mono hγ
theorem R.put (h : R E w0 I0 nt γ I st a w) {dst : Option Tmp} {x : Value} {v : V} (hd : ∀ d, dst = some d → d < nt) (hx : Rep γ I x v) :
    R E w0 I0 nt γ I { st with tm := put st.tm dst v } (a.put dst x) w :=
  ⟨(put_size a dst x).trans h.sz, df_put h (fun _ _ h => h) dst x, rep_put (by rw [h.sz]; exact hd) h.tm hx, ⟨h.imm, h.gl,
    (let ⟨Ω, ho⟩ := h.own; ⟨Ω, ⟨ho.ob, ho.tk, ho.lt⟩⟩), h.fr, h.old⟩⟩
/-- An operation that answers a value and touches nothing. -/
theorem val_ok (hR : R E w0 I0 nt γ I st a w) (hd : ∀ d, o.dst = some d → d < nt) {x : Value} {v : V} (hrun : (execOp a.eval o).run P w = .ok (.value x) w)
    (hx : Rep γ I x v) (hδ : one v = some δ) : OpOk P E w0 I0 nt γ I st a w o ub δ := by
  simp only [one, Option.some.injEq] at hδ
  subst hδ
  exact ⟨x, w, γ, I, .inl hrun, hR.put hd hx, fun _ _ => rfl, fun _ _ h => h, fun _ _ _ h => h⟩
theorem upd_mono {α : Type} {f : Nat → Option α} {k : Nat} {v : α} (h : f k = none) : ∀ u p, f u = some p → upd f k (some v) u = some p := by
  intro u p hu
  rw [upd_ne f _ (fun e => by rw [e, h] at hu; cases hu)]
  exact hu
/-- New blocks, a new object in a new block. -/
theorem keep_alloc {ob : Nat → Option Obj'} {obj : Obj} {d : Nat} {body : OBody} (hf : γ ub = none) : MapsKeep γ ob (upd ob d (some ⟨ub, body⟩)) w.heap (w.alloc obj).heap := by
  intro l u ver' es' mb mk hu hl
  rw [upd_apply] at hl
  split at hl
  · simp only [Option.some.injEq, Obj'.mk.injEq] at hl
    rw [← hl.1, hf] at hu
    cases hu
  · refine .inl ⟨hl, fun m c hm => ?_⟩
    rw [heap_alloc_old _ _ _ (Array.getElem?_eq_some_iff.1 hm).1]
    exact hm
/-- An object is made. -/
theorem alloc_R (hR : R E w0 I0 nt γ I st a w) (hd : ∀ d, o.dst = some d → d < nt) (hf : γ ub = none) {x : Value} {v : V} {obj : Obj} {body : OBody} {d : Nat} {k : Kd} {w' : World} (hw : w' = w.alloc obj)
    (hx : ∀ γ' : Nat → Option Place, γ' ub = some (.obj w.heap.size k) → Rep γ' I x v) (hb : ObjOk γ I st.ob w.heap k (some obj) body) (hδ : mkObj d ub body v = some δ) :
    ∃ γ' I', R E w0 I0 nt γ' I' (st.app o.dst δ) (a.put o.dst x) w' ∧ (∀ u, ¬(ub ≤ u ∧ u < ub + 64) → γ' u = γ u) ∧ (∀ u p, γ u = some p → γ' u = some p) ∧ (∀ b o x, I b o = some x → I' b o = some x) := by
  simp only [mkObj, Option.some.injEq] at hδ
  subst hδ
  subst hw
  have hm := upd_mono (f := γ) (k := ub) (v := Place.obj w.heap.size k) hf
  obtain ⟨Ω, ho⟩ := hR.own
  have hob : (st.app o.dst { v := v, obs := [(d, ⟨ub, body⟩)] }).ob = upd st.ob d (some ⟨ub, body⟩) := by
    simp [St.app, setObs]
  have hkeep := keep_alloc (w := w) (ob := st.ob) (obj := obj) (d := d) (body := body) hf
  refine ⟨upd γ ub (some (.obj w.heap.size k)), I, ⟨(put_size _ _ _).trans hR.sz, df_put hR hm _ _, ?_, ⟨?_, hR.gl, ?_, ?_, hR.old⟩⟩, ?_, hm, fun _ _ _ h => h⟩
  · exact rep_put (by rw [hR.sz]; exact hd) (fun t => (hR.tm t).mono hm (fun _ _ _ h => h)) (hx _ (by simp))
  · intro b o' x' hb'
    rw [World.cell?_alloc_lt]
    · exact hR.imm _ _ _ hb'
    · exact World.block_lt_of_cell? _ _ (hR.imm _ _ _ hb')
  · have hI : ∀ j, I w.heap.size j = none := by
      intro j
      cases hj : I w.heap.size j with
      | none => rfl
      | some y => exact absurd (World.block_lt_of_cell? _ _ (hR.imm _ _ _ hj)) (Nat.lt_irrefl _)
    refine ⟨upd Ω w.heap.size (some (.ob d)), ⟨?_, ?_, ?_⟩⟩
    · intro l ob hl
      rw [hob] at hl ⊢
      rw [upd_apply] at hl
      split at hl
      · rename_i hld
        subst hld
        simp only [Option.some.injEq] at hl
        subst hl
        refine ⟨w.heap.size, k, by simp, by simp, fun _ => hR.fr.size, ?_, hI⟩
        rw [heap_alloc_new]
        exact (hb.keep hkeep).mono hm (fun _ _ _ h => h)
      · rename_i hld
        obtain ⟨b, k', h1, h2, h3, h4, h5⟩ := ho.ob l ob hl
        have hlt := ho.lt b _ h2
        refine ⟨b, k', hm _ _ h1, ?_, h3, ?_, h5⟩
        · rw [upd_ne _ _ (Nat.ne_of_lt hlt)]; exact h2
        · rw [heap_alloc_old _ _ _ hlt]; exact (h4.keep hkeep).mono hm (fun _ _ _ h => h)
    · intro u hu
      have hu' : st.tk u = true := by simpa [St.app, setToks] using hu
      obtain ⟨b, n, cap, sz, h1, h2, h3, h4, h5⟩ := ho.tk u hu'
      have hlt := ho.lt b _ h2
      refine ⟨b, n, cap, sz, hm _ _ h1, ?_, h3, ?_, h5⟩
      · rw [upd_ne _ _ (Nat.ne_of_lt hlt)]; exact h2
      · rw [heap_alloc_old _ _ _ hlt]; exact h4
    · intro b ow hb'
      rw [upd_apply] at hb'
      simp only [World.size_alloc]
      split at hb'
      · rename_i e; omega
      · have := ho.lt b _ hb'; omega
  · exact Grow.frame hR.fr ⟨rfl, rfl, rfl, by simp, fun k hk _ => heap_alloc_old _ _ _ hk, fun k hk => hk.elim⟩ (T := fun _ => False)
  · intro u hu
    exact upd_ne _ _ (fun e => hu ⟨by omega, by omega⟩)
/-- An operation that makes an object. -/
theorem alloc_ok (hR : R E w0 I0 nt γ I st a w) (hd : ∀ d, o.dst = some d → d < nt) (hf : γ ub = none) {x : Value} {v : V} {obj : Obj} {body : OBody} {d : Nat} {k : Kd} {w' : World}
    (hrun : (execOp a.eval o).run P w = .ok (.value x) w') (hw : w' = w.alloc obj)
    (hx : ∀ γ' : Nat → Option Place, γ' ub = some (.obj w.heap.size k) → Rep γ' I x v) (hb : ObjOk γ I st.ob w.heap k (some obj) body) (hδ : mkObj d ub body v = some δ) : OpOk P E w0 I0 nt γ I st a w o ub δ := by
  obtain ⟨γ', I', h⟩ := alloc_R hR hd hf hw hx hb hδ
  exact ⟨x, w', γ', I', .inl hrun, h⟩
/-- An operation that changes an object. -/
theorem set_ok (hR : R E w0 I0 nt γ I st a w) (hd : ∀ d, o.dst = some d → d < nt) {l u : Nat} {body body' : OBody} (hl : st.ob l = some ⟨u, body⟩) (hro : Nat.ble st.ro u = true) {x : Value} {v : V} {w' : World}
    (hrun : (execOp a.eval o).run P w = .ok (.value x) w' ∨ ((execOp a.eval o).run P w = .ok .skip w' ∧ x = undef)) (hx : Rep γ I x v) (hver : ∀ v es, body' = .mp v es → ∃ v0 es0, body = .mp v0 es0 ∧ v0 < v)
    (hw : ∀ b k, γ u = some (.obj b k) → b < w.heap.size → (w'.os = w.os ∧ w'.tape = w.tape ∧ w'.output = w.output ∧ w'.heap.size = w.heap.size ∧ (∀ k, k ≠ b → w'.heap[k]? = w.heap[k]?) ∧ ObjOk γ I st.ob w.heap k w'.heap[b]? body'))
    (hδ : some { v := v, obs := [(l, ⟨u, body'⟩)] } = some δ) : OpOk P E w0 I0 nt γ I st a w o ub δ := by
  simp only [Option.some.injEq] at hδ
  subst hδ
  obtain ⟨Ω, ho⟩ := hR.own
  obtain ⟨b, k, h1, h2, h3, _, h5⟩ := ho.ob l _ hl
  obtain ⟨g1, g2, g3, g4, g5, g6⟩ := hw b k h1 (ho.lt b _ h2)
  have hob : (st.app o.dst { v := v, obs := [(l, ⟨u, body'⟩)] }).ob = upd st.ob l (some ⟨u, body'⟩) := by
    simp [St.app, setObs]
  have hkeep : MapsKeep γ st.ob (upd st.ob l (some ⟨u, body'⟩)) w.heap w'.heap := by
    intro l' u' ver' es' mb mk hu hl'
    rw [upd_apply] at hl'
    split at hl'
    · rename_i e
      subst e
      simp only [Option.some.injEq, Obj'.mk.injEq] at hl'
      obtain ⟨rfl, he⟩ := hl'
      obtain ⟨v0, es0, rfl, hv⟩ := hver _ _ he
      exact .inr ⟨v0, es0, hl, hv⟩
    · rename_i hne
      refine .inl ⟨hl', fun m c hm => ?_⟩
      obtain ⟨b', k', q1, q2, _⟩ := ho.ob l' _ hl'
      rw [hu] at q1
      cases q1
      have : mb ≠ b := fun e => by
        subst e
        rw [h2] at q2
        cases q2
        exact hne rfl
      rw [g5 mb this]
      exact hm
  refine ⟨x, w', γ, I, hrun, ⟨(put_size _ _ _).trans hR.sz, df_put hR (fun _ _ h => h) _ _, ?_, ⟨?_, hR.gl, ⟨Ω, ⟨?_, ?_, ?_⟩⟩, ?_, hR.old⟩⟩, fun _ _ => rfl, fun _ _ h => h, fun _ _ _ h => h⟩
  · exact rep_put (by rw [hR.sz]; exact hd) hR.tm hx
  · intro b' o' x' hb'
    have hne : b' ≠ b := fun e => by rw [e, h5] at hb'; cases hb'
    have := hR.imm _ _ _ hb'
    rw [World.cell?_of_block (w := w) (w' := w') (a := ⟨b', o', none⟩) (g5 b' hne)]
    exact this
  · intro l' ob hl'
    rw [hob] at hl' ⊢
    rw [upd_apply] at hl'
    split at hl'
    · rename_i e
      subst e
      simp only [Option.some.injEq] at hl'
      subst hl'
      exact ⟨b, k, h1, h2, h3, g6.keep hkeep, h5⟩
    · rename_i e
      obtain ⟨b', k', k1, k2, k3, k4, k5⟩ := ho.ob l' ob hl'
      have hne : b' ≠ b := fun eb => by
        subst eb
        rw [h2] at k2
        cases k2
        exact e rfl
      exact ⟨b', k', k1, k2, k3, by rw [g5 b' hne]; exact k4.keep hkeep, k5⟩
  · intro u' hu
    have hu' : st.tk u' = true := by simpa [St.app, setToks] using hu
    obtain ⟨b', n, cap, sz, k1, k2, k3, k4, k5⟩ := ho.tk u' hu'
    have hne : b' ≠ b := fun eb => by subst eb; rw [h2] at k2; cases k2
    exact ⟨b', n, cap, sz, k1, k2, k3, by rw [g5 b' hne]; exact k4, k5⟩
  · intro b' ow hb'
    rw [g4]
    exact ho.lt b' ow hb'
  · exact Grow.frame hR.fr (T := fun k => k = b) ⟨g1, g2, g3, Nat.le_of_eq g4.symm, fun k _ hk => g5 k hk, fun k hk => hk ▸ h3 (by simpa [Nat.ble_eq] using hro)⟩
end
section
variable {P : Program} {E : Env} {w0 w : World} {I0 : IMap} {nt : Nat} {γ : Nat → Option Place} {I : IMap} {st : St} {a : Act} {o : Oper} {ub : Nat} {δ : Delta}
theorem setToks_one (tk : Nat → Bool) (b : Bool) (l : List Nat) (u : Nat) : setToks tk b l u = if u ∈ l then b else tk u := by
  induction l with
  | nil => simp [setToks]
  | cons x l ih =>
    simp only [setToks, upd_apply, ih, List.mem_cons]
    by_cases h : u = x <;> simp [h]
/-- A slice to which may be appended, in block b: a new one, or the one that was appended to. -/
theorem tok_ok' (hR : R E w0 I0 nt γ I st a w) (hd : ∀ d, o.dst = some d → d < nt) (hf : γ ub = none) {b n cap sz : Nat} {cs : List V} {w' : World} {del : Option Nat} {arr : Array Value} {e : TypeId}
    (hrun : (execOp a.eval o).run P w = .ok (.value (.slice (some ⟨b, 0, none⟩) n cap)) w')
    (hb : (b = w.heap.size ∧ w'.heap.size = w.heap.size + 1) ∨ (∃ u n0 cap0 sz0, st.tk u = true ∧ γ u = some (.tok b n0 cap0 sz0) ∧ del = some u ∧ w'.heap.size = w.heap.size))
    (hos : w'.os = w.os ∧ w'.tape = w.tape ∧ w'.output = w.output) (hk : ∀ k, k < w.heap.size → k ≠ b → w'.heap[k]? = w.heap[k]?)
    (hblk : w'.heap[b]? = some (.cells arr e (0, 0))) (hsz : cap * sz ≤ arr.size) (hc : n ≤ cap) (hm : cap ≤ maxLen)
    (hold : ∀ j x, I b j = some x → j < n * sz ∧ arr[j]? = some x) (hlen : cs.length = n * sz)
    (hcells : ∀ (j : Nat) (v : V), cs[j]? = some v → v.pureLeaf = true ∧ ∃ x, arr[j]? = some x ∧ RepP I x v)
    (hδ : some { v := V.sl (some (ub, sz)) false n cs, del := del, add := [ub] } = some δ) : OpOk P E w0 I0 nt γ I st a w o ub δ := by
  simp only [Option.some.injEq] at hδ
  subst hδ
  obtain ⟨Ω, ho⟩ := hR.own
  have hmγ := upd_mono (f := γ) (k := ub) (v := Place.tok b n cap sz) hf
  let I' : IMap := fun b' j => if b' = b ∧ j < n * sz then arr[j]? else I b' j
  have hI : ∀ b' j x, I b' j = some x → I' b' j = some x := by
    intro b' j x hx
    by_cases h : b' = b
    · subst h
      obtain ⟨h1, h2⟩ := hold j x hx
      simp only [I', h1, and_self, if_true, h2]
    · simp only [I', h, false_and, if_false, hx]
  have hcap : n * sz ≤ cap * sz := Nat.mul_le_mul_right _ hc
  have hB : w0.heap.size ≤ b := by
    rcases hb with ⟨h, _⟩ | ⟨u, n0, c0, s0, hu, hg, _, _⟩
    · rw [h]; exact hR.fr.size
    · obtain ⟨b', n', c', s', k1, k2, k3, k4, k5⟩ := ho.tk u hu
      rw [hg] at k1
      cases k1
      exact k3
  have hle : w.heap.size ≤ w'.heap.size := by rcases hb with ⟨_, h⟩ | ⟨_, _, _, _, _, _, _, h⟩ <;> omega
  have hlt : b < w'.heap.size := (Array.getElem?_eq_some_iff.1 hblk).1
  -- who owns what is not b
  have hneb : ∀ b' ow, Ω b' = some ow → (∀ u, ow = .tk u → del ≠ some u) → b' ≠ b := by
    intro b' ow h1 h2 e
    subst e
    rcases hb with ⟨h, _⟩ | ⟨u, n0, c0, s0, hu, hg, hdel, _⟩
    · have := ho.lt _ _ h1; omega
    · obtain ⟨b'', n', c', s', k1, k2, k3, k4, k5⟩ := ho.tk u hu
      rw [hg] at k1
      cases k1
      rw [h1] at k2
      cases k2
      exact h2 u rfl hdel
  refine ⟨.slice (some ⟨b, 0, none⟩) n cap, w', upd γ ub (some (.tok b n cap sz)), I', .inl hrun, ⟨(put_size _ _ _).trans hR.sz, df_put hR hmγ _ _, ?_, ⟨?_, ?_, ⟨upd Ω b (some (.tk ub)), ⟨?_, ?_, ?_⟩⟩, ?_, fun b' j hb' => ?_⟩⟩, ?_, hmγ, hI⟩
  · refine rep_put (by rw [hR.sz]; exact hd) (fun t => (hR.tm t).mono hmγ hI) ?_
    refine .tsl ub b n cap sz cs (fun j => (arr[j]?).getD undef) (by simp) hlen hc hm (fun j hj => ?_) (fun j v hv => (hcells j v hv).1) (fun j v hv => ?_)
    · have hj' : j < n * sz := by omega
      have : j < arr.size := by omega
      simp [I', hj', this]
    · obtain ⟨_, x, hx, hr⟩ := hcells j v hv
      simp only [hx, Option.getD_some]
      exact hr.mono hI
  · intro b' j x hx
    by_cases h : b' = b ∧ j < n * sz
    · simp only [I', h, and_self, if_true] at hx
      obtain ⟨rfl, _⟩ := h
      simp [World.cell?, hblk, hx]
    · simp only [I', h, if_false] at hx
      by_cases hb' : b' = b
      · subst hb'
        obtain ⟨h1, _⟩ := hold j x hx
        exact absurd ⟨rfl, h1⟩ h
      · have hc := hR.imm _ _ _ hx
        rw [World.cell?_of_block (w := w) (w' := w') (a := ⟨b', j, none⟩) (hk b' (World.block_lt_of_cell? _ _ hc) hb')]
        exact hc
  · exact fun g cs' hg => (hR.gl g cs' hg).mono hI
  · intro l ob hl
    have hobs : (st.app o.dst { v := V.sl (some (ub, sz)) false n cs, del := del, add := [ub] }).ob = st.ob := by simp [St.app, setObs]
    rw [hobs] at hl ⊢
    obtain ⟨b', k', k1, k2, k3, k4, k5⟩ := ho.ob l ob hl
    have hne := hneb b' _ k2 (fun u h => by cases h)
    have hlt' := ho.lt _ _ k2
    have hkeep : MapsKeep γ st.ob st.ob w.heap w'.heap := by
      intro l2 u2 ver' es' mb mk hu2 hl2
      refine .inl ⟨hl2, fun m c hm2 => ?_⟩
      obtain ⟨b2, k2', q1, q2, _⟩ := ho.ob l2 _ hl2
      rw [hu2] at q1
      cases q1
      rw [hk mb (ho.lt _ _ q2) (hneb mb _ q2 (fun u h => by cases h))]
      exact hm2
    refine ⟨b', k', hmγ _ _ k1, ?_, k3, ?_, fun j => ?_⟩
    · rw [upd_ne _ _ hne]; exact k2
    · rw [hk b' hlt' hne]; exact (k4.keep hkeep).mono hmγ hI
    · simp only [I', hne, false_and, if_false, k5]
  · intro u hu
    simp only [St.app, setToks_one, List.mem_singleton] at hu
    by_cases hu1 : u = ub
    · subst hu1
      refine ⟨b, n, cap, sz, by simp, by simp, hB, ⟨arr, e, hblk, hsz, hc, hm⟩, fun j hj => ?_⟩
      have hj' : ¬ j < n * sz := by omega
      simp only [I', hj', and_false, if_false]
      cases hI2 : I b j with
      | none => rfl
      | some x => exact absurd (hold j x hI2).1 hj'
    · simp only [hu1, if_false] at hu
      split at hu
      · cases hu
      · rename_i hdel
        obtain ⟨b', n', c', s', k1, k2, k3, k4, k5⟩ := ho.tk u hu
        have hne := hneb b' _ k2 (fun u' h hd' => by cases h; simp [hd'] at hdel)
        have hlt' := ho.lt _ _ k2
        refine ⟨b', n', c', s', hmγ _ _ k1, ?_, k3, ?_, fun j hj => ?_⟩
        · rw [upd_ne _ _ hne]; exact k2
        · rw [hk b' hlt' hne]; exact k4
        · simp only [I', hne, false_and, if_false, k5 j hj]
  · intro b' ow hb'
    rw [upd_apply] at hb'
    split at hb'
    · rename_i h; subst h; exact hlt
    · have := ho.lt b' _ hb'; omega
  · refine Grow.frame hR.fr (T := fun k => k = b) ⟨hos.1, hos.2.1, hos.2.2, hle, fun k hk' hne => hk k hk' hne, fun k hk' => hk' ▸ hB⟩
  · have hne : b' ≠ b := by omega
    simp only [I', hne, false_and, if_false]
    exact hR.old b' j hb'
  · intro u hu
    exact upd_ne _ _ (fun e => hu ⟨by omega, by omega⟩)
theorem tok_ok (hR : R E w0 I0 nt γ I st a w) (hd : ∀ d, o.dst = some d → d < nt) (hf : γ ub = none) {b n cap sz : Nat} {cs : List V} {w' : World} {del : Option Nat} {arr : Array Value} {e : TypeId}
    (hrun : (execOp a.eval o).run P w = .ok (.value (.slice (some ⟨b, 0, none⟩) n cap)) w')
    (hb : (b = w.heap.size ∧ w'.heap.size = w.heap.size + 1) ∨ (∃ u n0 cap0 sz0, st.tk u = true ∧ γ u = some (.tok b n0 cap0 sz0) ∧ del = some u ∧ w'.heap.size = w.heap.size))
    (hos : w'.os = w.os ∧ w'.tape = w.tape ∧ w'.output = w.output) (hk : ∀ k, k < w.heap.size → k ≠ b → w'.heap[k]? = w.heap[k]?)
    (hblk : w'.heap[b]? = some (.cells arr e (0, 0))) (hsz : arr.size = cap * sz) (hc : n ≤ cap) (hm : cap ≤ maxLen)
    (hold : ∀ j x, I b j = some x → j < n * sz ∧ arr[j]? = some x) (hlen : cs.length = n * sz)
    (hcells : ∀ (j : Nat) (v : V), cs[j]? = some v → v.pureLeaf = true ∧ ∃ x, arr[j]? = some x ∧ RepP I x v)
    (hδ : some { v := V.sl (some (ub, sz)) false n cs, del := del, add := [ub] } = some δ) : OpOk P E w0 I0 nt γ I st a w o ub δ :=
  tok_ok' hR hd hf hrun hb hos hk hblk (Nat.le_of_eq hsz.symm) hc hm hold hlen hcells hδ
end
section
variable {γ : Nat → Option Place} {I : IMap} {x : Value}
theorem inv_bool {b : Bool} (h : Rep γ I x (.bool b)) : x = .bool b := by
  cases h with | pure x v h => cases h; rfl
theorem inv_int {k : IntKind} {n : Int} (h : Rep γ I x (.int k n)) : x = .int k n := by
  cases h with | pure x v h => cases h; rfl
theorem inv_str {l : List UInt8} (h : Rep γ I x (.str l)) : ∃ s : ByteArray, x = .string s ∧ s.data.toList = l := by
  cases h with | pure x v h => cases h; exact ⟨_, rfl, rfl⟩
theorem inv_nilptr (h : Rep γ I x .nilptr) : x = .pointer none := by
  cases h with | pure x v h => cases h; rfl
theorem inv_nilmap (h : Rep γ I x .nilmap) : x = .map none := by
  cases h with | pure x v h => cases h; rfl
theorem inv_nilfn (h : Rep γ I x .nilfn) : x = .nilFunc := by
  cases h with | pure x v h => cases h; rfl
theorem inv_nilif (h : Rep γ I x .nilif) : x = .nilIface := by
  cases h with | pure x v h => cases h; rfl
theorem inv_ptr {l u off : Nat} (h : Rep γ I x (.ptr l u off)) : ∃ b k, γ u = some (.obj b k) ∧ x = .pointer (some ⟨b, off, none⟩) := by
  cases h with
  | pure x v h => cases h
  | ptr _ _ _ b k hu => exact ⟨b, k, hu, rfl⟩
theorem inv_map {l u : Nat} (h : Rep γ I x (.map l u)) : ∃ b k, γ u = some (.obj b k) ∧ x = .map (some b) := by
  cases h with
  | pure x v h => cases h
  | map _ _ b k hu => exact ⟨b, k, hu, rfl⟩
theorem inv_iter {l u : Nat} (h : Rep γ I x (.iter l u)) : ∃ b k, γ u = some (.obj b k) ∧ x = .pointer (some ⟨b, 0, none⟩) := by
  cases h with
  | pure x v h => cases h
  | iter _ _ b k hu => exact ⟨b, k, hu, rfl⟩
theorem inv_yld {l u : Nat} (h : Rep γ I x (.yld l u)) : ∃ b k, γ u = some (.obj b k) ∧ x = .func (.yield b) #[] #[] := by
  cases h with
  | pure x v h => cases h
  | yld _ _ b k hu => exact ⟨b, k, hu, rfl⟩
theorem inv_osl {l u off n sz : Nat} (h : Rep γ I x (.osl l u off n sz)) : ∃ b k a cap, γ u = some (.obj b k) ∧ x = .slice (some a) n cap ∧ (0 < cap → a = ⟨b, off, none⟩ ∧ off + cap * sz ≤ k.size) ∧ n ≤ cap ∧ cap ≤ maxLen := by
  cases h with
  | pure x v h => cases h
  | osl _ _ _ _ _ cap b k a hu ha hc hm => exact ⟨b, k, a, cap, hu, rfl, ha, hc, hm⟩
theorem inv_eptr {cs : List V} {off : Nat} (h : Rep γ I x (.eptr cs off)) : ∃ b base, x = .pointer (some ⟨b, base + off, none⟩) ∧
    ∃ xs : Nat → Value, (∀ j, j < cs.length → I b (base + j) = some (xs j)) ∧ (∀ (j : Nat) (v : V), cs[j]? = some v → v.pureLeaf = true) ∧ ∀ (j : Nat) (v : V), cs[j]? = some v → RepP I (xs j) v := by
  cases h with
  | pure x v h => cases h with | eptr b base off cs xs hi hl hr => exact ⟨b, base, rfl, xs, hi, hl, hr⟩
theorem inv_tup {vs : List V} (h : Rep γ I x (.tup vs)) : ∃ xs : Array Value, x = .tuple xs ∧ xs.size = vs.length ∧ ∀ (j : Nat) (y : Value) (v : V), xs[j]? = some y → vs[j]? = some v → Rep γ I y v := by
  cases h with
  | pure x v h => cases h
  | tup xs vs hlen hr => exact ⟨xs, rfl, hlen, hr⟩
theorem inv_agg {cs : List V} (h : Rep γ I x (.agg cs)) : ∃ xs : Array Value, x = .agg xs ∧ xs.size = cs.length ∧ (∀ (j : Nat) (v : V), cs[j]? = some v → v.leaf = true) ∧
    ∀ (j : Nat) (y : Value) (v : V), xs[j]? = some y → cs[j]? = some v → Rep γ I y v := by
  cases h with
  | pure x v h => cases h with | agg xs cs hlen hl hr => exact ⟨xs, rfl, hlen, hl, fun j y v hy hv => .pure _ _ (hr j y v hy hv)⟩
  | agg xs cs hlen hl hr => exact ⟨xs, rfl, hlen, hl, hr⟩
theorem inv_fn {f : Fn} {as bs : List V} (h : Rep γ I x (.fn f as bs)) : ∃ xs ys : Array Value, x = .func f xs ys ∧ xs.size = as.length ∧ ys.size = bs.length ∧
    (∀ (j : Nat) (y : Value) (v : V), xs[j]? = some y → as[j]? = some v → Rep γ I y v) ∧ ∀ (j : Nat) (y : Value) (v : V), ys[j]? = some y → bs[j]? = some v → Rep γ I y v := by
  cases h with
  | pure x v h => cases h with | fn f xs ys as bs hx hy h1 h2 => exact ⟨xs, ys, rfl, hx, hy, fun j y v a b => .pure _ _ (h1 j y v a b), fun j y v a b => .pure _ _ (h2 j y v a b)⟩
  | fn f xs ys as bs hx hy h1 h2 => exact ⟨xs, ys, rfl, hx, hy, h1, h2⟩
theorem inv_iface {t : TypeId} {v : V} (h : Rep γ I x (.iface t v)) : ∃ y, x = .iface t y ∧ Rep γ I y v := by
  cases h with
  | pure x v h => cases h with | iface t x v hr => exact ⟨x, rfl, .pure _ _ hr⟩
  | iface t x v hr => exact ⟨x, rfl, hr⟩
/-- A slice: nil, or cells that nobody changes. -/
theorem inv_sl {t : Option (Nat × Nat)} {nl : Bool} {n : Nat} {cs : List V} (h : Rep γ I x (.sl t nl n cs)) :
    (x = .slice none 0 0 ∧ t = none ∧ nl = true ∧ n = 0 ∧ cs = []) ∨
    ∃ (a : Addr) (cap : Nat) (xs : Nat → Value), x = .slice (some a) n cap ∧ nl = false ∧ (cs ≠ [] → a.spot = none) ∧ n ≤ cap ∧ cap ≤ maxLen ∧
      (∀ j, j < cs.length → I a.block (a.off + j) = some (xs j)) ∧ (∀ (j : Nat) (v : V), cs[j]? = some v → v.pureLeaf = true) ∧ (∀ (j : Nat) (v : V), cs[j]? = some v → RepP I (xs j) v) ∧
      (∀ u sz, t = some (u, sz) → γ u = some (.tok a.block n cap sz) ∧ a = ⟨a.block, 0, none⟩ ∧ cs.length = n * sz) := by
  cases h with
  | pure x v h =>
    cases h with
    | slnil => exact .inl ⟨rfl, rfl, rfl, rfl, rfl⟩
    | sl a n cap cs xs hs hc hm hi hl hr => exact .inr ⟨a, cap, xs, rfl, rfl, hs, hc, hm, hi, hl, hr, fun u sz hu => by cases hu⟩
  | tsl u b n cap sz cs xs hu hlen hc hm hi hl hr =>
    exact .inr ⟨⟨b, 0, none⟩, cap, xs, rfl, rfl, fun _ => rfl, hc, hm, by simpa using hi, hl, hr, fun u' sz' hu' => by cases hu'; exact ⟨hu, rfl, hlen⟩⟩
theorem RepP.strip1 {v : V} (h : RepP I x v) : RepP I x v.strip1 := by
  cases h <;> first | exact .slnil | (rename_i a b c d e f g; exact .sl _ _ _ _ _ d e f g ‹_› ‹_›) | (constructor <;> assumption) | (constructor)
end
end Go.Pv
