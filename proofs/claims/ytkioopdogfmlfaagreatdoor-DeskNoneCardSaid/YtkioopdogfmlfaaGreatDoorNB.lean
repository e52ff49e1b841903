/- Part of the proof. -/
import Derived.Test.YtkioopdogfmlfaaGreatDoorNA
import Derived.Laws.StructEq
import Derived.ChangeKeysEq
import Derived.Laws.Slices
set_option maxRecDepth 100000
set_option maxHeartbeats 8000000
set_option linter.all false
namespace Go.Pv
open Go
section
variable {P : Program} {E : Env} {w0 w : World} {I0 : IMap} {nt : Nat} {γ : Nat → Option Place} {I : IMap} {st : St} {a : Act} {o : Oper} {ub : Nat} {δ : Delta}
theorem bind_some {α β : Type} {x : Option α} {f : α → Option β} {b : β} (h : x.bind f = some b) : ∃ y, x = some y ∧ f y = some b := Option.bind_eq_some_iff.1 h
theorem map_some {α β : Type} {x : Option α} {f : α → β} {b : β} (h : x.map f = some b) : ∃ y, x = some y ∧ f y = b := Option.map_eq_some_iff.1 h
theorem ok_move (hR : R E w0 I0 nt γ I st a w) (hd : ∀ d, o.dst = some d → d < nt) {x : Operand} {y : A} (ho : o.op = .move x ∨ o.op = .assign x) (hx : opd x = some y)
    (ha : one (eval E st.tm y) = some δ) : OpOk P E w0 I0 nt γ I st a w o ub δ :=
  val_ok hR hd (x := a.eval x) (by rcases ho with h | h <;> simp only [execOp, h] <;> rfl) (eval_rep hR hx) ha
theorem ok_pick (hR : R E w0 I0 nt γ I st a w) (hd : ∀ d, o.dst = some d → d < nt) {c x y : Operand} {c' x' y' : A} (ho : o.op = .pick c x y) (hc : opd c = some c') (hx : opd x = some x') (hy : opd y = some y')
    (ha : (match eval E st.tm c' with | .bool t => one (cond t (eval E st.tm x') (eval E st.tm y')) | _ => none) = some δ) : OpOk P E w0 I0 nt γ I st a w o ub δ := by
  have hcr := eval_rep hR hc
  split at ha
  · rename_i t ht
    rw [ht] at hcr
    have := inv_bool hcr
    refine val_ok hR hd (x := if t then a.eval x else a.eval y) ?_ ?_ ha
    · simp only [execOp, ho, this, asBool, Sem.run_bind, Sem.run_pure, Result.andThen_ok]
    · cases t
      · exact eval_rep hR hy
      · exact eval_rep hR hx
  · cases ha
theorem run_eqGuard_other (op : BinOp) (t : TypeId) (x y : Operand) (u v : Value) (h1 : ¬ (u = .nilIface ∧ v = .nilIface)) (h2 : ∀ p q, ¬ (u = .agg p ∧ v = .agg q)) : (eqGuard op t x y u v).run P w = .ok () w := by
  unfold eqGuard
  cases u <;> cases v <;> first
    | (exact absurd ⟨rfl, rfl⟩ h1)
    | (exact absurd ⟨rfl, rfl⟩ (h2 _ _))
    | (simp only [Sem.run_pure, ite_self])
theorem run_intBin (op : BinOp) (k : IntKind) (x y : Int) {v : V} (h : intBin op k x y = some v) (t : TypeId) (hs : op ≠ .shl ∧ op ≠ .shr) :
    ∃ z, (binOp op t (.int k x) (.int k y)).run P w = .ok z w ∧ ∀ γ I, Rep γ I z v := by
  cases op <;> simp only [intBin, Option.some.injEq, reduceCtorEq] at h <;>
    first
    | exact absurd rfl hs.1
    | exact absurd rfl hs.2
    | (subst h; exact ⟨_, by simp only [binOp, Op.intArith, Op.intBits, Op.intCmp, ne_eq, not_true_eq_false, if_false]; rfl, fun _ _ => .pure _ _ (by constructor)⟩)
    | (split at h <;> simp only [Option.some.injEq, reduceCtorEq] at h; subst h; rename_i hy
       exact ⟨_, by simp only [binOp, Op.intDiv, ne_eq, not_true_eq_false, if_false, hy]; rfl, fun _ _ => .pure _ _ (by constructor)⟩)
theorem run_shiftBin (op : BinOp) (k k' : IntKind) (x y : Int) {v : V} (h : shiftBin op k x y = some v) (t : TypeId) :
    ∃ z, (binOp op t (.int k x) (.int k' y)).run P w = .ok z w ∧ ∀ γ I, Rep γ I z v := by
  unfold shiftBin at h
  split at h
  · cases h
  · rename_i hy
    cases op <;> simp only [Option.some.injEq, reduceCtorEq] at h
    all_goals
      subst h
      exact ⟨_, by simp only [binOp, Op.shift, hy, if_false]; rfl, fun _ _ => .pure _ _ (.int _ _)⟩
theorem toList_data (s : ByteArray) : s.toList = s.data.toList := by
  have key : ∀ (n i : Nat) (r : List UInt8), s.size - i = n → ByteArray.toList.loop s i r = r.reverse ++ s.data.toList.drop i := by
    intro n
    induction n with
    | zero =>
      intro i r h
      unfold ByteArray.toList.loop
      have : ¬ i < s.size := by omega
      have h2 : s.data.toList.length ≤ i := by simp only [Array.length_toList]; exact Nat.le_of_not_lt this
      simp [this, List.drop_eq_nil_of_le h2]
    | succ n ih =>
      intro i r h
      unfold ByteArray.toList.loop
      have hi : i < s.size := by omega
      simp only [hi, if_true]
      rw [ih (i + 1) _ (by omega)]
      have h2 : i < s.data.toList.length := by simpa using hi
      rw [List.drop_eq_getElem_cons h2]
      have : s.get! i = s.data.toList[i] := by
        simp [ByteArray.get!, hi]
      simp [this]
  unfold ByteArray.toList
  rw [key s.size 0 [] (by omega)]
  simp
theorem run_strBin (op : BinOp) (x y : ByteArray) {v : V} (h : strBin op x.data.toList y.data.toList = some v) (t : TypeId) :
    ∃ z, (binOp op t (.string x) (.string y)).run P w = .ok z w ∧ ∀ γ I, Rep γ I z v := by
  cases op <;> simp only [strBin, Option.some.injEq, reduceCtorEq] at h
  case add =>
    split at h
    · rename_i hl
      simp only [Option.some.injEq] at h
      subst h
      have hm : ¬ (((x.size + y.size : Nat) : Int) > IntKind.i64.max) := by
        simp only [Array.length_toList] at hl
        have : x.size + y.size ≤ 9223372036854775807 := hl
        have h2 : IntKind.i64.max = 9223372036854775807 := by decide
        rw [h2]; omega
      refine ⟨.string (x ++ y), by simp only [binOp, Op.stringOp, hm, if_false]; rfl, fun _ _ => .pure _ _ ?_⟩
      have : x.data.toList ++ y.data.toList = (x ++ y).data.toList := by simp
      rw [this]
      exact .str _
    · cases h
  all_goals
    subst h
    exact ⟨_, by simp only [binOp, Op.stringOp, toList_data]; rfl, fun _ _ => .pure _ _ (.bool _)⟩
end
section
variable {P : Program} {E : Env} {w0 w : World} {I0 : IMap} {nt : Nat} {γ : Nat → Option Place} {I : IMap} {st : St} {a : Act} {o : Oper} {ub : Nat} {δ : Delta}
theorem run_binV {x y : Value} {vx vy v : V} (op : BinOp) (t : TypeId) (hx : Rep γ I x vx) (hy : Rep γ I y vy) (h : binV op vx vy = some v) :
    (∃ z, (binOp op t x y).run P w = .ok z w ∧ ∀ γ I, Rep γ I z v) ∧ ¬ (x = .nilIface ∧ y = .nilIface) ∧ (∀ p q, ¬ (x = .agg p ∧ y = .agg q)) := by
  unfold binV at h
  split at h
  · rename_i k a k' b
    have h1 := inv_int hx
    have h2 := inv_int hy
    subst h1; subst h2
    refine ⟨?_, by simp, by simp⟩
    split at h
    · exact run_shiftBin .shl k k' a b h t
    · exact run_shiftBin .shr k k' a b h t
    · rename_i h1 h2
      split at h
      · rename_i hk
        subst hk
        exact run_intBin op k a b h t ⟨h1, h2⟩
      · cases h
  · rename_i a b
    obtain ⟨s, rfl, rfl⟩ := inv_str hx
    obtain ⟨s', rfl, rfl⟩ := inv_str hy
    exact ⟨run_strBin op s s' h t, by simp, by simp⟩
  · cases h
theorem ok_bin (hR : R E w0 I0 nt γ I st a w) (hd : ∀ d, o.dst = some d → d < nt) {op : BinOp} {t t' : TypeId} {x y : Operand} {x' y' : A} (ho : o.op = .binOp op t x y t') (hx : opd x = some x') (hy : opd y = some y')
    (ha : (binV op (eval E st.tm x') (eval E st.tm y')).bind one = some δ) : OpOk P E w0 I0 nt γ I st a w o ub δ := by
  obtain ⟨v, hv, hδ⟩ := bind_some ha
  obtain ⟨⟨z, hz, hr⟩, h1, h2⟩ := run_binV (P := P) (w := w) op t (eval_rep hR hx) (eval_rep hR hy) hv
  exact val_ok hR hd (x := z) (by simp only [execOp, ho, Sem.run_bind, run_eqGuard_other op t x y _ _ h1 h2, Result.andThen_ok, hz, Sem.run_pure]) (hr γ I) hδ
def LKOk (P : Program) (t : TypeId) : LK → Prop
  | .bool => P.underlying t = some .bool
  | .int => ∃ q, P.underlying t = some (.int q)
  | .str => P.underlying t = some .string
/-- '==' of plain cells. -/
theorem run_eqLeaf {t : TypeId} {x y : Value} {vx vy : V} {b : Bool} {k : LK} (d : Nat)
    (ht : LKOk P t k)
    (hx : Rep γ I x vx) (hy : Rep γ I y vy) (h : eqLeaf k vx vy = some b) : (Op.equalIn (d + 1) t x y).run P w = .ok b w := by
  unfold eqLeaf at h
  split at h
  · have h1 := inv_bool hx
    have h2 := inv_bool hy
    subst h1; subst h2
    simp only [Option.some.injEq] at h
    rw [← h]
    exact run_equalIn_bool' w d t _ _ ht
  · rename_i k n k' n'
    have h1 := inv_int hx
    have h2 := inv_int hy
    subst h1; subst h2
    obtain ⟨q, ht⟩ := ht
    split at h
    · rename_i e
      subst e
      simp only [Option.some.injEq] at h
      rw [← h]
      exact run_equalIn_int w d t k q n n' ht
    · cases h
  · obtain ⟨s, rfl, rfl⟩ := inv_str hx
    obtain ⟨s', rfl, rfl⟩ := inv_str hy
    simp only [Option.some.injEq] at h
    rw [run_equalIn_string w d t s s' ht, toList_data, toList_data, h]
  · cases h
theorem eqCells_append : ∀ (l l' : List LK) (x y : List V) (b : Bool), eqCells (l ++ l') x y = some b →
    ∃ b1 b2, eqCells l (x.take l.length) (y.take l.length) = some b1 ∧ eqCells l' (x.drop l.length) (y.drop l.length) = some b2 ∧ b = (b1 && b2)
  | [], l', x, y, b, h => ⟨true, b, rfl, by simpa using h, by simp⟩
  | k :: l, l', x, y, b, h => by
    cases x with
    | nil => simp [eqCells] at h
    | cons a x =>
      cases y with
      | nil => simp [eqCells] at h
      | cons c y =>
        simp only [List.cons_append, eqCells] at h
        obtain ⟨r, hr, h2⟩ := bind_some h
        obtain ⟨q, hq, h3⟩ := map_some h2
        obtain ⟨b1, b2, h4, h5, h6⟩ := eqCells_append l l' x y q hq
        refine ⟨r && b1, b2, ?_, by simpa using h5, by rw [← h3, h6, Bool.and_assoc]⟩
        simp only [List.length_cons, List.take_succ_cons, eqCells, hr, Option.bind_some, h4, Option.map_some]
/-- How a struct's or a cell's value lies in cells. -/
def FlatRep (γ : Nat → Option Place) (I : IMap) (P : Program) (t : TypeId) (x : Value) (cs : List V) : Prop :=
  match P.underlying t with
  | some (.struct _) => ∃ xs : Array Value, x = .agg xs ∧ xs.size = cs.length ∧ ∀ (j : Nat) (y : Value) (v : V), xs[j]? = some y → cs[j]? = some v → Rep γ I y v
  | _ => ∃ v, cs = [v] ∧ Rep γ I x v
theorem run_isAgg {t : TypeId} {d : TypeDesc} (h : P.underlying t = some d) : (isAgg t).run P w = .ok (isAggD d) w := by
  unfold isAgg
  rw [Sem.run_bind, run_underlying h w]
  cases d <;> rfl
theorem run_sizeOf {t : TypeId} {n : Nat} (h : szOf P t = some n) : (sizeOf t).run P w = .ok n w := by
  unfold szOf at h
  obtain ⟨i, hi, rfl⟩ := map_some h
  simp [sizeOf, typeInfo, hi]
/-- A part of a struct's value. -/
theorem run_part_flat {t : TypeId} {n off : Nat} {xs : Array Value} {cs : List V} (d : Nat) {l : List LK} (hl : eqTs P d t = some l) (hn : szOf P t = some n) (hs : xs.size = cs.length)
    (hr : ∀ (j : Nat) (y : Value) (v : V), xs[j]? = some y → cs[j]? = some v → Rep γ I y v) (hoff : off + n ≤ cs.length) (h1 : n = l.length) :
    ∃ x, (part t xs off).run P w = .ok x w ∧ FlatRep γ I P t x ((cs.drop off).take n) := by
  cases d with
  | zero => simp [eqTs] at hl
  | succ d =>
    have one : ∀ (dd : TypeDesc), P.underlying t = some dd → isAggD dd = false → l.length = 1 → ∃ x, (part t xs off).run P w = .ok x w ∧ FlatRep γ I P t x ((cs.drop off).take n) := by
      intro dd hu ha hl1
      have hn1 : n = 1 := by omega
      subst hn1
      have hlt : off < xs.size := by omega
      have hv : cs[off]? = some cs[off] := List.getElem?_eq_getElem (by omega)
      refine ⟨xs[off], ?_, ?_⟩
      · unfold part
        simp only [Sem.run_bind, run_isAgg hu, ha, Result.andThen_ok, Bool.false_eq_true, if_false, Array.getElem?_eq_getElem hlt, Sem.run_pure]
      · have hd1 : (cs.drop off).take 1 = [cs[off]] := by
          rw [List.drop_eq_getElem_cons (by omega)]
          rfl
        rw [hd1]
        have := hr off _ _ (Array.getElem?_eq_getElem hlt) hv
        unfold FlatRep
        rw [hu]
        cases dd <;> first | exact ⟨_, rfl, this⟩ | (simp [isAggD] at ha)
    unfold eqTs at hl
    split at hl
    · rename_i hu; cases hl; exact one _ hu rfl rfl
    · rename_i q hu; cases hl; exact one _ hu rfl rfl
    · rename_i hu; cases hl; exact one _ hu rfl rfl
    · rename_i fs hu
      refine ⟨.agg (xs.extract off (off + n)), ?_, ?_⟩
      · unfold part
        simp only [Sem.run_bind, run_isAgg hu, isAggD, Result.andThen_ok, if_true, run_sizeOf hn, Sem.run_pure]
      · unfold FlatRep
        rw [hu]
        refine ⟨_, rfl, ?_, ?_⟩
        · simp only [Array.size_extract, List.length_take, List.length_drop]; omega
        · intro j y v hy hv
          have hj : j < n := by
            have := (List.getElem?_eq_some_iff.1 hv).1
            simp only [List.length_take] at this
            omega
          simp only [Array.getElem?_extract] at hy
          rw [List.getElem?_take_of_lt hj, List.getElem?_drop] at hv
          split at hy
          · exact hr _ _ _ hy hv
          · cases hy
    · cases hl
theorem run_eqFlat : ∀ (d : Nat) (t : TypeId) (l : List LK) (D : Nat) (x y : Value) (cx cy : List V) (b : Bool), eqTs P d t = some l → d ≤ D → FlatRep γ I P t x cx → FlatRep γ I P t y cy →
    eqCells l cx cy = some b → (Op.equalIn D t x y).run P w = .ok b w := by
  intro d
  induction d with
  | zero => intro t l D x y cx cy b h; simp [eqTs] at h
  | succ d ih =>
    intro t l D x y cx cy b hl hD hx hy h
    obtain ⟨D, rfl⟩ : ∃ D', D = D' + 1 := ⟨D - 1, by omega⟩
    unfold eqTs at hl
    have leaf : ∀ (k : LK) (dd : TypeDesc), P.underlying t = some dd → isAggD dd = false → l = [k] → LKOk P t k →
        (Op.equalIn (D + 1) t x y).run P w = .ok b w := by
      intro k dd hu ha hlk ht
      subst hlk
      have hx' : ∃ v, cx = [v] ∧ Rep γ I x v := by unfold FlatRep at hx; rw [hu] at hx; cases dd <;> first | exact hx | (simp [isAggD] at ha)
      have hy' : ∃ v, cy = [v] ∧ Rep γ I y v := by unfold FlatRep at hy; rw [hu] at hy; cases dd <;> first | exact hy | (simp [isAggD] at ha)
      obtain ⟨v, rfl, hx'⟩ := hx'
      obtain ⟨v', rfl, hy'⟩ := hy'
      simp only [eqCells] at h
      obtain ⟨r, hr, h2⟩ := bind_some h
      simp only [Option.map_some, Bool.and_true, Option.some.injEq] at h2
      subst h2
      exact run_eqLeaf D ht hx' hy' hr
    split at hl
    · rename_i hu; cases hl; exact leaf .bool _ hu rfl rfl hu
    · rename_i q hu; cases hl; exact leaf .int _ hu rfl rfl ⟨q, hu⟩
    · rename_i hu; cases hl; exact leaf .str _ hu rfl rfl hu
    · rename_i fs hu
      split at hl
      · cases hl
      · rename_i hst
        unfold FlatRep at hx hy
        rw [hu] at hx hy
        obtain ⟨xs, rfl, hxs, hxr⟩ := hx
        obtain ⟨ys, rfl, hys, hyr⟩ := hy
        have hf : P.fieldsOf t = fs := by unfold Program.fieldsOf; rw [hu]
        rw [run_equalIn_struct w D t xs ys (by rw [hf]; exact hu) (by simpa using hst), hf]
        -- field by field
        have key : ∀ (fl : List Field) (off : Nat) (lk : List LK) (b : Bool), eqFs (eqTs P d) P off fl = some lk → off + lk.length ≤ cx.length → off + lk.length ≤ cy.length → eqCells lk (cx.drop off) (cy.drop off) = some b →
            (Op.eqFields D xs ys fl).run P w = .ok b w := by
          intro fl
          induction fl with
          | nil =>
            intro off lk b h1 h2 h3 h4
            simp only [eqFs, Option.some.injEq] at h1
            subst h1
            cases hcx : cx.drop off <;> cases hcy : cy.drop off <;> simp [hcx, hcy, eqCells] at h4
            subst h4
            rfl
          | cons f fl ihf =>
            intro off lk b h1 h2 h3 h4
            simp only [eqFs] at h1
            split at h1
            · cases h1
            · rename_i hcond
              simp only [not_or, Decidable.not_not] at hcond
              obtain ⟨l1, hl1, h5⟩ := bind_some h1
              split at h5
              · rename_i hsz
                obtain ⟨l2, hl2, rfl⟩ := map_some h5
                simp only [List.length_append] at h2 h3
                obtain ⟨b1, b2, e1, e2, rfl⟩ := eqCells_append l1 l2 _ _ b h4
                obtain ⟨p, hp, hpf⟩ := run_part_flat (P := P) (w := w) (off := off) d hl1 hsz hxs hxr (by omega) rfl
                obtain ⟨q, hq, hqf⟩ := run_part_flat (P := P) (w := w) (off := off) d hl1 hsz hys hyr (by omega) rfl
                have hr := ih f.type l1 D p q _ _ b1 hl1 (by omega) hpf hqf e1
                simp only [Op.eqFields, hcond.1, ne_eq, not_false_eq_true, if_true, Sem.run_bind, hcond.2, hp, hq, hr, Result.andThen_ok, Sem.run_ite, Sem.run_pure]
                cases b1
                · simp
                · simp only [Bool.not_true, Bool.false_eq_true, if_false, Bool.true_and]
                  refine ihf (off + l1.length) l2 b2 hl2 (by omega) (by omega) ?_
                  simpa [List.drop_drop] using e2
              · cases h5
        have hlen : ∀ (lk : List LK) (u v : List V) (b : Bool), eqCells lk u v = some b → lk.length = u.length ∧ lk.length = v.length := by
          intro lk
          induction lk with
          | nil => intro u v b h; cases u <;> cases v <;> simp [eqCells] at h; exact ⟨rfl, rfl⟩
          | cons k lk ihk =>
            intro u v b h
            cases u with
            | nil => simp [eqCells] at h
            | cons c u =>
              cases v with
              | nil => simp [eqCells] at h
              | cons c' v =>
                simp only [eqCells] at h
                obtain ⟨r, _, h2⟩ := bind_some h
                obtain ⟨q, hq, _⟩ := map_some h2
                have := ihk u v q hq
                simp only [List.length_cons]
                omega
        obtain ⟨l1, l2⟩ := hlen l cx cy b h
        exact key fs.toList 0 l b hl (by omega) (by omega) (by simpa using h)
    · cases hl
theorem lkOf_ok {t : TypeId} {k : LK} (h : lkOf P t = some k) : LKOk P t k ∧ ∃ d, P.underlying t = some d ∧ isAggD d = false := by
  unfold lkOf at h
  split at h
  · rename_i hu; cases h; exact ⟨hu, _, hu, rfl⟩
  · rename_i q hu; cases h; exact ⟨⟨q, hu⟩, _, hu, rfl⟩
  · rename_i hu; cases h; exact ⟨hu, _, hu, rfl⟩
  · cases h
theorem run_eqArr {t e : TypeId} {n : Nat} {k : LK} (D : Nat) (hu : P.underlying t = some (.array n e)) (hk : lkOf P e = some k) (hs : szOf P e = some 1) {xs ys : Array Value} {cx cy : List V} {b : Bool} (hxs : xs.size = cx.length) (hys : ys.size = cy.length)
    (hx : ∀ (j : Nat) (y : Value) (v : V), xs[j]? = some y → cx[j]? = some v → Rep γ I y v) (hy : ∀ (j : Nat) (y : Value) (v : V), ys[j]? = some y → cy[j]? = some v → Rep γ I y v) (h : eqCells (List.replicate n k) cx cy = some b) :
    (Op.equalIn (D + 2) t (.agg xs) (.agg ys)).run P w = .ok b w := by
  obtain ⟨hl, d, hd, ha⟩ := lkOf_ok hk
  have hs' := hs
  unfold szOf at hs'
  obtain ⟨i, hi, hi1⟩ := map_some hs'
  have hc : P.cellsOf e = 1 := by simp [Program.cellsOf, hi, hi1]
  rw [run_equalIn_array w (D + 1) xs ys hu hi, hc, List.range_eq_range']
  have part1 : ∀ (zs : Array Value) (j : Nat) (z : Value), zs[j]? = some z → (part e zs (j * 1)).run P w = .ok z w := fun zs j z hz => by
    unfold part
    simp only [Sem.run_bind, run_isAgg hd, ha, Result.andThen_ok, Bool.false_eq_true, if_false, Nat.mul_one, hz, Sem.run_pure]
  have key : ∀ (m off : Nat) (b : Bool), eqCells (List.replicate m k) (cx.drop off) (cy.drop off) = some b → (Op.eqItems (D + 1) e 1 xs ys (List.range' off m)).run P w = .ok b w := by
    intro m
    induction m with
    | zero =>
      intro off b h
      rw [List.replicate_zero] at h
      cases hcx : cx.drop off <;> cases hcy : cy.drop off <;> simp [hcx, hcy, eqCells] at h
      subst h
      rfl
    | succ m ih =>
      intro off b h
      rw [List.replicate_succ] at h
      by_cases h1 : off < cx.length
      · by_cases h2 : off < cy.length
        · rw [List.drop_eq_getElem_cons h1, List.drop_eq_getElem_cons h2] at h
          simp only [eqCells] at h
          obtain ⟨r, hr, h3⟩ := bind_some h
          obtain ⟨q, hq, rfl⟩ := map_some h3
          have x1 : xs[off]? = some xs[off] := Array.getElem?_eq_getElem (by omega)
          have y1 : ys[off]? = some ys[off] := Array.getElem?_eq_getElem (by omega)
          have e1 := run_eqLeaf (P := P) (w := w) D hl (hx off _ _ x1 (List.getElem?_eq_getElem h1)) (hy off _ _ y1 (List.getElem?_eq_getElem h2)) hr
          rw [List.range'_succ]
          simp only [Op.eqItems, Sem.run_bind, part1 _ _ _ x1, part1 _ _ _ y1, e1, Result.andThen_ok]
          cases r
          · rfl
          · simpa using ih (off + 1) q hq
        · rw [List.drop_eq_getElem_cons h1, List.drop_of_length_le (by omega : cy.length ≤ off)] at h
          simp [eqCells] at h
      · rw [List.drop_of_length_le (by omega : cx.length ≤ off)] at h
        cases hcy : cy.drop off <;> simp [hcy, eqCells] at h
  exact key n 0 b (by simpa using h)
theorem ok_un (hR : R E w0 I0 nt γ I st a w) (hd : ∀ d, o.dst = some d → d < nt) {op : UnOp} {t : TypeId} {x : Operand} {x' : A} (ho : o.op = .unOp op t x) (hx : opd x = some x')
    (ha : (unV op (eval E st.tm x')).bind one = some δ) : OpOk P E w0 I0 nt γ I st a w o ub δ := by
  obtain ⟨v, hv, hδ⟩ := bind_some ha
  have hr := eval_rep hR hx
  unfold unV at hv
  split at hv
  · rename_i b hb
    rw [hb] at hr
    have := inv_bool hr
    simp only [Option.some.injEq] at hv
    subst hv
    exact val_ok hR hd (x := .bool (!b)) (by simp only [execOp, ho, this, Op.unary]; rfl) (.pure _ _ (.bool _)) hδ
  · rename_i k n hb
    rw [hb] at hr
    have := inv_int hr
    simp only [Option.some.injEq] at hv
    subst hv
    exact val_ok hR hd (x := .int k (k.wrap (0 - n))) (by simp only [execOp, ho, this, Op.unary, Op.intArith]; rfl) (.pure _ _ (.int _ _)) hδ
  · rename_i k n hb
    rw [hb] at hr
    have := inv_int hr
    simp only [intBin, Option.some.injEq] at hv
    subst hv
    exact val_ok hR hd (x := .int k _) (by simp only [execOp, ho, this, Op.unary, Op.intBits]; rfl) (.pure _ _ (.int _ _)) hδ
  · cases hv
end
section
variable {P : Program} {E : Env} {w0 w : World} {I0 : IMap} {nt : Nat} {γ : Nat → Option Place} {I : IMap} {st : St} {a : Act} {o : Oper} {ub : Nat} {δ : Delta}
theorem run_binOp_eq (t : TypeId) (x y : Value) (b : Bool) (h1 : ∀ k n, x ≠ .int k n) (h2 : ∀ s, x ≠ .string s) (h3 : ∀ k f, x ≠ .float k f) (h4 : ∀ k r i, x ≠ .complex k r i) (h : (Op.equal t x y).run P w = .ok b w) :
    (binOp .eql t x y).run P w = .ok (.bool b) w ∧ (binOp .neq t x y).run P w = .ok (.bool (!b)) w := by
  constructor
  · unfold binOp
    cases x <;> cases y <;> first | (exact absurd rfl (h1 _ _)) | (exact absurd rfl (h2 _)) | (exact absurd rfl (h3 _ _)) | (exact absurd rfl (h4 _ _ _)) | (simp only [Sem.run_bind, h, Result.andThen_ok, Sem.run_pure])
  · unfold binOp
    cases x <;> cases y <;> first | (exact absurd rfl (h1 _ _)) | (exact absurd rfl (h2 _)) | (exact absurd rfl (h3 _ _)) | (exact absurd rfl (h4 _ _ _)) | (simp only [Sem.run_bind, h, Result.andThen_ok, Sem.run_pure])
theorem ptr_val {x : Value} {v : V} (h : Rep γ I x v) (hv : (∃ l u o, v = .ptr l u o) ∨ ∃ cs o, v = .eptr cs o) : ∃ a, x = .pointer (some a) := by
  rcases hv with ⟨l, u, o, rfl⟩ | ⟨cs, o, rfl⟩
  · obtain ⟨b, _, _, rfl⟩ := inv_ptr h; exact ⟨_, rfl⟩
  · obtain ⟨b, base, rfl, _⟩ := inv_eptr h; exact ⟨_, rfl⟩
def EqKOk (P : Program) (t : TypeId) (x y : Operand) : EqK → Prop
  | .bool => P.underlying t = some .bool
  | .ptr => ∃ e, P.underlying t = some (.pointer e) ∧ ∃ n, szOf P e = some n ∧ n ≠ 0
  | .sl => ∃ e, P.underlying t = some (.slice e)
  | .map => ∃ k e, P.underlying t = some (.map k e)
  | .fn => ∃ p r v, P.underlying t = some (.func p r v)
  | .iface => (∃ ms, P.underlying t = some (.interface ms)) ∧ ((∃ v, x = .const v) ∨ ∃ v, y = .const v)
  | .struct l => P.eqGuardType P.depth t = false ∧ ((∃ fs, P.underlying t = some (.struct fs)) ∧ eqTs P 8 t = some l ∨ ∃ n e k, P.underlying t = some (.array n e) ∧ lkOf P e = some k ∧ szOf P e = some 1 ∧ l = List.replicate n k)
theorem eqK_inv {t : TypeId} {x y : Operand} {k : EqK} (h : eqK P t x y = some k) : EqKOk P t x y k := by
  unfold eqK at h
  split at h
  · cases h; assumption
  · split at h
    · rename_i hn
      cases h
      exact ⟨_, by assumption, _, hn, Nat.succ_ne_zero _⟩
    · cases h
  · cases h; exact ⟨_, by assumption⟩
  · cases h; exact ⟨_, _, by assumption⟩
  · cases h; exact ⟨_, _, _, by assumption⟩
  · split at h
    · cases h; exact ⟨⟨_, by assumption⟩, .inl ⟨_, rfl⟩⟩
    · cases h; exact ⟨⟨_, by assumption⟩, .inr ⟨_, rfl⟩⟩
    · cases h
  · split at h
    · cases h
    · rename_i hg
      obtain ⟨l, hl, rfl⟩ := map_some h
      exact ⟨by simpa using hg, .inl ⟨⟨_, by assumption⟩, hl⟩⟩
  · split at h
    · cases h
    · rename_i hg
      simp only [not_or, Decidable.not_not] at hg
      obtain ⟨k, hk, rfl⟩ := map_some h
      exact ⟨by simpa using hg.1, .inr ⟨_, _, k, by assumption, hk, hg.2, rfl⟩⟩
  · cases h
theorem run_equal_of {t : TypeId} {d : TypeDesc} {X Y : Value} {b : Bool} {r : Result Bool} (hu : P.underlying t = some d)
    (h : (match d, X, Y with
      | .bool, .bool a, .bool b => some (a == b)
      | .pointer _, .pointer none, .pointer b => some b.isNone
      | .pointer _, .pointer (some _), .pointer none => some false
      | .slice _, .slice none _ _, .slice b _ _ => some b.isNone
      | .slice _, .slice (some _) _ _, .slice none _ _ => some false
      | .map _ _, .map none, .map b => some b.isNone
      | .map _ _, .map (some _), .map none => some false
      | .func _ _ _, .nilFunc, .nilFunc => some true
      | .func _ _ _, .nilFunc, .func _ _ _ | .func _ _ _, .func _ _ _, .nilFunc => some false
      | .interface _, .nilIface, .nilIface => some true
      | .interface _, .nilIface, .iface _ _ | .interface _, .iface _ _, .nilIface => some false
      | _, _, _ => none) = some b) (hr : r = .ok b w) : (Op.equal t X Y).run P w = r := by
  subst hr
  unfold Op.equal
  show (Op.equalIn (9999 + 1) t X Y).run P w = _
  unfold Op.equalIn
  simp only [Sem.run_bind, run_underlying hu, Result.andThen_ok]
  split at h <;> first | (cases h; rfl) | (simp only [Option.some.injEq] at h; subst h; rfl) | (cases h)
theorem ok_eq (hR : R E w0 I0 nt γ I st a w) (hd : ∀ d, o.dst = some d → d < nt) {neg : Bool} {t t' : TypeId} {x y : Operand} {x' y' : A} {k : EqK} (ho : o.op = .binOp (if neg then .neq else .eql) t x y t') (hx : opd x = some x') (hy : opd y = some y')
    (hk : eqK P t x y = some k) (ha : ((eqV k (eval E st.tm x') (eval E st.tm y')).bind fun b => one (.bool (xor neg b))) = some δ) : OpOk P E w0 I0 nt γ I st a w o ub δ := by
  obtain ⟨b, hv, hδ⟩ := bind_some ha
  have hrx := eval_rep hR hx
  have hry := eval_rep hR hy
  generalize eval E st.tm x' = vx at hrx hv
  generalize eval E st.tm y' = vy at hry hv
  generalize hX : a.eval x = X at hrx
  generalize hY : a.eval y = Y at hry
  have fin : (eqGuard (if neg then .neq else .eql) t x y X Y).run P w = .ok () w → (∀ k n, X ≠ .int k n) → (∀ s, X ≠ .string s) → (∀ k f, X ≠ .float k f) → (∀ k r i, X ≠ .complex k r i) → (Op.equal t X Y).run P w = .ok b w →
      OpOk P E w0 I0 nt γ I st a w o ub δ := by
    intro h0 h1 h2 h3 h4 h5
    obtain ⟨e1, e2⟩ := run_binOp_eq t X Y b h1 h2 h3 h4 h5
    refine val_ok hR hd (x := .bool (xor neg b)) ?_ (.pure _ _ (.bool _)) hδ
    simp only [execOp, ho, Sem.run_bind, hX, hY, h0, Result.andThen_ok]
    cases neg
    · simp only [Bool.false_eq_true, if_false, e1, Result.andThen_ok, Sem.run_pure, Bool.false_xor]
    · simp only [if_true, e2, Result.andThen_ok, Sem.run_pure, Bool.true_xor]
  have hko := eqK_inv hk
  unfold eqV at hv
  split at hv <;> first | (cases hv; done) | skip
  · have := inv_bool hrx; subst this
    have := inv_bool hry; subst this
    cases hv
    exact fin (run_eqGuard_other _ _ _ _ _ _ (by simp) (by simp)) (by simp) (by simp) (by simp) (by simp) (run_equal_of hko rfl rfl)
  · have := inv_nilptr hrx; subst this
    have := inv_nilptr hry; subst this
    cases hv
    obtain ⟨e, hu, _⟩ := hko
    exact fin (run_eqGuard_other _ _ _ _ _ _ (by simp) (by simp)) (by simp) (by simp) (by simp) (by simp) (run_equal_of hu rfl rfl)
  · obtain ⟨_, _, _, rfl⟩ := inv_ptr hrx
    have := inv_nilptr hry; subst this
    cases hv
    obtain ⟨e, hu, _⟩ := hko
    exact fin (run_eqGuard_other _ _ _ _ _ _ (by simp) (by simp)) (by simp) (by simp) (by simp) (by simp) (run_equal_of hu rfl rfl)
  · have := inv_nilptr hrx; subst this
    obtain ⟨_, _, _, rfl⟩ := inv_ptr hry
    cases hv
    obtain ⟨e, hu, _⟩ := hko
    exact fin (run_eqGuard_other _ _ _ _ _ _ (by simp) (by simp)) (by simp) (by simp) (by simp) (by simp) (run_equal_of hu rfl rfl)
  · obtain ⟨_, _, rfl, _⟩ := inv_eptr hrx
    have := inv_nilptr hry; subst this
    cases hv
    obtain ⟨e, hu, _⟩ := hko
    exact fin (run_eqGuard_other _ _ _ _ _ _ (by simp) (by simp)) (by simp) (by simp) (by simp) (by simp) (run_equal_of hu rfl rfl)
  · have := inv_nilptr hrx; subst this
    obtain ⟨_, _, rfl, _⟩ := inv_eptr hry
    cases hv
    obtain ⟨e, hu, _⟩ := hko
    exact fin (run_eqGuard_other _ _ _ _ _ _ (by simp) (by simp)) (by simp) (by simp) (by simp) (by simp) (run_equal_of hu rfl rfl)
  · obtain ⟨e, hu⟩ := hko
    rcases inv_sl hry with ⟨rfl, _⟩ | ⟨_, _, _, _, h, _⟩
    · rcases inv_sl hrx with ⟨rfl, _, rfl, _⟩ | ⟨_, _, _, rfl, rfl, _⟩
      · cases hv
        exact fin (run_eqGuard_other _ _ _ _ _ _ (by simp) (by simp)) (by simp) (by simp) (by simp) (by simp) (run_equal_of hu rfl rfl)
      · cases hv
        exact fin (run_eqGuard_other _ _ _ _ _ _ (by simp) (by simp)) (by simp) (by simp) (by simp) (by simp) (run_equal_of hu rfl rfl)
    · cases h
  · obtain ⟨e, hu⟩ := hko
    obtain ⟨_, _, _, _, _, rfl, _⟩ := inv_osl hrx
    rcases inv_sl hry with ⟨rfl, _⟩ | ⟨_, _, _, _, h, _⟩
    · cases hv
      exact fin (run_eqGuard_other _ _ _ _ _ _ (by simp) (by simp)) (by simp) (by simp) (by simp) (by simp) (run_equal_of hu rfl rfl)
    · cases h
  · have := inv_nilmap hrx; subst this
    have := inv_nilmap hry; subst this
    cases hv
    obtain ⟨_, _, hu⟩ := hko
    exact fin (run_eqGuard_other _ _ _ _ _ _ (by simp) (by simp)) (by simp) (by simp) (by simp) (by simp) (run_equal_of hu rfl rfl)
  · obtain ⟨_, _, _, rfl⟩ := inv_map hrx
    have := inv_nilmap hry; subst this
    cases hv
    obtain ⟨_, _, hu⟩ := hko
    exact fin (run_eqGuard_other _ _ _ _ _ _ (by simp) (by simp)) (by simp) (by simp) (by simp) (by simp) (run_equal_of hu rfl rfl)
  · have := inv_nilfn hrx; subst this
    have := inv_nilfn hry; subst this
    cases hv
    obtain ⟨_, _, _, hu⟩ := hko
    exact fin (run_eqGuard_other _ _ _ _ _ _ (by simp) (by simp)) (by simp) (by simp) (by simp) (by simp) (run_equal_of hu rfl rfl)
  · obtain ⟨_, _, rfl, _⟩ := inv_fn hrx
    have := inv_nilfn hry; subst this
    cases hv
    obtain ⟨_, _, _, hu⟩ := hko
    exact fin (run_eqGuard_other _ _ _ _ _ _ (by simp) (by simp)) (by simp) (by simp) (by simp) (by simp) (run_equal_of hu rfl rfl)
  · have := inv_nilif hrx; subst this
    have := inv_nilif hry; subst this
    cases hv
    obtain ⟨⟨ms, hu⟩, hcon⟩ := hko
    refine fin ?_ (by simp) (by simp) (by simp) (by simp) (run_equal_of hu rfl rfl)
    unfold eqGuard
    rcases hcon with ⟨v, rfl⟩ | ⟨v, rfl⟩ <;> cases neg <;> simp
  · obtain ⟨_, rfl, _⟩ := inv_iface hrx
    have := inv_nilif hry; subst this
    cases hv
    obtain ⟨⟨_, hu⟩, _⟩ := hko
    exact fin (run_eqGuard_other _ _ _ _ _ _ (by simp) (by simp)) (by simp) (by simp) (by simp) (by simp) (run_equal_of hu rfl rfl)
  · have := inv_nilif hrx; subst this
    obtain ⟨_, rfl, _⟩ := inv_iface hry
    cases hv
    obtain ⟨⟨_, hu⟩, _⟩ := hko
    exact fin (run_eqGuard_other _ _ _ _ _ _ (by simp) (by simp)) (by simp) (by simp) (by simp) (by simp) (run_equal_of hu rfl rfl)
  · obtain ⟨hg, hko⟩ := hko
    obtain ⟨xs, rfl, h1, _, h2⟩ := inv_agg hrx
    obtain ⟨ys, rfl, h3, _, h4⟩ := inv_agg hry
    refine fin (run_eqGuard_agg (P := P) w _ t x y xs ys hg) (by simp) (by simp) (by simp) (by simp) ?_
    rcases hko with ⟨⟨fs, hu⟩, hl⟩ | ⟨n, e, k, hu, hlk, hs, rfl⟩
    rotate_left
    · exact run_eqArr (γ := γ) (I := I) 9998 hu hlk hs h1 h3 h2 h4 hv
    refine run_eqFlat (γ := γ) (I := I) 8 t _ 10000 _ _ _ _ b hl (by omega) ?_ ?_ hv
    · unfold FlatRep; rw [hu]; exact ⟨xs, rfl, h1, h2⟩
    · unfold FlatRep; rw [hu]; exact ⟨ys, rfl, h3, h4⟩
end
section
variable {P : Program} {E : Env} {w0 w : World} {I0 : IMap} {nt : Nat} {γ : Nat → Option Place} {I : IMap} {st : St} {a : Act} {o : Oper} {ub : Nat} {δ : Delta}
theorem run_zeroValue {t : TypeId} {i : TypeInfo} {z : Value} (hi : P.info? t = some i) (hz : i.zero = some z) : (zeroValue t).run P w = .ok z w := by
  simp [zeroValue, typeInfo, hi, hz]
theorem leafOk {v : Value} {z : V} (hz : ofLeaf v = some z) : RepP I v z ∧ z.leaf = true := by
  unfold ofLeaf at hz
  split at hz <;> simp only [Option.some.injEq, reduceCtorEq] at hz <;> subst hz
  · exact ⟨.bool _, rfl⟩
  · exact ⟨.int _ _, rfl⟩
  · exact ⟨.str _, rfl⟩
  · exact ⟨.nilptr, rfl⟩
  · exact ⟨.slnil, rfl⟩
  · exact ⟨.nilmap, rfl⟩
  · exact ⟨.nilfn, rfl⟩
  · exact ⟨.nilif, rfl⟩
theorem leafs_ok {cs : List Value} {l : List V} (h : cs.mapM ofLeaf = some l) : l.length = cs.length ∧ ∀ (j : Nat) (x : Value) (v : V), cs[j]? = some x → l[j]? = some v → v.leaf = true ∧ RepP I x v := by
  obtain ⟨h1, h2⟩ := mapM_some h
  exact ⟨h1, fun j x v hx hv => let ⟨a, b⟩ := leafOk (I := I) (h2 j x v hx hv); ⟨b, a⟩⟩
theorem zeroOf_inv {t : TypeId} {zs : List V} (h : zeroOf P t = some zs) : ∃ i z, P.info? t = some i ∧ i.zero = some z ∧ zs.length = z.cells.size ∧ ∀ (j : Nat) (x : Value) (v : V), z.cells[j]? = some x → zs[j]? = some v → v.leaf = true ∧ RepP I x v := by
  unfold zeroOf at h
  obtain ⟨i, hi, h2⟩ := bind_some h
  obtain ⟨z, hz, h3⟩ := bind_some h2
  obtain ⟨h4, h5⟩ := leafs_ok (I := I) h3
  exact ⟨i, z, hi, hz, by simpa using h4, fun j x v hx hv => h5 j x v (by simpa using hx) hv⟩
/-- The cells of a value, both ways. -/
theorem cells_rep {x : Value} {v : V} (h : Rep γ I x v) (hl : v.cells.all V.leaf = true) : x.cells.size = v.cells.length ∧ ∀ (j : Nat) (y : Value) (u : V), x.cells[j]? = some y → v.cells[j]? = some u → u.leaf = true ∧ Rep γ I y u := by
  have one : ∀ {x : Value} {v : V}, v.cells = [v] → x.cells = #[x] → v.leaf = true → Rep γ I x v → x.cells.size = v.cells.length ∧ ∀ (j : Nat) (y : Value) (u : V), x.cells[j]? = some y → v.cells[j]? = some u → u.leaf = true ∧ Rep γ I y u := by
    intro x v hv hx hl h
    rw [hv, hx]
    refine ⟨rfl, fun j y u hy hu => ?_⟩
    cases j with
    | zero => simp at hy hu; subst hy; subst hu; exact ⟨hl, h⟩
    | succ j => simp at hu
  cases v with
  | agg cs =>
    obtain ⟨xs, rfl, h1, h2, h3⟩ := inv_agg h
    exact ⟨h1, fun j y u hy hu => ⟨h2 j u hu, h3 j y u hy hu⟩⟩
  | undef => simp [V.cells, V.leaf] at hl
  | tup vs => simp [V.cells, V.leaf] at hl
  | bool b => have := inv_bool h; subst this; exact one rfl rfl rfl h
  | int k n => have := inv_int h; subst this; exact one rfl rfl rfl h
  | str s => obtain ⟨s', rfl, _⟩ := inv_str h; exact one rfl rfl rfl h
  | nilptr => have := inv_nilptr h; subst this; exact one rfl rfl rfl h
  | nilmap => have := inv_nilmap h; subst this; exact one rfl rfl rfl h
  | nilfn => have := inv_nilfn h; subst this; exact one rfl rfl rfl h
  | nilif => have := inv_nilif h; subst this; exact one rfl rfl rfl h
  | sl t nl n cs => rcases inv_sl h with ⟨rfl, _⟩ | ⟨_, _, _, rfl, _⟩ <;> exact one rfl rfl rfl h
  | eptr cs off => obtain ⟨_, _, rfl, _⟩ := inv_eptr h; exact one rfl rfl rfl h
  | ptr l u off => obtain ⟨_, _, _, rfl⟩ := inv_ptr h; exact one rfl rfl rfl h
  | osl l u off n sz => obtain ⟨_, _, _, _, _, rfl, _⟩ := inv_osl h; exact one rfl rfl rfl h
  | map l u => obtain ⟨_, _, _, rfl⟩ := inv_map h; exact one rfl rfl rfl h
  | iter l u => obtain ⟨_, _, _, rfl⟩ := inv_iter h; exact one rfl rfl rfl h
  | yld l u => obtain ⟨_, _, _, rfl⟩ := inv_yld h; exact one rfl rfl rfl h
  | fn f as bs => obtain ⟨_, _, rfl, _⟩ := inv_fn h; exact one rfl rfl rfl h
  | iface t v => obtain ⟨_, rfl, _⟩ := inv_iface h; exact one rfl rfl rfl h
theorem ok_alloc (hR : R E w0 I0 nt γ I st a w) (hd : ∀ d, o.dst = some d → d < nt) (hf : γ ub = none) {e : TypeId} {zs : List V} {d : Nat} (ho : o.op = .alloc e) (hz : zeroOf P e = some zs)
    (ha : mkObj d ub (.cells zs) (.ptr d ub 0) = some δ) : OpOk P E w0 I0 nt γ I st a w o ub δ := by
  obtain ⟨i, z, hi, hz1, hlen, hcells⟩ := zeroOf_inv (I := I) hz
  refine alloc_ok hR hd hf (x := .pointer (some ⟨w.heap.size, 0, none⟩)) (obj := .cells z.cells e) (k := .n z.cells.size) ?_ rfl (fun γ' h => .ptr _ _ _ _ _ h) ?_ ha
  · simp only [execOp, ho, Instr.alloc, Sem.run_bind, run_zeroValue hi hz1, Result.andThen_ok]
    simp [newVar, newRow]
  · exact ⟨z.cells, e, rfl, rfl, Nat.le_of_eq hlen, fun j x v hx hv => ⟨(hcells j x v hx hv).1, .pure _ _ (hcells j x v hx hv).2⟩⟩
theorem ok_box (hR : R E w0 I0 nt γ I st a w) (hd : ∀ d, o.dst = some d → d < nt) (hf : γ ub = none) {e : TypeId} {x : Operand} {x' : A} {n d : Nat} (ho : o.op = .box e x) (hx : opd x = some x')
    (ha : (if (eval E st.tm x').cells.length = n ∧ (eval E st.tm x').cells.all V.leaf = true then mkObj d ub (.cells (eval E st.tm x').cells) (.ptr d ub 0) else none) = some δ) : OpOk P E w0 I0 nt γ I st a w o ub δ := by
  split at ha
  · rename_i h
    have hr := eval_rep hR hx
    obtain ⟨h1, h2⟩ := cells_rep hr h.2
    refine alloc_ok hR hd hf (x := .pointer (some ⟨w.heap.size, 0, none⟩)) (obj := .cells (a.eval x).cells e) (k := .n (a.eval x).cells.size) ?_ rfl (fun γ' h => .ptr _ _ _ _ _ h) ?_ ha
    · simp [execOp, ho, Instr.box, newVar, newRow]
    · exact ⟨_, e, rfl, rfl, Nat.le_of_eq h1.symm, h2⟩
  · cases ha
theorem add_none (b off n : Nat) : (⟨b, off, none⟩ : Addr).add n = ⟨b, off + n, none⟩ := by
  unfold Addr.add
  split
  · rename_i h; subst h; rfl
  · rfl
/-- A body that is cells. -/
def OBody.Row (B : OBody) (cs : List V) : Prop := B = .cells cs ∨ ∃ t, B = .tcells t cs
theorem objCells_inv {ob : Nat → Option Obj'} {l u : Nat} {cs : List V} (h : objCells ob l u = some cs) : ∃ B, ob l = some ⟨u, B⟩ ∧ B.Row cs := by
  unfold objCells at h
  split at h
  · rename_i u' cs' hob
    split at h
    · rename_i hu; cases h; subst hu; exact ⟨_, hob, .inl rfl⟩
    · cases h
  · rename_i u' t cs' hob
    split at h
    · rename_i hu; cases h; subst hu; exact ⟨_, hob, .inr ⟨t, rfl⟩⟩
    · cases h
  · cases h
theorem OBody.Row.inj {B : OBody} {cs ds : List V} (h : B.Row cs) (k : B.Row ds) : cs = ds := by
  rcases h with rfl | ⟨t, rfl⟩ <;> rcases k with e | ⟨t', e⟩ <;> cases e <;> rfl
/-- An object's cells. -/
def ObRow (ob : Nat → Option Obj') (l u : Nat) (cs : List V) : Prop := ∃ B, ob l = some ⟨u, B⟩ ∧ OBody.Row B cs
theorem row_ok {γ : Nat → Option Place} {I : IMap} {ob : Nat → Option Obj'} {h : Array Obj} {k : Kd} {o : Option Obj} {B : OBody} {cs : List V} (hO : ObjOk γ I ob h k o B) (hB : B.Row cs) :
    ∃ arr e, o = some (.cells arr e (0, 0)) ∧ arr.size = k.size ∧ cs.length ≤ k.size ∧ ∀ (j : Nat) (x : Value) (v : V), arr[j]? = some x → cs[j]? = some v → v.leaf = true ∧ Rep γ I x v := by
  rcases hB with rfl | ⟨t, rfl⟩
  · exact hO
  · obtain ⟨arr, h1, h2⟩ := hO
    exact ⟨arr, t, h1, h2⟩
theorem objT_inv {ob : Nat → Option Obj'} {l u : Nat} {r : TypeId × List V} (h : objT ob l u = some r) : ob l = some ⟨u, .tcells r.1 r.2⟩ := by
  unfold objT at h
  split at h
  · rename_i u' t cs' hob
    split at h
    · rename_i hu; cases h; subst hu; exact hob
    · cases h
  · cases h
def rowVal (g : Option Nat) (f : Nat → Value) : Value :=
  match g with
  | some n => .agg ((List.range n).map f).toArray
  | none => f 0
/-- A row of cells, read as a variable of the type. -/
theorem run_loadRow {t : TypeId} {g : Option Nat} (hg : rowOf P t = some g) {b off : Nat} (f : Nat → Value) (n : Nat) (hn : n = g.getD 1) (hc : ∀ j, j < n → w.cell? ⟨b, off + j, none⟩ = some (f j)) :
    (loadVar t ⟨b, off, none⟩).run P w = .ok (rowVal g f) w := by
  unfold rowOf at hg
  obtain ⟨d, hu, h2⟩ := bind_some hg
  unfold loadVar
  split at h2
  · rename_i hagg
    obtain ⟨m, hm, rfl⟩ := map_some h2
    simp only [Option.getD_some] at hn
    subst hn
    simp only [Sem.run_bind, run_isAgg hu, hagg, Result.andThen_ok, if_true, run_sizeOf hm]
    rw [run_loadCells w ⟨b, off, none⟩ n f (fun j hj => by rw [add_none]; exact hc j hj)]
    rfl
  · rename_i hagg
    cases h2
    simp only [Option.getD_none] at hn
    subst hn
    have := hc 0 (by omega)
    simp only [Nat.add_zero] at this
    simp only [Sem.run_bind, run_isAgg hu, hagg, Result.andThen_ok, Bool.false_eq_true, if_false, run_load, this, rowVal]
theorem load_rep {I : IMap} {g : Option Nat} {cs : List V} {off : Nat} {v : V} (hp : pick1 g cs off = some v) (f : Nat → Value)
    (hr : ∀ (j : Nat) (u : V), j < g.getD 1 → cs[off + j]? = some u → u.leaf = true ∧ Rep γ I (f j) u) :
    (∀ j, j < g.getD 1 → off + j < cs.length) ∧ Rep γ I (rowVal g f) v := by
  unfold pick1 at hp
  cases g with
  | none =>
    simp only at hp
    have hlt := (List.getElem?_eq_some_iff.1 hp).1
    refine ⟨fun j hj => ?_, (hr 0 v (by simp) (by simpa using hp)).2⟩
    simp only [Option.getD_none] at hj
    omega
  | some n =>
    simp only at hp
    split at hp
    · rename_i hle
      simp only [Option.some.injEq] at hp
      subst hp
      refine ⟨fun j hj => by simp only [Option.getD_some] at hj; omega, ?_⟩
      refine .agg _ _ (by simp; omega) (fun j u hu => ?_) (fun j x u hx hu => ?_)
      · have hj : j < n := by
          have := (List.getElem?_eq_some_iff.1 hu).1
          simp only [List.length_take] at this
          omega
        rw [List.getElem?_take_of_lt hj, List.getElem?_drop] at hu
        exact (hr j u hj hu).1
      · have hj : j < n := by
          have := (List.getElem?_eq_some_iff.1 hu).1
          simp only [List.length_take] at this
          omega
        rw [List.getElem?_take_of_lt hj, List.getElem?_drop] at hu
        simp [hj] at hx
        subst hx
        exact (hr j u hj hu).2
    · cases hp
theorem ok_load (hR : R E w0 I0 nt γ I st a w) (hd : ∀ d, o.dst = some d → d < nt) {t : TypeId} {x : Operand} {x' : A} {g : Option Nat} (ho : o.op = .load t x) (hx : opd x = some x') (hg : rowOf P t = some g)
    (ha : (match eval E st.tm x' with
      | .eptr cs off => (pick1 g cs off).bind one
      | .ptr l u off => (objCells st.ob l u).bind fun cs => (pick1 g cs off).bind one
      | _ => none) = some δ) : OpOk P E w0 I0 nt γ I st a w o ub δ := by
  have hr := eval_rep hR hx
  split at ha
  · rename_i cs off he
    rw [he] at hr
    obtain ⟨b, base, hx', xs, h1, h2, h3⟩ := inv_eptr hr
    obtain ⟨v, hv, hδ⟩ := bind_some ha
    obtain ⟨h4, h5⟩ := load_rep (γ := γ) (I := I) hv (fun j => xs (off + j)) (fun j u hj hu => by
      have := h2 _ _ hu
      refine ⟨?_, .pure _ _ (h3 _ _ hu)⟩
      cases u <;> first | rfl | (simp [V.pureLeaf] at this))
    refine val_ok hR hd ?_ h5 hδ
    simp only [execOp, ho, hx', Instr.loadAt, Instr.sureAddr, Sem.run_bind, Sem.run_pure, Result.andThen_ok]
    rw [run_loadRow hg (fun j => xs (off + j)) _ rfl (fun j hj => by
      rw [Nat.add_assoc]; exact hR.imm _ _ _ (h1 _ (h4 j hj)))]
    rfl
  · rename_i l u off he
    rw [he] at hr
    obtain ⟨b, kb, hu, hx'⟩ := inv_ptr hr
    obtain ⟨cs, hcs, ha⟩ := bind_some ha
    obtain ⟨v, hv, hδ⟩ := bind_some ha
    obtain ⟨B, hob, hB⟩ := objCells_inv hcs
    obtain ⟨Ω, hown⟩ := hR.own
    obtain ⟨b', kb', k1, k2, k3, k4, k5⟩ := hown.ob l _ hob
    rw [hu] at k1
    cases k1
    obtain ⟨arr, e, m1, m2, m4, m3⟩ := row_ok k4 hB
    have hget : ∀ j, off + j < cs.length → arr[off + j]? = some (arr.getD (off + j) undef) := by
      intro j hj
      have : off + j < arr.size := by omega
      simp [this]
    obtain ⟨h4, h5⟩ := load_rep (γ := γ) (I := I) hv (fun j => arr.getD (off + j) undef) (fun j u hj hu => m3 _ _ _ (hget j (List.getElem?_eq_some_iff.1 hu).1) hu)
    refine val_ok hR hd ?_ h5 hδ
    simp only [execOp, ho, hx', Instr.loadAt, Instr.sureAddr, Sem.run_bind, Sem.run_pure, Result.andThen_ok]
    rw [run_loadRow hg (fun j => arr.getD (off + j) undef) _ rfl (fun j hj => by
      simp only [World.cell?, m1, Option.isSome_none, Bool.false_eq_true, if_false]
      exact hget j (h4 j hj))]
    rfl
  · cases ha
end
section
variable {P : Program} {E : Env} {w0 w : World} {I0 : IMap} {nt : Nat} {γ : Nat → Option Place} {I : IMap} {st : St} {a : Act} {o : Oper} {ub : Nat} {δ : Delta}
theorem objMap_inv {ob : Nat → Option Obj'} {l u : Nat} {es : List (V × V)} (h : objMap ob l u = some es) : ob l = some ⟨u, .mp (objVer ob l) es⟩ := by
  unfold objMap at h
  split at h
  · rename_i u' ver cs' hob
    unfold objVer
    rw [hob]
    simp only
    split at h
    · rename_i hu; cases h; subst hu; rfl
    · cases h
  · cases h
/-- An object's row of cells in memory. -/
theorem obj_row (hR : R E w0 I0 nt γ I st a w) {l u b : Nat} {k : Kd} {cs : List V} {B : OBody} (h : st.ob l = some ⟨u, B⟩) (hB : B.Row cs) (hu : γ u = some (.obj b k)) :
    ∃ arr e, w.heap[b]? = some (.cells arr e (0, 0)) ∧ arr.size = k.size ∧ cs.length ≤ k.size ∧ ∀ (j : Nat) (x : Value) (v : V), arr[j]? = some x → cs[j]? = some v → v.leaf = true ∧ Rep γ I x v := by
  obtain ⟨Ω, hown⟩ := hR.own
  obtain ⟨b', kb', k1, k2, k3, k4, k5⟩ := hown.ob l _ h
  rw [hu] at k1
  cases k1
  exact row_ok k4 hB
theorem splice_length (cs : List V) (off : Nat) (vs : List V) (h : off + vs.length ≤ cs.length) : (splice cs off vs).length = cs.length := by
  simp only [splice, List.length_append, List.length_take, List.length_drop]
  omega
theorem splice_get (cs : List V) (off : Nat) (vs : List V) (h : off + vs.length ≤ cs.length) (j : Nat) :
    (splice cs off vs)[j]? = if off ≤ j ∧ j < off + vs.length then vs[j - off]? else cs[j]? := by
  simp only [splice]
  by_cases h1 : j < off
  · rw [List.append_assoc, List.getElem?_append_left (by simp only [List.length_take]; omega), List.getElem?_take_of_lt h1, if_neg (by omega)]
  · by_cases h2 : j < off + vs.length
    · rw [List.getElem?_append_left (by simp only [List.length_append, List.length_take]; omega), List.getElem?_append_right (by simp only [List.length_take]; omega), if_pos (by omega)]
      congr 1
      simp only [List.length_take]
      omega
    · rw [List.getElem?_append_right (by simp only [List.length_append, List.length_take]; omega), if_neg (by omega), List.getElem?_drop]
      congr 1
      simp only [List.length_append, List.length_take]
      omega
theorem ok_store (hR : R E w0 I0 nt γ I st a w) (hd : ∀ d, o.dst = some d → d < nt) {t : TypeId} {x y : Operand} {x' y' : A} {n : Nat} (ho : o.op = .store t x y) (hx : opd x = some x') (hy : opd y = some y') (hn : szOf P t = some n)
    (ha : (match eval E st.tm x' with
      | .ptr l u off => (objCells st.ob l u).bind fun cs =>
        if Nat.ble st.ro u = true ∧ (eval E st.tm y').cells.length = n ∧ off + n ≤ cs.length ∧ (eval E st.tm y').cells.all V.leaf = true then
          some { v := none', obs := [(l, ⟨u, .cells (splice cs off (eval E st.tm y').cells)⟩)] } else none
      | _ => none) = some δ) : OpOk P E w0 I0 nt γ I st a w o ub δ := by
  have hrx := eval_rep hR hx
  have hry := eval_rep hR hy
  split at ha
  · rename_i l u off he
    rw [he] at hrx
    obtain ⟨b, kb, hu, hx'⟩ := inv_ptr hrx
    obtain ⟨cs, hcs, ha⟩ := bind_some ha
    split at ha
    · rename_i hc
      obtain ⟨hro, h1, h2, h3⟩ := hc
      obtain ⟨B, hob, hB⟩ := objCells_inv hcs
      obtain ⟨arr, e, m1, m2, m4, m3⟩ := obj_row hR hob hB hu
      obtain ⟨c1, c2⟩ := cells_rep hry h3
      generalize hV : (a.eval y).cells = vals at c1 c2
      have hone : ∀ v ∈ vals.toList, v.oneCell' = true := by
        intro v hv
        obtain ⟨j, hj, rfl⟩ := List.mem_iff_getElem.1 hv
        have hj' : j < vals.size := by simpa using hj
        have hq : (eval E st.tm y').cells[j]? = some ((eval E st.tm y').cells[j]'(by omega)) := List.getElem?_eq_getElem _
        obtain ⟨l1, l2⟩ := c2 j _ _ (Array.getElem?_eq_getElem hj') hq
        have := l2.oneCell l1
        simpa using this
      have hlen : vals.toList.length = n := by simp; omega
      have hst := run_storeCells_at P b off e vals.toList 0 arr w m1 (by simp only [Nat.add_zero]; omega) hone
      simp only [Nat.add_zero] at hst
      refine set_ok hR hd hob hro (body' := .cells (splice cs off (eval E st.tm y').cells)) (x := undef) (v := none')
        (w' := w.setRow b (arr.toList.take off ++ vals.toList ++ arr.toList.drop (off + vals.toList.length)).toArray) (.inr ⟨?_, rfl⟩) (.tup _ _ rfl (by simp)) (fun v es h => by cases h) ?_ ha
      · have hsv : (storeVar t ⟨b, off, none⟩ (a.eval y)).run P w = .ok () (w.setRow b (arr.toList.take off ++ vals.toList ++ arr.toList.drop (off + vals.toList.length)).toArray) := by
          unfold storeVar
          rw [hV]
          have hvs : ¬ (vals.size ≠ n) := by omega
          simp only [Sem.run_bind, run_sizeOf hn, Result.andThen_ok, hvs, if_false, hst]
        simp only [execOp, ho, hx', Instr.storeAt, Instr.sureAddr, Sem.run_bind, Sem.run_pure, Result.andThen_ok, hsv]
      · intro b' k' hb' hlt
        rw [hu] at hb'
        cases hb'
        refine ⟨rfl, rfl, rfl, by simp, fun k hk => setRow_other w b k _ hk, ?_⟩
        rw [setRow_heap w b arr _ e _ m1]
        refine ⟨_, e, rfl, ?_, by rw [splice_length _ _ _ (by omega)]; exact m4, ?_⟩
        · simp only [List.size_toArray, List.length_append, List.length_take, List.length_drop, Array.length_toList]
          omega
        · intro j x v hx hv
          rw [splice_get _ _ _ (by omega)] at hv
          simp only [List.getElem?_toArray] at hx
          by_cases hj : off ≤ j ∧ j < off + (eval E st.tm y').cells.length
          · rw [if_pos hj] at hv
            rw [List.getElem?_append_left (by simp only [List.length_append, List.length_take, Array.length_toList]; omega), List.getElem?_append_right (by simp only [List.length_take, Array.length_toList]; omega)] at hx
            have hq : j - (List.take off arr.toList).length = j - off := by simp only [List.length_take, Array.length_toList]; omega
            rw [hq] at hx
            exact c2 (j - off) x v (by simpa using hx) hv
          · rw [if_neg hj] at hv
            refine m3 j x v ?_ hv
            by_cases h1 : j < off
            · rw [List.append_assoc, List.getElem?_append_left (by simp only [List.length_take, Array.length_toList]; omega), List.getElem?_take_of_lt h1] at hx
              simpa using hx
            · rw [List.getElem?_append_right (by simp only [List.length_append, List.length_take, Array.length_toList]; omega), List.getElem?_drop] at hx
              have hq : off + vals.toList.length + (j - (List.take off arr.toList ++ vals.toList).length) = j := by
                simp only [List.length_append, List.length_take, Array.length_toList]
                omega
              rw [hq] at hx
              simpa using hx
    · cases ha
  · cases ha
theorem ok_nilCheck (hR : R E w0 I0 nt γ I st a w) (hd : ∀ d, o.dst = some d → d < nt) {x : Operand} {x' : A} (ho : o.op = .nilCheck x) (hx : opd x = some x')
    (ha : (match eval E st.tm x' with
      | .ptr l u o => one (.ptr l u o)
      | .eptr cs o => one (.eptr cs o)
      | .fn (.func f) a b => one (.fn (.func f) a b)
      | _ => none) = some δ) : OpOk P E w0 I0 nt γ I st a w o ub δ := by
  have hr := eval_rep hR hx
  split at ha
  · rename_i he
    rw [he] at hr
    have hr' := hr
    obtain ⟨b, _, _, hx'⟩ := inv_ptr hr'
    exact val_ok hR hd (x := a.eval x) (by simp only [execOp, ho, hx', Sem.run_pure]) hr ha
  · rename_i he
    rw [he] at hr
    have hr' := hr
    obtain ⟨b, _, hx', _⟩ := inv_eptr hr'
    exact val_ok hR hd (x := a.eval x) (by simp only [execOp, ho, hx', Sem.run_pure]) hr ha
  · rename_i he
    rw [he] at hr
    have hr' := hr
    obtain ⟨_, _, hx', _⟩ := inv_fn hr'
    exact val_ok hR hd (x := a.eval x) (by simp only [execOp, ho, hx', Sem.run_pure]) hr ha
  · cases ha
/-- An address behind an address, in a variable or in a row that stays. -/
theorem addr_rep {X : Value} {v v' : V} {n : Nat} (h : Rep γ I X v) (hv : (∃ l u o, v = .ptr l u o ∧ v' = .ptr l u (o + n)) ∨ ∃ cs o, v = .eptr cs o ∧ v' = .eptr cs (o + n)) :
    ∃ ad, X = .pointer (some ad) ∧ ad.spot = none ∧ Rep γ I (.pointer (some (ad.add n))) v' := by
  rcases hv with ⟨l, u, o, rfl, rfl⟩ | ⟨cs, o, rfl, rfl⟩
  · obtain ⟨b, kb, hu, rfl⟩ := inv_ptr h
    exact ⟨_, rfl, rfl, by rw [add_none]; exact .ptr _ _ _ _ _ hu⟩
  · obtain ⟨b, base, rfl, xs, h1, h2, h3⟩ := inv_eptr h
    exact ⟨_, rfl, rfl, by rw [add_none, Nat.add_assoc]; exact .pure _ _ (.eptr b base (o + n) cs xs h1 h2 h3)⟩
theorem ok_fieldAddr (hR : R E w0 I0 nt γ I st a w) (hd : ∀ d, o.dst = some d → d < nt) {t : TypeId} {x : Operand} {x' : A} {f : Nat} {fd : Field} {n : Nat} (ho : o.op = .fieldAddr t x f) (hx : opd x = some x') (hfd : fieldOf P t f = some fd)
    (hn : szOf P fd.type = some n) (hn0 : n ≠ 0)
    (ha : (match eval E st.tm x' with
      | .ptr l u o => one (.ptr l u (o + fd.offset))
      | .eptr cs o => one (.eptr cs (o + fd.offset))
      | _ => none) = some δ) : OpOk P E w0 I0 nt γ I st a w o ub δ := by
  have hr := eval_rep hR hx
  have hu : ∃ fs, P.underlying t = some (.struct fs) ∧ fs[f]? = some fd := by
    unfold fieldOf at hfd
    split at hfd
    · exact ⟨_, by assumption, hfd⟩
    · cases hfd
  obtain ⟨fs, hu, hf⟩ := hu
  have go : ∀ (ad : Addr) (v' : V), a.eval x = .pointer (some ad) → Rep γ I (.pointer (some (ad.add fd.offset))) v' → one v' = some δ → OpOk P E w0 I0 nt γ I st a w o ub δ := by
    intro ad v' hx' hrep hδ
    refine val_ok hR hd ?_ hrep hδ
    simp only [execOp, ho, hx', Instr.fieldAt, Instr.sureAddr, Sem.run_bind, run_underlying hu, Result.andThen_ok, hf, Sem.run_pure, fieldPlace, run_sizeOf hn, hn0, if_false, Sem.run_ite]
  split at ha
  · rename_i l u o' he
    rw [he] at hr
    obtain ⟨ad, hx', _, hrep⟩ := addr_rep (n := fd.offset) hr (.inl ⟨_, _, _, rfl, rfl⟩)
    exact go ad _ hx' hrep ha
  · rename_i cs o' he
    rw [he] at hr
    obtain ⟨ad, hx', _, hrep⟩ := addr_rep (n := fd.offset) hr (.inr ⟨_, _, rfl, rfl⟩)
    exact go ad _ hx' hrep ha
  · cases ha
theorem ok_idxArr (hR : R E w0 I0 nt γ I st a w) (hd : ∀ d, o.dst = some d → d < nt) {t e : TypeId} {x i : Operand} {x' i' : A} {len n : Nat} (ho : o.op = .indexAddr t x i) (hx : opd x = some x') (hi : opd i = some i') (hu : P.underlying t = some (.array len e))
    (hn : szOf P e = some n)
    (ha : (match eval E st.tm x', eval E st.tm i' with
      | .ptr l u off, .int _ i => if 0 ≤ i ∧ i < len then one (.ptr l u (off + i.toNat * n)) else none
      | .eptr cs off, .int _ i => if 0 ≤ i ∧ i < len then one (.eptr cs (off + i.toNat * n)) else none
      | _, _ => none) = some δ) : OpOk P E w0 I0 nt γ I st a w o ub δ := by
  have hr := eval_rep hR hx
  have hri := eval_rep hR hi
  have go : ∀ (k : IntKind) (j : Int) (ad : Addr) (v' : V), a.eval x = .pointer (some ad) → a.eval i = .int k j → 0 ≤ j ∧ j < len → Rep γ I (.pointer (some (ad.add (j.toNat * n)))) v' → one v' = some δ → OpOk P E w0 I0 nt γ I st a w o ub δ := by
    intro k j ad v' hx' hi' hj hrep hδ
    refine val_ok hR hd ?_ hrep hδ
    simp only [execOp, ho, hx', hi', Instr.indexAt, Instr.sureAddr, asIntOf, Sem.run_bind, run_underlying hu, Result.andThen_ok, Sem.run_pure, hj, and_self, if_true, run_sizeOf hn]
  split at ha
  · rename_i he hei
    rw [he] at hr
    rw [hei] at hri
    have hi' := inv_int hri
    split at ha
    · rename_i hj
      obtain ⟨ad, hx', _, hrep⟩ := addr_rep (n := _) hr (.inl ⟨_, _, _, rfl, rfl⟩)
      exact go _ _ ad _ hx' hi' hj hrep ha
    · cases ha
  · rename_i he hei
    rw [he] at hr
    rw [hei] at hri
    have hi' := inv_int hri
    split at ha
    · rename_i hj
      obtain ⟨ad, hx', _, hrep⟩ := addr_rep (n := _) hr (.inr ⟨_, _, rfl, rfl⟩)
      exact go _ _ ad _ hx' hi' hj hrep ha
    · cases ha
  · cases ha
theorem ok_idxSl (hR : R E w0 I0 nt γ I st a w) (hd : ∀ d, o.dst = some d → d < nt) {t e : TypeId} {x i : Operand} {x' i' : A} {n : Nat} (ho : o.op = .indexAddr t x i) (hx : opd x = some x') (hi : opd i = some i') (hu : P.underlying t = some (.slice e))
    (hn : szOf P e = some n) (hn0 : n ≠ 0)
    (ha : (match eval E st.tm x', eval E st.tm i' with
      | .sl _ _ m cs, .int _ i => if 0 ≤ i ∧ i < m ∧ cs.length = m * n then one (.eptr cs (i.toNat * n)) else none
      | .osl l u off m sz', .int _ i => if 0 ≤ i ∧ i < m ∧ sz' = n then one (.ptr l u (off + i.toNat * n)) else none
      | _, _ => none) = some δ) : OpOk P E w0 I0 nt γ I st a w o ub δ := by
  have hr := eval_rep hR hx
  have hri := eval_rep hR hi
  have go : ∀ (k : IntKind) (j : Int) (ad : Addr) (m cap : Nat) (v' : V), a.eval x = .slice (some ad) m cap → a.eval i = .int k j → 0 ≤ j ∧ j < m → Rep γ I (.pointer (some (ad.add (j.toNat * n)))) v' → one v' = some δ → OpOk P E w0 I0 nt γ I st a w o ub δ := by
    intro k j ad m cap v' hx' hi' hj hrep hδ
    refine val_ok hR hd ?_ hrep hδ
    simp only [execOp, ho, hx', hi', Instr.indexAt, asIntOf, Sem.run_bind, run_underlying hu, Result.andThen_ok, Sem.run_pure, hj, and_self, if_true, run_sizeOf hn]
  split at ha
  · rename_i he hei
    rw [he] at hr
    rw [hei] at hri
    have hi' := inv_int hri
    split at ha
    · rename_i t' nl m cs k j hj
      rcases inv_sl hr with ⟨_, _, _, rfl, _⟩ | ⟨ad, cap, xs, hx', _, hs, _, _, h1, h2, h3, _⟩
      · omega
      · have hcs : cs = [] ∨ ad.spot = none := by
          rcases cs with _ | ⟨c, cs⟩
          · exact .inl rfl
          · exact .inr (hs (by simp))
        refine go _ _ ad _ _ _ hx' hi' ⟨hj.1, hj.2.1⟩ ?_ ha
        rcases hcs with rfl | hsp
        · have h := hj.2.2
          simp only [List.length_nil] at h
          rcases Nat.mul_eq_zero.1 h.symm with h | h
          · omega
          · exact absurd h hn0
        · obtain ⟨b, o', sp⟩ := ad
          simp only at hsp
          subst hsp
          rw [add_none]
          exact .pure _ _ (.eptr b o' _ cs xs h1 h2 h3)
    · cases ha
  · rename_i he hei
    rw [he] at hr
    rw [hei] at hri
    have hi' := inv_int hri
    split at ha
    · rename_i hj
      obtain ⟨b, kb, ad, cap, hu', hx', had, hcap, _⟩ := inv_osl hr
      have := (had (by omega)).1
      subst this
      refine go _ _ _ _ _ _ hx' hi' ⟨hj.1, hj.2.1⟩ ?_ ha
      rw [add_none]
      exact .ptr _ _ _ _ _ hu'
    · cases ha
  · cases ha
end
section
variable {P : Program} {E : Env} {w0 w : World} {I0 : IMap} {nt : Nat} {γ : Nat → Option Place} {I : IMap} {st : St} {a : Act} {o : Oper} {ub : Nat} {δ : Delta}
/-- A part of a struct's or an array's value. -/
theorem run_part_rep {t : TypeId} {g : Option Nat} {off : Nat} {xs : Array Value} {cs : List V} {v : V} (hg : rowOf P t = some g) (hp : pick1 g cs off = some v) (hs : xs.size = cs.length)
    (hl : ∀ (j : Nat) (u : V), cs[j]? = some u → u.leaf = true) (hr : ∀ (j : Nat) (y : Value) (u : V), xs[j]? = some y → cs[j]? = some u → Rep γ I y u) :
    ∃ x, (part t xs off).run P w = .ok x w ∧ Rep γ I x v := by
  unfold rowOf at hg
  obtain ⟨d, hu, h2⟩ := bind_some hg
  unfold part
  split at h2
  · rename_i hagg
    obtain ⟨m, hm, rfl⟩ := map_some h2
    simp only [pick1] at hp
    split at hp
    · rename_i hle
      cases hp
      refine ⟨.agg (xs.extract off (off + m)), by simp only [Sem.run_bind, run_isAgg hu, hagg, Result.andThen_ok, if_true, run_sizeOf hm, Sem.run_pure], ?_⟩
      refine .agg _ _ (by simp only [Array.size_extract, List.length_take, List.length_drop]; omega) (fun j u hu => ?_) (fun j x u hx hu => ?_)
      · have hj : j < m := by
          have := (List.getElem?_eq_some_iff.1 hu).1
          simp only [List.length_take] at this
          omega
        rw [List.getElem?_take_of_lt hj, List.getElem?_drop] at hu
        exact hl _ _ hu
      · have hj : j < m := by
          have := (List.getElem?_eq_some_iff.1 hu).1
          simp only [List.length_take] at this
          omega
        rw [List.getElem?_take_of_lt hj, List.getElem?_drop] at hu
        simp only [Array.getElem?_extract] at hx
        split at hx
        · exact hr _ _ _ hx hu
        · cases hx
    · cases hp
  · rename_i hagg
    cases h2
    simp only [pick1] at hp
    have hlt := (List.getElem?_eq_some_iff.1 hp).1
    have hlt' : off < xs.size := by omega
    exact ⟨xs[off], by simp only [Sem.run_bind, run_isAgg hu, hagg, Result.andThen_ok, Bool.false_eq_true, if_false, Array.getElem?_eq_getElem hlt', Sem.run_pure], hr _ _ _ (Array.getElem?_eq_getElem hlt') hp⟩
theorem ok_field (hR : R E w0 I0 nt γ I st a w) (hd : ∀ d, o.dst = some d → d < nt) {t : TypeId} {x : Operand} {x' : A} {f : Nat} {fd : Field} {g : Option Nat} (ho : o.op = .field t x f) (hx : opd x = some x') (hfd : fieldOf P t f = some fd)
    (hg : rowOf P fd.type = some g)
    (ha : (match eval E st.tm x' with
      | .agg cs => (pick1 g cs fd.offset).bind one
      | _ => none) = some δ) : OpOk P E w0 I0 nt γ I st a w o ub δ := by
  have hr := eval_rep hR hx
  have hu : ∃ fs, P.underlying t = some (.struct fs) ∧ fs[f]? = some fd := by
    unfold fieldOf at hfd
    split at hfd
    · exact ⟨_, by assumption, hfd⟩
    · cases hfd
  obtain ⟨fs, hu, hf⟩ := hu
  split at ha
  · rename_i cs he
    rw [he] at hr
    obtain ⟨xs, hx', h1, h2, h3⟩ := inv_agg hr
    obtain ⟨v, hv, hδ⟩ := bind_some ha
    obtain ⟨y, hy, hrep⟩ := run_part_rep (P := P) (w := w) (γ := γ) (I := I) hg hv h1 h2 h3
    refine val_ok hR hd ?_ hrep hδ
    simp only [execOp, ho, hx', Instr.field, asAgg, Sem.run_bind, run_underlying hu, Result.andThen_ok, hf, Sem.run_pure, hy]
  · cases ha
theorem ok_idxVal (hR : R E w0 I0 nt γ I st a w) (hd : ∀ d, o.dst = some d → d < nt) {t e : TypeId} {x i : Operand} {x' i' : A} {len n : Nat} {g : Option Nat} (ho : o.op = .index t x i) (hx : opd x = some x') (hi : opd i = some i') (hu : P.underlying t = some (.array len e))
    (hn : szOf P e = some n) (hg : rowOf P e = some g)
    (ha : (match eval E st.tm x', eval E st.tm i' with
      | .agg cs, .int _ i => if 0 ≤ i ∧ i < len then (pick1 g cs (i.toNat * n)).bind one else none
      | _, _ => none) = some δ) : OpOk P E w0 I0 nt γ I st a w o ub δ := by
  have hr := eval_rep hR hx
  have hri := eval_rep hR hi
  split at ha
  · rename_i cs k j he hei
    rw [he] at hr
    rw [hei] at hri
    have hi' := inv_int hri
    obtain ⟨xs, hx', h1, h2, h3⟩ := inv_agg hr
    split at ha
    · rename_i hj
      obtain ⟨v, hv, hδ⟩ := bind_some ha
      obtain ⟨y, hy, hrep⟩ := run_part_rep (P := P) (w := w) (γ := γ) (I := I) hg hv h1 h2 h3
      refine val_ok hR hd ?_ hrep hδ
      simp only [execOp, ho, hx', hi', Instr.index, asIntOf, Sem.run_bind, run_underlying hu, Result.andThen_ok, Sem.run_pure, hj, and_self, if_true, run_sizeOf hn, hy]
    · cases ha
  · cases ha
theorem ok_idxStr (hR : R E w0 I0 nt γ I st a w) (hd : ∀ d, o.dst = some d → d < nt) {t : TypeId} {x i : Operand} {x' i' : A} (ho : o.op = .index t x i) (hx : opd x = some x') (hi : opd i = some i') (hu : P.underlying t = some .string)
    (ha : (match eval E st.tm x', eval E st.tm i' with
      | .str s, .int _ i => if 0 ≤ i then (s[i.toNat]?).bind fun b => one (.int .u8 b.toNat) else none
      | _, _ => none) = some δ) : OpOk P E w0 I0 nt γ I st a w o ub δ := by
  have hr := eval_rep hR hx
  have hri := eval_rep hR hi
  split at ha
  · rename_i s k j he hei
    rw [he] at hr
    rw [hei] at hri
    have hi' := inv_int hri
    obtain ⟨bs, hx', rfl⟩ := inv_str hr
    split at ha
    · rename_i hj
      obtain ⟨b, hb, hδ⟩ := bind_some ha
      refine val_ok hR hd (x := .int .u8 b.toNat) ?_ (.pure _ _ (.int _ _)) hδ
      have hlt : j.toNat < bs.size := by
        have := (List.getElem?_eq_some_iff.1 hb).1
        simpa using this
      have hq : bs[j.toNat]? = some b := by
        have h2 := (List.getElem?_eq_some_iff.1 hb).2
        rw [getElem?_pos bs j.toNat hlt]
        congr 1
      simp only [execOp, ho, hx', hi', Instr.index, asIntOf, Sem.run_bind, run_underlying hu, Result.andThen_ok, Sem.run_pure, hj, if_true, hq]
    · cases ha
  · cases ha
theorem ok_extract (hR : R E w0 I0 nt γ I st a w) (hd : ∀ d, o.dst = some d → d < nt) {x : Operand} {x' : A} {i : Nat} (ho : o.op = .extract x i) (hx : opd x = some x')
    (ha : (match eval E st.tm x' with
      | .tup vs => (vs[i]?).bind one
      | _ => none) = some δ) : OpOk P E w0 I0 nt γ I st a w o ub δ := by
  have hr := eval_rep hR hx
  split at ha
  · rename_i vs he
    rw [he] at hr
    obtain ⟨xs, hx', h1, h2⟩ := inv_tup hr
    obtain ⟨v, hv, hδ⟩ := bind_some ha
    have hlt : i < xs.size := by have := (List.getElem?_eq_some_iff.1 hv).1; omega
    refine val_ok hR hd (x := xs[i]) ?_ (h2 i _ _ (Array.getElem?_eq_getElem hlt) hv) hδ
    simp only [execOp, ho, hx', Instr.extract, Array.getElem?_eq_getElem hlt, Sem.run_bind, Sem.run_pure, Result.andThen_ok]
  · cases ha
theorem opds_rep (hR : R E w0 I0 nt γ I st a w) {xs : Array Operand} {ys : List A} (h : opds xs = some ys) : (xs.map a.eval).size = (ys.map (eval E st.tm)).length ∧
    ∀ (j : Nat) (x : Value) (v : V), (xs.map a.eval)[j]? = some x → (ys.map (eval E st.tm))[j]? = some v → Rep γ I x v := by
  obtain ⟨h1, h2⟩ := mapM_some h
  refine ⟨by simpa using h1.symm, fun j x v hx hv => ?_⟩
  simp only [Array.getElem?_map, List.getElem?_map, Option.map_eq_some_iff] at hx hv
  obtain ⟨p, hp, rfl⟩ := hx
  obtain ⟨q, hq, rfl⟩ := hv
  exact eval_rep hR (h2 j p q (by simpa using hp) hq)
theorem ok_mkFn (hR : R E w0 I0 nt γ I st a w) (hd : ∀ d, o.dst = some d → d < nt) {f : Fn} {xs ys : Array Operand} {xs' ys' : List A} (ho : o.op = .makeFunc f xs ys) (hx : opds xs = some xs') (hy : opds ys = some ys')
    (ha : one (.fn f (xs'.map (eval E st.tm)) (ys'.map (eval E st.tm))) = some δ) : OpOk P E w0 I0 nt γ I st a w o ub δ := by
  obtain ⟨h1, h2⟩ := opds_rep hR hx
  obtain ⟨h3, h4⟩ := opds_rep hR hy
  exact val_ok hR hd (x := .func f (xs.map a.eval) (ys.map a.eval)) (by simp only [execOp, ho, Instr.makeFunc, Sem.run_bind, Sem.run_pure, Result.andThen_ok]) (.fn _ _ _ _ _ h1 h3 h2 h4) ha
theorem ok_iface (hR : R E w0 I0 nt γ I st a w) (hd : ∀ d, o.dst = some d → d < nt) {t : TypeId} {x : Operand} {x' : A} {d : TypeDesc} (ho : o.op = .makeInterface t x) (hx : opd x = some x') (hu : P.underlying t = some d) (hni : ∀ ms, d ≠ .interface ms)
    (ha : one (.iface t (eval E st.tm x')) = some δ) : OpOk P E w0 I0 nt γ I st a w o ub δ := by
  refine val_ok hR hd (x := .iface t (a.eval x)) ?_ (.iface _ _ _ (eval_rep hR hx)) ha
  simp only [execOp, ho, Instr.makeInterface, Sem.run_bind, run_underlying hu, Result.andThen_ok]
  cases d <;> first | rfl | (exact absurd rfl (hni _))
theorem ok_conv (hR : R E w0 I0 nt γ I st a w) (hd : ∀ d, o.dst = some d → d < nt) {s t : TypeId} {x : Operand} {x' : A} {k q : IntKind} (ho : o.op = .convert s t x) (hx : opd x = some x') (hs : P.underlying s = some (.int q)) (hu : P.underlying t = some (.int k))
    (ha : (match eval E st.tm x' with
      | .int _ n => one (.int k (k.wrap n))
      | _ => none) = some δ) : OpOk P E w0 I0 nt γ I st a w o ub δ := by
  have hr := eval_rep hR hx
  split at ha
  · rename_i he
    rw [he] at hr
    have hx' := inv_int hr
    refine val_ok hR hd (x := .int k _) ?_ (.pure _ _ (.int _ _)) ha
    simp only [execOp, ho, hx', convert, Sem.run_bind, run_underlying hs, run_underlying hu, Result.andThen_ok, Conv.intToInt, Sem.run_pure]
  · cases ha
theorem ok_convId (hR : R E w0 I0 nt γ I st a w) (hd : ∀ d, o.dst = some d → d < nt) {s t : TypeId} {x : Operand} {x' : A} (ho : o.op = .convert s t x) (hx : opd x = some x') (hs : P.underlying s = some .string) (hu : P.underlying t = some .string)
    (ha : (match eval E st.tm x' with
      | .str s => one (.str s)
      | _ => none) = some δ) : OpOk P E w0 I0 nt γ I st a w o ub δ := by
  have hr := eval_rep hR hx
  split at ha
  · rename_i he
    rw [he] at hr
    have hr' := hr
    obtain ⟨bs, hx', rfl⟩ := inv_str hr
    refine val_ok hR hd (x := a.eval x) ?_ hr' ha
    simp only [execOp, ho, hx', convert, Sem.run_bind, run_underlying hs, run_underlying hu, Result.andThen_ok, Sem.run_pure]
  · cases ha
/-- The bounds of a slice expression. -/
theorem run_bounds {isS : Bool} {len cap cap' : Nat} {lo hi : Option Value} {vlo vhi : Option V} {l h : Nat} (hb : bounds len cap vlo vhi = some (l, h)) (hc : cap ≤ cap')
    (hlo : ∀ v, vlo = some v → ∃ x, lo = some x ∧ Rep γ I x v) (hlo0 : vlo = none → lo = none) (hhi : ∀ v, vhi = some v → ∃ x, hi = some x ∧ Rep γ I x v) (hhi0 : vhi = none → hi = none) :
    (Instr.sliceBounds isS len cap' lo hi none).run P w = .ok (l, h, cap') w ∧ l ≤ h ∧ (h ≤ cap ∨ h = len) := by
  unfold bounds at hb
  obtain ⟨h', hh, hb⟩ := bind_some hb
  have hhi' : ((hi = none ∧ len = h') ∨ ∃ x, hi = some x ∧ ∀ code, (Instr.sliceBound x cap' code).run P w = .ok h' w) ∧ (h' ≤ cap ∨ h' = len) := by
    cases vhi with
    | none =>
      simp only [Option.some.injEq] at hh
      exact ⟨.inl ⟨hhi0 rfl, hh⟩, .inr hh.symm⟩
    | some v =>
      obtain ⟨x, rfl, hx⟩ := hhi v rfl
      cases v with
      | int k n =>
        have := inv_int hx
        subst this
        simp only at hh
        split at hh
        · rename_i hn
          simp only [Option.some.injEq] at hh
          subst hh
          exact ⟨.inr ⟨_, rfl, fun code => run_sliceBound w k n cap' code hn.1 (by omega)⟩, .inl (by omega)⟩
        · cases hh
      | _ => simp only [reduceCtorEq] at hh
  have hlo' : ((lo = none ∧ l = 0) ∨ ∃ x, lo = some x ∧ ∀ code, (Instr.sliceBound x h' code).run P w = .ok l w) ∧ l ≤ h' ∧ h' = h := by
    cases vlo with
    | none =>
      simp only [Option.some.injEq, Prod.mk.injEq] at hb
      obtain ⟨rfl, rfl⟩ := hb
      exact ⟨.inl ⟨hlo0 rfl, rfl⟩, Nat.zero_le _, rfl⟩
    | some v =>
      obtain ⟨x, rfl, hx⟩ := hlo v rfl
      cases v with
      | int k n =>
        have := inv_int hx
        subst this
        simp only at hb
        split at hb
        · rename_i hn
          simp only [Option.some.injEq, Prod.mk.injEq] at hb
          obtain ⟨rfl, rfl⟩ := hb
          exact ⟨.inr ⟨_, rfl, fun code => run_sliceBound w k n h' code hn.1 hn.2⟩, by omega, rfl⟩
        · cases hb
      | _ => simp only [reduceCtorEq] at hb
  obtain ⟨q1, q2, rfl⟩ := hlo'
  refine ⟨?_, q2, hhi'.2⟩
  unfold Instr.sliceBounds
  rcases hhi'.1 with ⟨rfl, rfl⟩ | ⟨x, rfl, e1⟩ <;> rcases q1 with ⟨rfl, rfl⟩ | ⟨y, rfl, e2⟩ <;> simp [*]
end
section
variable {P : Program} {E : Env} {w0 w : World} {I0 : IMap} {nt : Nat} {γ : Nat → Option Place} {I : IMap} {st : St} {a : Act} {o : Oper} {ub : Nat} {δ : Delta}
theorem compOpt_rep (hR : R E w0 I0 nt γ I st a w) {x : Option Operand} {x' : Option A} (h : compOpt x = some x') :
    (∀ v, x'.map (eval E st.tm) = some v → ∃ y, x.map a.eval = some y ∧ Rep γ I y v) ∧ (x'.map (eval E st.tm) = none → x.map a.eval = none) := by
  unfold compOpt at h
  cases x with
  | none => cases h; exact ⟨fun v hv => (by cases hv), fun _ => rfl⟩
  | some x =>
    obtain ⟨y, hy, rfl⟩ := map_some h
    refine ⟨fun v hv => ?_, fun hv => (by cases hv)⟩
    simp only [Option.map_some, Option.some.injEq] at hv
    subst hv
    exact ⟨_, rfl, eval_rep hR hy⟩
theorem ok_slStr (hR : R E w0 I0 nt γ I st a w) (hd : ∀ d, o.dst = some d → d < nt) {t : TypeId} {x : Operand} {x' : A} {lo hi : Option Operand} {lo' hi' : Option A} (ho : o.op = .slice t x lo hi none) (hx : opd x = some x') (hl : compOpt lo = some lo') (hh : compOpt hi = some hi')
    (hu : P.underlying t = some .string)
    (ha : (match eval E st.tm x' with
      | .str s => (bounds s.length s.length (lo'.map (eval E st.tm)) (hi'.map (eval E st.tm))).bind fun (l, h) => one (.str ((s.take h).drop l))
      | _ => none) = some δ) : OpOk P E w0 I0 nt γ I st a w o ub δ := by
  have hr := eval_rep hR hx
  split at ha
  · rename_i s he
    rw [he] at hr
    obtain ⟨bs, hx', rfl⟩ := inv_str hr
    obtain ⟨⟨l, h⟩, hb, hδ⟩ := bind_some ha
    have hlen : bs.data.toList.length = bs.size := by simp
    rw [hlen] at hb
    obtain ⟨c1, c2⟩ := compOpt_rep hR hl
    obtain ⟨d1, d2⟩ := compOpt_rep hR hh
    obtain ⟨hrun, hlh, _⟩ := run_bounds (P := P) (w := w) (γ := γ) (I := I) (isS := false) hb (Nat.le_refl _) c1 c2 d1 d2
    refine val_ok hR hd (x := .string (bs.extract l h)) ?_ ?_ hδ
    · simp only [execOp, ho, hx', Instr.sliceAt, Instr.slice, Sem.run_bind, run_underlying hu, Result.andThen_ok, Option.map_none, Option.isSome_none, Bool.false_eq_true, if_false, hrun, Sem.run_pure]
    · have : (bs.data.toList.take h).drop l = (bs.extract l h).data.toList := by
        rw [ByteArray.data_extract]
        simp [List.drop_take]
      rw [this]
      exact .pure _ _ (.str _)
  · cases ha
/-- A piece of a row that stays. -/
theorem sub_rep {ad : Addr} {n cap sz l h : Nat} {cs : List V} {xs : Nat → Value} (hlen : cs.length = n * sz) (hs : cs ≠ [] → ad.spot = none) (hc : n ≤ cap) (hm : cap ≤ maxLen)
    (hi : ∀ j, j < cs.length → I ad.block (ad.off + j) = some (xs j)) (hl : ∀ (j : Nat) (v : V), cs[j]? = some v → v.pureLeaf = true) (hr : ∀ (j : Nat) (v : V), cs[j]? = some v → RepP I (xs j) v)
    (h1 : l ≤ h) (h2 : h ≤ n) : RepP I (.slice (some (if cap = l then ad else ad.add (l * sz))) (h - l) (cap - l)) (.sl none false (h - l) ((cs.take (h * sz)).drop (l * sz))) := by
  have hcs : ((cs.take (h * sz)).drop (l * sz)).length = (h - l) * sz := by
    have : h * sz ≤ n * sz := Nat.mul_le_mul_right _ h2
    simp only [List.length_drop, List.length_take, Nat.sub_mul]
    omega
  have hget : ∀ (j : Nat) (v : V), ((cs.take (h * sz)).drop (l * sz))[j]? = some v → cs[l * sz + j]? = some v := by
    intro j v hv
    rw [List.getElem?_drop, List.getElem?_take] at hv
    split at hv
    · exact hv
    · cases hv
  -- where nothing lies behind, there is no cell
  have hne : (cs.take (h * sz)).drop (l * sz) ≠ [] → cap ≠ l ∧ ad.spot = none := by
    intro hne
    have hpos : 0 < ((cs.take (h * sz)).drop (l * sz)).length := List.length_pos_iff.2 hne
    refine ⟨fun e => ?_, hs (fun e => ?_)⟩
    · have hhl : h - l = 0 := by omega
      rw [hcs, hhl, Nat.zero_mul] at hpos
      omega
    · rw [e] at hpos
      simp at hpos
  refine .sl _ _ _ _ (fun j => xs (l * sz + j)) ?_ (by omega) (by omega) (fun j hj => ?_) (fun j v hv => hl _ _ (hget j v hv)) (fun j v hv => hr _ _ (hget j v hv))
  · intro he
    obtain ⟨g1, g2⟩ := hne he
    rw [if_neg g1]
    unfold Addr.add
    split
    · exact g2
    · rfl
  · have he : (cs.take (h * sz)).drop (l * sz) ≠ [] := by
      intro e
      rw [e] at hj
      simp at hj
    obtain ⟨g1, g2⟩ := hne he
    rw [if_neg g1]
    obtain ⟨b, off, sp⟩ := ad
    simp only at g2
    subst g2
    rw [add_none]
    simp only at hi ⊢
    rw [Nat.add_assoc]
    have hlt : l * sz + j < cs.length := by
      have : h * sz ≤ n * sz := Nat.mul_le_mul_right _ h2
      have h3 : l * sz ≤ h * sz := Nat.mul_le_mul_right _ h1
      simp only [List.length_drop, List.length_take] at hj
      omega
    exact hi _ hlt
theorem bounds_le {len : Nat} {lo hi : Option V} {l h : Nat} (hb : bounds len len lo hi = some (l, h)) : h ≤ len := by
  unfold bounds at hb
  obtain ⟨h', hh, hb⟩ := bind_some hb
  have hle : h' ≤ len := by
    split at hh
    · split at hh
      · rename_i hn; simp only [Option.some.injEq] at hh; omega
      · cases hh
    · cases hh
    · simp only [Option.some.injEq] at hh; omega
  split at hb
  · split at hb
    · simp only [Option.some.injEq, Prod.mk.injEq] at hb; omega
    · cases hb
  · cases hb
  · simp only [Option.some.injEq, Prod.mk.injEq] at hb; omega
theorem ok_slSl (hR : R E w0 I0 nt γ I st a w) (hd : ∀ d, o.dst = some d → d < nt) {t e : TypeId} {x : Operand} {x' : A} {lo hi : Option Operand} {lo' hi' : Option A} {n : Nat} (ho : o.op = .slice t x lo hi none) (hx : opd x = some x') (hl : compOpt lo = some lo') (hh : compOpt hi = some hi')
    (hu : P.underlying t = some (.slice e)) (hn : szOf P e = some n)
    (ha : (match eval E st.tm x' with
      | .sl _ nl m cs => if cs.length = m * n then (bounds m m (lo'.map (eval E st.tm)) (hi'.map (eval E st.tm))).bind fun (l, h) => one (.sl none nl (h - l) ((cs.take (h * n)).drop (l * n))) else none
      | .osl q u off m sz' => if sz' = n then (bounds m m (lo'.map (eval E st.tm)) (hi'.map (eval E st.tm))).bind fun (l, h) => one (.osl q u (off + l * n) (h - l) n) else none
      | _ => none) = some δ) : OpOk P E w0 I0 nt γ I st a w o ub δ := by
  have hr := eval_rep hR hx
  obtain ⟨c1, c2⟩ := compOpt_rep hR hl
  obtain ⟨d1, d2⟩ := compOpt_rep hR hh
  split at ha
  · rename_i tk nl m cs he
    rw [he] at hr
    split at ha
    · rename_i hlen
      obtain ⟨⟨l, h⟩, hb, hδ⟩ := bind_some ha
      have hhm := bounds_le hb
      rcases inv_sl hr with ⟨hx', _, rfl, rfl, rfl⟩ | ⟨ad, cap, xs, hx', rfl, hs, hc, hm, h1, h2, h3, _⟩
      · obtain ⟨hrun, hlh, _⟩ := run_bounds (P := P) (w := w) (γ := γ) (I := I) (isS := true) hb (Nat.le_refl _) c1 c2 d1 d2
        have hh0 : h = 0 := by omega
        have hl0 : l = 0 := by omega
        subst hh0; subst hl0
        refine val_ok hR hd (x := .slice none 0 0) ?_ (by simpa using Rep.pure (γ := γ) _ _ (RepP.slnil (I := I))) hδ
        simp only [execOp, ho, hx', Instr.sliceAt, Instr.slice, Sem.run_bind, run_underlying hu, Result.andThen_ok, Option.map_none, hrun, run_sizeOf hn, Sem.run_pure, if_true]
      · obtain ⟨hrun, hlh, _⟩ := run_bounds (P := P) (w := w) (γ := γ) (I := I) (isS := true) hb hc c1 c2 d1 d2
        refine val_ok hR hd (x := .slice (some (if cap = l then ad else ad.add (l * n))) (h - l) (cap - l)) ?_ (.pure _ _ (sub_rep hlen hs hc hm h1 h2 h3 hlh hhm)) hδ
        simp only [execOp, ho, hx', Instr.sliceAt, Instr.slice, Sem.run_bind, run_underlying hu, Result.andThen_ok, Option.map_none, hrun, run_sizeOf hn, Sem.run_pure]
        split <;> rfl
    · cases ha
  · rename_i q u off m sz' he
    rw [he] at hr
    split at ha
    · rename_i hsz
      subst hsz
      obtain ⟨⟨l, h⟩, hb, hδ⟩ := bind_some ha
      have hhm := bounds_le hb
      obtain ⟨b, kb, ad, cap, hu', hx', had, hc, hm⟩ := inv_osl hr
      obtain ⟨hrun, hlh, _⟩ := run_bounds (P := P) (w := w) (γ := γ) (I := I) (isS := true) hb hc c1 c2 d1 d2
      refine val_ok hR hd (x := .slice (some (if cap = l then ad else ad.add (l * sz'))) (h - l) (cap - l)) ?_ (.osl _ _ _ _ _ _ b kb _ hu' (fun hpos => ?_) (by omega) (by omega)) hδ
      · simp only [execOp, ho, hx', Instr.sliceAt, Instr.slice, Sem.run_bind, run_underlying hu, Result.andThen_ok, Option.map_none, hrun, run_sizeOf hn, Sem.run_pure]
        split <;> rfl
      · obtain ⟨had1, had2⟩ := had (by omega)
        subst had1
        rw [if_neg (by omega), add_none]
        refine ⟨rfl, ?_⟩
        rw [Nat.add_assoc, ← Nat.add_mul, show l + (cap - l) = cap by omega]
        exact had2
    · cases ha
  · cases ha
theorem ok_slArr (hR : R E w0 I0 nt γ I st a w) (hd : ∀ d, o.dst = some d → d < nt) {t e : TypeId} {x : Operand} {x' : A} {lo hi : Option Operand} {lo' hi' : Option A} {len n : Nat} (ho : o.op = .slice t x lo hi none) (hx : opd x = some x') (hl : compOpt lo = some lo') (hh : compOpt hi = some hi')
    (hu : P.underlying t = some (.array len e)) (hlen : len ≤ maxLen) (hn : szOf P e = some n)
    (ha : (match eval E st.tm x' with
      | .ptr q u off => (objCells st.ob q u).bind fun cs => if off + len * n ≤ cs.length then (bounds len len (lo'.map (eval E st.tm)) (hi'.map (eval E st.tm))).bind fun (l, h) => one (.osl q u (off + l * n) (h - l) n) else none
      | _ => none) = some δ) : OpOk P E w0 I0 nt γ I st a w o ub δ := by
  have hr := eval_rep hR hx
  obtain ⟨c1, c2⟩ := compOpt_rep hR hl
  obtain ⟨d1, d2⟩ := compOpt_rep hR hh
  split at ha
  · rename_i q u off he
    rw [he] at hr
    obtain ⟨b, kb, hu', hx'⟩ := inv_ptr hr
    obtain ⟨cs, hcs, ha⟩ := bind_some ha
    split at ha
    case isFalse => cases ha
    rename_i hfit
    obtain ⟨B, hob, hB⟩ := objCells_inv hcs
    obtain ⟨_, _, _, _, hcl, _⟩ := obj_row hR hob hB hu'
    obtain ⟨⟨l, h⟩, hb, hδ⟩ := bind_some ha
    have hhm := bounds_le hb
    obtain ⟨hrun, hlh, _⟩ := run_bounds (P := P) (w := w) (γ := γ) (I := I) (isS := false) hb (Nat.le_refl _) c1 c2 d1 d2
    refine val_ok hR hd (x := .slice (some (if len = l then ⟨b, off, none⟩ else (⟨b, off, none⟩ : Addr).add (l * n))) (h - l) (len - l)) ?_ (.osl _ _ _ _ _ _ b kb _ hu' (fun hpos => ?_) (by omega) (by omega)) hδ
    · simp only [execOp, ho, hx', Instr.sliceAt, Instr.sureAddr, Sem.run_bind, run_underlying hu, Result.andThen_ok, Option.map_none, hrun, run_sizeOf hn, Sem.run_pure]
    · rw [if_neg (by omega), add_none]
      refine ⟨rfl, ?_⟩
      rw [Nat.add_assoc, ← Nat.add_mul, show l + (len - l) = len by omega]
      omega
  · cases ha
theorem ok_lenStr (hR : R E w0 I0 nt γ I st a w) (hd : ∀ d, o.dst = some d → d < nt) {t : TypeId} {x : Operand} {x' : A} {ats : Array TypeId} (ho : o.op = .call { callee := .builtin .len, args := #[x], argTypes := ats }) (hx : opd x = some x') (ht : ats[0]? = some t) (hu : P.underlying t = some .string)
    (ha : (match eval E st.tm x' with
      | .str s => one (.int .i64 s.length)
      | _ => none) = some δ) : OpOk P E w0 I0 nt γ I st a w o ub δ := by
  have hr := eval_rep hR hx
  split at ha
  · rename_i he
    rw [he] at hr
    obtain ⟨bs, hx', rfl⟩ := inv_str hr
    refine val_ok hR hd (x := .int .i64 bs.size) ?_ (by simpa using Rep.pure (γ := γ) (I := I) _ _ (RepP.int .i64 (bs.size : Int))) ha
    simp only [execOp, ho, resolve, Sem.run_bind, Sem.run_pure, Result.andThen_ok, invoke, builtin, List.map_toArray, List.map_cons, List.map_nil, hx', Builtin.len_, ht]
    simp [run_underlying hu, goInt]
  · cases ha
theorem ok_lenSl (hR : R E w0 I0 nt γ I st a w) (hd : ∀ d, o.dst = some d → d < nt) {t e : TypeId} {x : Operand} {x' : A} {ats : Array TypeId} (ho : o.op = .call { callee := .builtin .len, args := #[x], argTypes := ats }) (hx : opd x = some x') (ht : ats[0]? = some t) (hu : P.underlying t = some (.slice e))
    (ha : (match eval E st.tm x' with
      | .sl _ _ n _ => one (.int .i64 n)
      | .osl _ _ _ n _ => one (.int .i64 n)
      | _ => none) = some δ) : OpOk P E w0 I0 nt γ I st a w o ub δ := by
  have hr := eval_rep hR hx
  have go : ∀ (ad : Option Addr) (n cap : Nat), a.eval x = .slice ad n cap → one (.int .i64 n) = some δ → OpOk P E w0 I0 nt γ I st a w o ub δ := by
    intro ad n cap hx' hδ
    refine val_ok hR hd (x := .int .i64 n) ?_ (.pure _ _ (.int _ _)) hδ
    simp only [execOp, ho, resolve, Sem.run_bind, Sem.run_pure, Result.andThen_ok, invoke, builtin, List.map_toArray, List.map_cons, List.map_nil, hx', Builtin.len_, ht]
    simp [run_underlying hu, goInt]
  split at ha
  · rename_i he
    rw [he] at hr
    rcases inv_sl hr with ⟨hx', _, _, rfl, _⟩ | ⟨ad, cap, xs, hx', _⟩
    · exact go _ _ _ hx' ha
    · exact go _ _ _ hx' ha
  · rename_i he
    rw [he] at hr
    obtain ⟨_, _, _, _, _, hx', _⟩ := inv_osl hr
    exact go _ _ _ hx' ha
  · cases ha
theorem ok_lenMap (hR : R E w0 I0 nt γ I st a w) (hd : ∀ d, o.dst = some d → d < nt) {t k e : TypeId} {x : Operand} {x' : A} {ats : Array TypeId} (ho : o.op = .call { callee := .builtin .len, args := #[x], argTypes := ats }) (hx : opd x = some x') (ht : ats[0]? = some t) (hu : P.underlying t = some (.map k e))
    (ha : (match eval E st.tm x' with
      | .nilmap => one (.int .i64 0)
      | .map l u => (objMap st.ob l u).bind fun es => one (.int .i64 es.length)
      | _ => none) = some δ) : OpOk P E w0 I0 nt γ I st a w o ub δ := by
  have hr := eval_rep hR hx
  split at ha
  · rename_i he
    rw [he] at hr
    have hx' := inv_nilmap hr
    refine val_ok hR hd (x := .int .i64 0) ?_ (.pure _ _ (.int _ _)) ha
    simp only [execOp, ho, resolve, Sem.run_bind, Sem.run_pure, Result.andThen_ok, invoke, builtin, List.map_toArray, List.map_cons, List.map_nil, hx', Builtin.len_, ht]
    simp [run_underlying hu, goInt]
  · rename_i he
    rw [he] at hr
    obtain ⟨b, kb, hu', hx'⟩ := inv_map hr
    obtain ⟨es, hes, hδ⟩ := bind_some ha
    have hob := objMap_inv hes
    obtain ⟨Ω, hown⟩ := hR.own
    obtain ⟨b', kb', k1, k2, k3, k4, k5⟩ := hown.ob _ _ hob
    rw [hu'] at k1
    cases k1
    obtain ⟨m, clock, h1, h2, h3⟩ := k4
    have h2 : m.size = es.length := by rw [← h2.1, Array.length_toList]
    refine val_ok hR hd (x := .int .i64 m.size) ?_ (by rw [h2]; exact .pure _ _ (.int _ _)) hδ
    have hg : (getObj b).run P w = .ok (.map m clock) w := by simp [getObj, Sem.run, h1]
    simp only [execOp, ho, resolve, Sem.run_bind, Sem.run_pure, Result.andThen_ok, invoke, builtin, List.map_toArray, List.map_cons, List.map_nil, hx', Builtin.len_, ht]
    simp [run_underlying hu, goInt, hg]
  · cases ha
end
section
variable {P : Program} {E : Env} {w0 w : World} {I0 : IMap} {nt : Nat} {γ : Nat → Option Place} {I : IMap} {st : St} {a : Act} {o : Oper} {ub : Nat} {δ : Delta}
/-- Cells against cells. -/
def RowRep (γ : Nat → Option Place) (I : IMap) (xs : Array Value) (cs : List V) : Prop :=
  xs.size = cs.length ∧ ∀ (j : Nat) (x : Value) (v : V), xs[j]? = some x → cs[j]? = some v → v.leaf = true ∧ Rep γ I x v
theorem foldl_set (off : Nat) : ∀ (vs : List Value) (k : Nat) (cells : Array Value), off + k + vs.length ≤ cells.size →
    ((vs.zipIdx k).foldl (fun cs (c : Value × Nat) => cs.setIfInBounds (off + c.2) c.1) cells).size = cells.size ∧
    ∀ j, ((vs.zipIdx k).foldl (fun cs (c : Value × Nat) => cs.setIfInBounds (off + c.2) c.1) cells)[j]? = if off + k ≤ j ∧ j < off + k + vs.length then vs[j - (off + k)]? else cells[j]?
  | [], k, cells, _ => by
    simp only [List.zipIdx_nil, List.foldl_nil, List.length_nil, Nat.add_zero]
    refine ⟨trivial, fun j => ?_⟩
    rw [if_neg (by omega)]
  | v :: vs, k, cells, h => by
    simp only [List.length_cons] at h
    simp only [List.zipIdx_cons, List.foldl_cons]
    obtain ⟨h1, h2⟩ := foldl_set off vs (k + 1) (cells.setIfInBounds (off + k) v) (by simp only [Array.size_setIfInBounds]; omega)
    refine ⟨by rw [h1]; simp, fun j => ?_⟩
    rw [h2 j]
    simp only [List.length_cons]
    by_cases hj : j = off + k
    · subst hj
      rw [if_neg (by omega), if_pos (by omega)]
      have : off + k < cells.size := by omega
      simp [this]
    · by_cases hj2 : off + (k + 1) ≤ j ∧ j < off + (k + 1) + vs.length
      · rw [if_pos hj2, if_pos (by omega)]
        have : j - (off + k) = (j - (off + (k + 1))) + 1 := by omega
        rw [this, List.getElem?_cons_succ]
      · rw [if_neg hj2, if_neg (by omega), Array.getElem?_setIfInBounds_ne (fun e => hj e.symm)]
theorem fill_rep (hR : R E w0 I0 nt γ I st a w) {place : Nat → Option (Nat × Nat)} : ∀ {ps : List (Nat × Operand)} {l : List (Nat × Nat × A)} {cells : Array Value} {cs cs' : List V},
    ps.mapM (fun (p : Nat × Operand) => (place p.1).bind fun q => (opd p.2).map fun a => (q.1, q.2, a)) = some l → RowRep γ I cells cs → fill cs (evalParts (eval E st.tm) l) = some cs' →
    ∃ cells', Instr.fill place cells (ps.map fun p => (p.1, a.eval p.2)) = some cells' ∧ RowRep γ I cells' cs'
  | [], l, cells, cs, cs', h, hr, hf => by
    simp at h
    subst h
    simp only [evalParts, List.map_nil, fill, Option.some.injEq] at hf
    subst hf
    exact ⟨cells, rfl, hr⟩
  | p :: ps, l, cells, cs, cs', h, hr, hf => by
    simp only [List.mapM_cons] at h
    cases hp : place p.1 with
    | none => simp [hp] at h
    | some q =>
      cases ho : opd p.2 with
      | none => simp [hp, ho] at h
      | some y =>
        cases hm : ps.mapM (fun (p : Nat × Operand) => (place p.1).bind fun q => (opd p.2).map fun a => (q.1, q.2, a)) with
        | none => simp [hp, ho, hm] at h
        | some l' =>
          simp [hp, ho, hm] at h
          subst h
          simp only [evalParts, List.map_cons, fill] at hf
          split at hf
          · rename_i hc
            obtain ⟨c1, c2, c3⟩ := hc
            obtain ⟨d1, d2⟩ := cells_rep (eval_rep hR ho) c3
            have hsz : (a.eval p.2).cells.size = q.2 := by omega
            obtain ⟨f1, f2⟩ := foldl_set q.1 (a.eval p.2).cells.toList 0 cells (by have := hr.1; simp only [Nat.add_zero, Array.length_toList]; omega)
            have hr' : RowRep γ I ((a.eval p.2).cells.zipIdx.foldl (fun cs (c : Value × Nat) => cs.setIfInBounds (q.1 + c.2) c.1) cells) (splice cs q.1 (eval E st.tm y).cells) := by
              rw [← Array.foldl_toList, Array.toList_zipIdx]
              refine ⟨by rw [f1, splice_length _ _ _ (by omega)]; exact hr.1, fun j x v hx hv => ?_⟩
              rw [f2 j] at hx
              rw [splice_get _ _ _ (by omega)] at hv
              simp only [Nat.add_zero, Array.length_toList] at hx
              by_cases hj : q.1 ≤ j ∧ j < q.1 + (eval E st.tm y).cells.length
              · rw [if_pos (by omega)] at hx
                rw [if_pos hj] at hv
                exact d2 _ x v (by simpa using hx) hv
              · rw [if_neg (by omega)] at hx
                rw [if_neg hj] at hv
                exact hr.2 j x v hx hv
            obtain ⟨cells', h1, h2⟩ := fill_rep hR hm hr' hf
            refine ⟨cells', ?_, h2⟩
            simp only [List.map_cons, Instr.fill, hp]
            rw [if_neg]
            · exact h1
            · have := hr.1
              simp only [hsz, ne_eq, not_true_eq_false, decide_false, Bool.false_or, decide_eq_true_eq, gt_iff_lt]
              omega
          · cases hf
theorem compParts_inv {place : Nat → Option (Nat × Nat)} {ps : Array (Nat × Operand)} {l : List (Nat × Nat × A)} (h : compParts place ps = some l) :
    ps.toList.mapM (fun (p : Nat × Operand) => (place p.1).bind fun q => (opd p.2).map fun a => (q.1, q.2, a)) = some l := h
theorem ok_build (hR : R E w0 I0 nt γ I st a w) (hd : ∀ d, o.dst = some d → d < nt) {t : TypeId} {ps : Array (Nat × Operand)} {l : List (Nat × Nat × A)} {zs : List V} {place : Nat → Option (Nat × Nat)} (ho : o.op = .build t ps) (hz : zeroOf P t = some zs)
    (hpl : (∃ fs places, P.underlying t = some (.struct fs) ∧ fs.toList.mapM (fun f => (P.info? f.type).map fun i => (f.offset, i.size)) = some places ∧ place = (places.toArray[·]?)) ∨
      (∃ n e s, P.underlying t = some (.array n e) ∧ szOf P e = some s ∧ place = fun i => some (i * s, s)))
    (hl : compParts place ps = some l) (ha : ((fill zs (evalParts (eval E st.tm) l)).bind fun cs => one (.agg cs)) = some δ) : OpOk P E w0 I0 nt γ I st a w o ub δ := by
  obtain ⟨cs, hcs, hδ⟩ := bind_some ha
  obtain ⟨i, z, hi, hz1, hlen, hcells⟩ := zeroOf_inv (I := I) hz
  obtain ⟨cells', h1, h2⟩ := fill_rep hR (compParts_inv hl) ⟨hlen.symm, fun j x v hx hv => ⟨(hcells j x v hx hv).1, .pure _ _ (hcells j x v hx hv).2⟩⟩ hcs
  have hb : P.built t (ps.map fun (p : Nat × Operand) => (p.1, a.eval p.2)).toList = some cells' := by
    unfold Program.built
    rcases hpl with ⟨fs, places, hu, hp, rfl⟩ | ⟨n, e, s, hu, hs, rfl⟩
    · simp only [hi, hu, hz1, hp, Array.toList_map]
      exact h1
    · unfold szOf at hs
      obtain ⟨ie, hie, rfl⟩ := map_some hs
      simp only [hi, hu, hz1, hie, Array.toList_map]
      exact h1
  refine val_ok hR hd (x := .agg cells') ?_ (.agg _ _ h2.1 (fun j v hv => ?_) (fun j x v hx hv => (h2.2 j x v hx hv).2)) hδ
  · simp only [execOp, ho, Sem.run_bind, run_build w t _ cells' hb, Result.andThen_ok, Sem.run_pure]
  · have hlt : j < cells'.size := by have := (List.getElem?_eq_some_iff.1 hv).1; have := h2.1; omega
    exact (h2.2 j _ v (Array.getElem?_eq_getElem hlt) hv).1
theorem strip1_leaf (v : V) : v.strip1.leaf = v.leaf := by cases v <;> rfl
theorem pureRep {x : Value} {v : V} (h : Rep γ I x v) (hp : v.strip1.pureLeaf = true) : RepP I x v.strip1 := by
  cases v with
  | sl t nl n cs =>
    rcases inv_sl h with ⟨rfl, rfl, rfl, rfl, rfl⟩ | ⟨ad, cap, xs, rfl, rfl, h1, h2, h3, h4, h5, h6, _⟩
    · exact .slnil
    · exact .sl _ _ _ _ _ h1 h2 h3 h4 h5 h6
  | iface t v =>
    cases h with
    | pure _ _ h => exact h
    | iface _ x _ hr =>
      refine .iface _ _ _ ?_
      cases v with
      | agg cs =>
        cases cs with
        | nil =>
          cases hr with
          | pure _ _ h => exact h
          | agg _ _ hlen hl hr => exact .agg _ _ hlen hl (fun j x v _ hv => by simp at hv)
        | cons c cs => simp [V.strip1, V.pureLeaf] at hp
      | _ => simp [V.strip1, V.pureLeaf] at hp <;> (cases hr; assumption)
  | _ => first | (cases h <;> assumption) | (exfalso; revert hp; simp [V.strip1, V.pureLeaf]; done)
theorem repl_rep {z : Value} {zs : List V} (hlen : zs.length = z.cells.size) (hc : ∀ (j : Nat) (x : Value) (v : V), z.cells[j]? = some x → zs[j]? = some v → v.leaf = true ∧ RepP I x v) (n : Nat) (hn : n * zs.length = 0 ∨ 0 < zs.length) :
    RowRep γ I ((Array.range (n * zs.length)).map (z.cells[· % z.cells.size]!)) (repl n zs) := by
  refine ⟨by simp [repl], fun j x v hx hv => ?_⟩
  simp only [repl, List.getElem?_map, Option.map_eq_some_iff] at hv
  obtain ⟨j', hj', rfl⟩ := hv
  have hjlt : j < n * zs.length := by have := (List.getElem?_eq_some_iff.1 hj').1; simpa using this
  have hjj : j' = j := by
    rw [List.getElem?_range hjlt] at hj'
    exact (Option.some.inj hj').symm
  subst hjj
  have hpos : 0 < zs.length := by rcases hn with h | h <;> omega
  have hm : j' % zs.length < zs.length := Nat.mod_lt _ hpos
  have hm2 : j' % z.cells.size < z.cells.size := by rw [← hlen]; exact hm
  have e1 : x = z.cells[j' % z.cells.size] := by
    simp [hjlt] at hx
    rw [← hx]
    simp [hm2]
  have e2 : zs.getD (j' % zs.length) .undef = zs[j' % zs.length] := by simp [List.getD, hm]
  rw [e2, e1]
  have hq : zs[j' % zs.length]? = some zs[j' % zs.length] := List.getElem?_eq_getElem hm
  have hz : z.cells[j' % zs.length]? = some z.cells[j' % z.cells.size] := by
    have : j' % zs.length = j' % z.cells.size := by rw [hlen]
    rw [this]
    exact Array.getElem?_eq_getElem hm2
  obtain ⟨l1, l2⟩ := hc _ _ _ hz hq
  exact ⟨l1, .pure _ _ l2⟩
theorem ok_buildSl (hR : R E w0 I0 nt γ I st a w) (hd : ∀ d, o.dst = some d → d < nt) (hf : γ ub = none) {t e : TypeId} {ps : Array (Nat × Operand)} {l : List (Nat × Nat × A)} {zs : List V} {n s : Nat} (ho : o.op = .buildSlice t n ps)
    (hu : P.underlying t = some (.slice e)) (hs : szOf P e = some s) (hz : zeroOf P e = some zs) (hzs : zs.length = s) (hs0 : 0 < s) (hns : n * s ≤ 16777216) (hl : compParts (fun i => some (i * s, s)) ps = some l)
    (ha : ((fill (repl n zs) (evalParts (eval E st.tm) l)).bind fun cs =>
      if cs.length = n * s ∧ (cs.map V.strip1).all V.pureLeaf = true then some { v := V.sl (some (ub, s)) false n (cs.map V.strip1), add := [ub] } else none) = some δ) : OpOk P E w0 I0 nt γ I st a w o ub δ := by
  obtain ⟨cs, hcs, ha'⟩ := bind_some ha
  split at ha'
  · rename_i hc
    obtain ⟨i, z, hi, hz1, hlen, hcells⟩ := zeroOf_inv (I := I) hz
    subst hzs
    obtain ⟨cells', h1, h2⟩ := fill_rep hR (compParts_inv hl) (repl_rep (γ := γ) (I := I) hlen hcells n (.inr hs0)) hcs
    have hcap : n ≤ maxLen := by
      have : n ≤ n * zs.length := Nat.le_mul_of_pos_right n hs0
      simp only [maxLen]; omega
    refine tok_ok hR hd hf (b := w.heap.size) (n := n) (cap := n) (sz := zs.length) (cs := cs.map V.strip1) (w' := w.alloc (.cells cells' e)) (del := none) (arr := cells') (e := e)
      ?_ (.inl ⟨rfl, by simp⟩) ⟨rfl, rfl, rfl⟩ (fun k hk _ => heap_alloc_old _ _ _ hk) (heap_alloc_new _ _) (by rw [h2.1, hc.1]) (Nat.le_refl _) hcap ?_ (by simpa using hc.1) ?_ ha'
    · have hsz : i.size = zs.length := by unfold szOf at hs; rw [hi] at hs; exact Option.some.inj hs
      have hbig : ¬ (n * zs.length > 16777216) := by omega
      have h1' : Instr.fill (fun i => some (i * zs.length, zs.length)) ((Array.range (n * zs.length)).map (z.cells[· % z.cells.size]!)) ((ps.map fun (p : Nat × Operand) => (p.1, a.eval p.2)).toList) = some cells' := by
        rw [Array.toList_map]; exact h1
      have hrun : (Instr.buildSlice t n (ps.map fun (p : Nat × Operand) => (p.1, a.eval p.2))).run P w = .ok (.slice (some ⟨w.heap.size, 0, none⟩) n n) (w.alloc (.cells cells' e)) := by
        unfold Instr.buildSlice
        simp only [Sem.run_bind, run_underlying hu, Result.andThen_ok, run_sizeOf hs, Nat.reducePow, hbig, if_false]
        by_cases h0 : n * zs.length = 0
        · have hnz : n = 0 := by rcases Nat.mul_eq_zero.1 h0 with h | h <;> omega
          subst hnz
          have hm : ∀ f : Nat → Value, (Array.range 0).map f = #[] := fun f => by simp [Array.range]
          simp only [Nat.zero_mul, hm] at h1'
          simp only [Nat.zero_mul, if_true, hm, h1']
          simp [newRow]
        · simp only [h0, if_false, Sem.run_bind, run_zeroValue hi hz1, Result.andThen_ok, Sem.run_pure, h1']
          simp [newRow]
      simp only [execOp, ho, Sem.run_bind, hrun, Result.andThen_ok, Sem.run_pure]
    · intro j x hx
      exact absurd (World.block_lt_of_cell? _ _ (hR.imm _ _ _ hx)) (Nat.lt_irrefl _)
    · intro j v hv
      simp only [List.getElem?_map, Option.map_eq_some_iff] at hv
      obtain ⟨u, hu', rfl⟩ := hv
      have hp : u.strip1.pureLeaf = true := List.all_eq_true.1 hc.2 _ (List.mem_map.2 ⟨u, List.mem_of_getElem? hu', rfl⟩)
      have hlt : j < cells'.size := by have := (List.getElem?_eq_some_iff.1 hu').1; have := h2.1; omega
      have := (h2.2 j _ u (Array.getElem?_eq_getElem hlt) hu').2
      exact ⟨hp, _, Array.getElem?_eq_getElem hlt, pureRep this hp⟩
  · cases ha'
end
section
variable {P : Program} {E : Env} {w0 w : World} {I0 : IMap} {nt : Nat} {γ : Nat → Option Place} {I : IMap} {st : St} {a : Act} {o : Oper} {ub : Nat} {δ : Delta}
theorem strip1_of_pure {v : V} (h : v.pureLeaf = true) : v.strip1 = v := by
  cases v <;> first | rfl | skip
  rename_i t nl n cs
  cases t with
  | none => rfl
  | some u => simp [V.pureLeaf] at h
theorem RepP.oneCell {x : Value} {v : V} (h : RepP I x v) (hl : v.pureLeaf = true) : x.oneCell' = true :=
  (Rep.pure (γ := fun _ => none) x v h).oneCell (by cases v <;> first | rfl | (simp [V.pureLeaf] at hl))
/-- The cells of a slice that is read. -/
theorem sl_rowL (hR : R E w0 I0 nt γ I st a w) {X : Value} {vx : V} {sz : Nat} {ys : List V} (hr : Rep γ I X vx) (hy : slCells st.ob sz vx = some ys) (hp : ys.all V.leaf = true) (hs0 : 0 < sz) :
    (X = .slice none 0 0 ∧ ys = []) ∨ ∃ (ad : Addr) (m c : Nat) (news : List Value), X = .slice (some ad) m c ∧ m ≤ c ∧ ys.length = m * sz ∧ news.length = ys.length ∧ (∀ (j : Nat) (u : Value), news[j]? = some u → w.cell? (ad.add j) = some u) ∧
      (∀ (j : Nat) (x : Value) (v : V), news[j]? = some x → ys[j]? = some v → Rep γ I x v) ∧ (∀ u ∈ news, u.oneCell' = true) := by
  have fin : ∀ (ad : Addr) (m c : Nat) (f : Nat → Value), X = .slice (some ad) m c → m ≤ c → ys.length = m * sz → (∀ j, j < ys.length → w.cell? (ad.add j) = some (f j)) → (∀ (j : Nat) (v : V), ys[j]? = some v → Rep γ I (f j) v) →
      ∃ (ad : Addr) (m c : Nat) (news : List Value), X = .slice (some ad) m c ∧ m ≤ c ∧ ys.length = m * sz ∧ news.length = ys.length ∧ (∀ (j : Nat) (u : Value), news[j]? = some u → w.cell? (ad.add j) = some u) ∧
      (∀ (j : Nat) (x : Value) (v : V), news[j]? = some x → ys[j]? = some v → Rep γ I x v) ∧ (∀ u ∈ news, u.oneCell' = true) := by
    intro ad m c f h1 h2 h3 h4 h5
    have hget : ∀ (j : Nat) (u : Value), ((List.range ys.length).map f)[j]? = some u → j < ys.length ∧ u = f j := by
      intro j u hu
      simp only [List.getElem?_map, Option.map_eq_some_iff] at hu
      obtain ⟨k, hk, rfl⟩ := hu
      have hj : j < ys.length := by have := (List.getElem?_eq_some_iff.1 hk).1; simpa using this
      rw [List.getElem?_range hj] at hk
      cases hk
      exact ⟨hj, rfl⟩
    refine ⟨ad, m, c, (List.range ys.length).map f, h1, h2, h3, by simp, fun j u hu => ?_, fun j x v hx hv => ?_, fun u hu => ?_⟩
    · obtain ⟨hj, rfl⟩ := hget j u hu; exact h4 j hj
    · obtain ⟨hj, rfl⟩ := hget j x hx; exact h5 j v hv
    · obtain ⟨j, hj, rfl⟩ := List.mem_map.1 hu
      have hj' : j < ys.length := by simpa using hj
      have hv : ys[j]? = some ys[j] := List.getElem?_eq_getElem hj'
      exact (h5 j _ hv).oneCell (List.all_eq_true.1 hp _ (List.mem_of_getElem? hv))
  unfold slCells at hy
  split at hy
  · rename_i t nl n cs
    split at hy
    · rename_i hlen
      cases hy
      rcases inv_sl hr with ⟨rfl, _, _, _, rfl⟩ | ⟨ad, cap, xs, rfl, _, h1, h2, h3, h4, h5, h6, _⟩
      · exact .inl ⟨rfl, rfl⟩
      · refine .inr (fin ad n cap xs rfl h2 hlen (fun j hj => ?_) (fun j v hv => .pure _ _ (h6 j v hv)))
        have hsp := h1 (fun e => by rw [e] at hj; simp at hj)
        obtain ⟨b, off, sp⟩ := ad
        simp only at hsp
        subst hsp
        rw [add_none]
        exact hR.imm _ _ _ (h4 j hj)
    · cases hy
  · rename_i l u off n sz'
    split at hy
    · rename_i hsz
      subst hsz
      obtain ⟨cs, hcs, hy⟩ := bind_some hy
      split at hy
      · rename_i hle
        cases hy
        obtain ⟨b, kb, ad, cap, hu, rfl, had, hc, hm⟩ := inv_osl hr
        obtain ⟨B, hob, hB⟩ := objCells_inv hcs
        obtain ⟨arr, e, m1, m2, m4, m3⟩ := obj_row hR hob hB hu
        have hlen : ((cs.drop off).take (n * sz')).length = n * sz' := by simp only [List.length_take, List.length_drop]; omega
        refine .inr (fin ad n cap (fun j => arr.getD (off + j) undef) rfl hc hlen (fun j hj => ?_) (fun j v hv => ?_))
        · have hn : 0 < n := by
            rcases Nat.eq_zero_or_pos n with h | h
            · subst h; simp at hj
            · exact h
          have := (had (by omega)).1
          subst this
          rw [add_none]
          have hlt : off + j < arr.size := by omega
          simp [World.cell?, m1, hlt]
        · have hj : j < n * sz' := by have := (List.getElem?_eq_some_iff.1 hv).1; omega
          have hlt : off + j < arr.size := by omega
          rw [List.getElem?_take_of_lt hj, List.getElem?_drop] at hv
          have hx : arr[off + j]? = some (arr.getD (off + j) undef) := by simp [hlt]
          exact (m3 _ _ _ hx hv).2
      · cases hy
    · cases hy
  · cases hy
theorem pure_leaf {v : V} (h : v.pureLeaf = true) : v.leaf = true := by
  cases v <;> first | rfl | (simp [V.pureLeaf] at h)
theorem sl_row (hR : R E w0 I0 nt γ I st a w) {X : Value} {vx : V} {sz : Nat} {ys : List V} (hr : Rep γ I X vx) (hy : slCells st.ob sz vx = some ys) (hp : ys.all V.pureLeaf = true) (hs0 : 0 < sz) :
    (X = .slice none 0 0 ∧ ys = []) ∨ ∃ (ad : Addr) (m c : Nat) (news : List Value), X = .slice (some ad) m c ∧ m ≤ c ∧ ys.length = m * sz ∧ news.length = ys.length ∧ (∀ (j : Nat) (u : Value), news[j]? = some u → w.cell? (ad.add j) = some u) ∧
      (∀ (j : Nat) (x : Value) (v : V), news[j]? = some x → ys[j]? = some v → RepP I x v) ∧ (∀ u ∈ news, u.oneCell' = true) := by
  rcases sl_rowL hR hr hy (List.all_eq_true.2 fun v hv => pure_leaf (List.all_eq_true.1 hp v hv)) hs0 with h | ⟨ad, m, c, news, h1, h2, h3, h4, h5, h6, h7⟩
  · exact .inl h
  · refine .inr ⟨ad, m, c, news, h1, h2, h3, h4, h5, fun j x v hx hv => ?_, h7⟩
    have hp' := List.all_eq_true.1 hp v (List.mem_of_getElem? hv)
    have := pureRep (h6 j x v hx hv) (by rw [strip1_of_pure hp']; exact hp')
    rwa [strip1_of_pure hp'] at this
theorem run_append_room' (t ty e e' : TypeId) (i : TypeInfo) (ht : P.underlying t = some (.slice e)) (hi : P.info? e = some i)
    (g sLen sCap : Nat) (cur : Array Value) (hg : w.heap[g]? = some (.cells cur e' (0, 0)))
    (ad : Addr) (m c : Nat) (news : List Value) (hl : news.length = m * i.size) (hnews : ∀ (j : Nat) (u : Value), news[j]? = some u → w.cell? (ad.add j) = some u) (h1 : ∀ u ∈ news, u.oneCell' = true)
    (hroom : sLen + m ≤ sCap) (hfit : sLen * i.size + news.length ≤ cur.size) :
    (Builtin.append_ #[t, t] ty #[.slice (some ⟨g, 0, none⟩) sLen sCap, .slice (some ad) m c]).run P w =
      .ok (.slice (some ⟨g, 0, none⟩) (sLen + m) sCap) (w.setRow g (cur.toList.take (sLen * i.size) ++ news ++ cur.toList.drop (sLen * i.size + news.length)).toArray) := by
  have hf := run_firstCells_some (P := P) w i.size m ad m c news hl hnews
  have hst := run_storeCells_at P g (sLen * i.size) e' news 0 cur w hg (by simpa using hfit) h1
  simp only [Nat.add_zero] at hst
  simp [Builtin.append_, run_underlying ht, sizeOf, typeInfo, hi, Builtin.lenOf, hroom, hf, Addr.add_lit, hst]
theorem run_append_none (t ty e : TypeId) (i : TypeInfo) (ht : P.underlying t = some (.slice e)) (hi : P.info? e = some i) (ad0 : Option Addr) (sLen sCap : Nat) (hc : sLen ≤ sCap) (X : Value)
    (hX : X = .slice none 0 0 ∨ ∃ ad c, X = .slice (some ad) 0 c) :
    (Builtin.append_ #[t, t] ty #[.slice ad0 sLen sCap, X]).run P w = .ok (.slice ad0 sLen sCap) w := by
  rcases hX with rfl | ⟨ad, c, rfl⟩ <;> cases ad0 <;>
    simp [Builtin.append_, run_underlying ht, sizeOf, typeInfo, hi, Builtin.lenOf, hc, Builtin.firstCells, storeCells, loadCells, loadCellsFrom]
end
section
variable {P : Program} {E : Env} {w0 w : World} {I0 : IMap} {nt : Nat} {γ : Nat → Option Place} {I : IMap} {st : St} {a : Act} {o : Oper} {ub : Nat} {δ : Delta}
theorem append_cells {cs ys : List V} {arr : Array Value} {k : Nat} (hk : cs.length = k) (h1 : ∀ (j : Nat) (v : V), cs[j]? = some v → v.pureLeaf = true ∧ ∃ x, arr[j]? = some x ∧ RepP I x v)
    (h2 : ∀ (j : Nat) (v : V), ys[j]? = some v → v.pureLeaf = true ∧ ∃ x, arr[k + j]? = some x ∧ RepP I x v) :
    ∀ (j : Nat) (v : V), (cs ++ ys)[j]? = some v → v.pureLeaf = true ∧ ∃ x, arr[j]? = some x ∧ RepP I x v := by
  intro j v hv
  by_cases hj : j < k
  · rw [List.getElem?_append_left (by omega)] at hv
    exact h1 j v hv
  · rw [List.getElem?_append_right (by omega)] at hv
    have := h2 _ v hv
    rw [hk] at this
    rwa [show k + (j - k) = j by omega] at this
theorem ok_append (hR : R E w0 I0 nt γ I st a w) (hd : ∀ d, o.dst = some d → d < nt) (hf : γ ub = none) {t e : TypeId} {s x : Operand} {s' x' : A} {i : TypeInfo} {z : Value} (ho : o.op = .call { callee := .builtin .append, args := #[s, x], argTypes := #[t, t] })
    (hs : opd s = some s') (hx : opd x = some x') (hu : P.underlying t = some (.slice e)) (hi : P.info? e = some i) (hz : i.zero = some z) (hs0 : 0 < i.size) (hzs : z.cells.size = i.size)
    (ha : (match eval E st.tm s' with
      | .sl t nl n cs => (slCells st.ob i.size (eval E st.tm x')).bind fun ys =>
        if ys = [] then (if cs.length = n * i.size then one (.sl t nl n cs) else none) else
        if cs.length = n * i.size ∧ 0 < i.size ∧ ys.all V.pureLeaf = true ∧ (n + ys.length / i.size) * i.bytes ≤ 140737488355328 ∧ n + ys.length / i.size ≤ 140737488355328 then
          match t with
          | some (u, z) => if st.tk u = true ∧ z = i.size then some { v := V.sl (some (ub, i.size)) false (n + ys.length / i.size) (cs ++ ys), del := some u, add := [ub] } else none
          | none => if nl then some { v := V.sl (some (ub, i.size)) false (n + ys.length / i.size) (cs ++ ys), add := [ub] } else none
        else none
      | _ => none) = some δ) : OpOk P E w0 I0 nt γ I st a w o ub δ := by
  have hrs := eval_rep hR hs
  have hrx := eval_rep hR hx
  have hexec : ∀ (v : Value) (w' : World), (Builtin.append_ #[t, t] o.type #[a.eval s, a.eval x]).run P w = .ok v w' → (execOp a.eval o).run P w = .ok (.value v) w' := by
    intro v w' h
    simp only [execOp, ho, resolve, Sem.run_bind, Sem.run_pure, Result.andThen_ok, invoke, builtin, List.map_toArray, List.map_cons, List.map_nil, h]
  split at ha
  · rename_i tk nl n cs he
    obtain ⟨ys, hys, ha⟩ := bind_some ha
    split at ha
    · rename_i hnil
      subst hnil
      split at ha
      · rename_i hlen
        -- nothing is appended
        have hX : a.eval x = .slice none 0 0 ∨ ∃ ad c, a.eval x = .slice (some ad) 0 c := by
          rcases sl_row hR hrx hys rfl hs0 with ⟨h, _⟩ | ⟨ad, m, c, news, h, _, hl, _⟩
          · exact .inl h
          · have : m = 0 := by
              simp only [List.length_nil] at hl
              rcases Nat.mul_eq_zero.1 hl.symm with h | h <;> omega
            subst this
            exact .inr ⟨ad, c, h⟩
        rw [he] at hrs
        have hrs' := hrs
        have hS : ∃ ad0 cap, a.eval s = .slice ad0 n cap ∧ n ≤ cap := by
          rcases inv_sl hrs with ⟨h, _, _, rfl, _⟩ | ⟨ad, cap, xs, h, _, _, h2, _⟩
          · exact ⟨none, 0, h, Nat.le_refl _⟩
          · exact ⟨some ad, cap, h, h2⟩
        obtain ⟨ad0, cap, hS, hcap⟩ := hS
        refine val_ok hR hd (x := a.eval s) (hexec _ _ ?_) hrs' ha
        rw [hS]
        exact run_append_none t o.type e i hu hi ad0 n cap hcap _ hX
      · cases ha
    · rename_i hne
      split at ha
      · rename_i hc
        obtain ⟨hlen, _, hp, hby, hmx⟩ := hc
        rcases sl_row hR hrx hys hp hs0 with ⟨_, h⟩ | ⟨ad, m, c, news, hX, hmc, hyl, hnl, hnews, hnr, hn1⟩
        · exact absurd h hne
        · have hm : ys.length / i.size = m := by rw [hyl]; exact Nat.mul_div_cancel _ hs0
          have hm0 : 0 < m := by
            rcases Nat.eq_zero_or_pos m with h | h
            · subst h
              simp only [Nat.zero_mul] at hyl
              exact absurd (List.eq_nil_of_length_eq_zero hyl) hne
            · exact h
          rw [hm] at ha hby hmx
          have hnl' : news.length = m * i.size := by omega
          have hmaxl : n + m ≤ maxLen := by simp only [maxLen]; omega
          have hnsz : (cs ++ ys).length = (n + m) * i.size := by rw [List.length_append, hlen, hyl, Nat.add_mul]
          have hnget : ∀ (j : Nat) (v : V), ys[j]? = some v → ∃ x, news[j]? = some x ∧ v.pureLeaf = true ∧ RepP I x v := by
            intro j v hv
            have hj : j < news.length := by have := (List.getElem?_eq_some_iff.1 hv).1; omega
            exact ⟨_, List.getElem?_eq_getElem hj, List.all_eq_true.1 hp _ (List.mem_of_getElem? hv), hnr j _ v (List.getElem?_eq_getElem hj) hv⟩
          have hnoI : ∀ j y, I w.heap.size j = some y → j < (n + m) * i.size ∧ False := fun j y hy => absurd (World.block_lt_of_cell? _ _ (hR.imm _ _ _ hy)) (Nat.lt_irrefl _)
          -- a new row
          have grown : ∀ (olds : List Value) (old : Nat) (del : Option Nat), old < n + m → olds.length = n * i.size → (∀ (j : Nat) (v : V), cs[j]? = some v → v.pureLeaf = true ∧ ∃ x, olds[j]? = some x ∧ RepP I x v) →
              (Builtin.append_ #[t, t] o.type #[a.eval s, a.eval x]).run P w = .ok (.slice (some ⟨w.heap.size, 0, none⟩) (n + m) (grownCap w (n + m) old e)) (w.drew.alloc (.cells (olds.toArray ++ news.toArray ++ Builtin.zeroCells z.cells (grownCap w (n + m) old e - (n + m))) e)) →
              some { v := V.sl (some (ub, i.size)) false (n + m) (cs ++ ys), del := del, add := [ub] } = some δ → OpOk P E w0 I0 nt γ I st a w o ub δ := by
            intro olds old del hold holdl holds hrun hδ
            have hge := grownCap_ge w (n + m) old e
            have hcm := grownCap_le_maxLen w (n + m) old e hmaxl
            refine tok_ok hR hd hf (b := w.heap.size) (n := n + m) (cap := grownCap w (n + m) old e) (sz := i.size) (cs := cs ++ ys) (del := del) (e := e) (hexec _ _ hrun) (.inl ⟨rfl, by simp⟩) ⟨rfl, rfl, rfl⟩
              (fun k hk _ => heap_alloc_old w.drew _ k hk) (heap_alloc_new w.drew _) ?_ hge hcm (fun j y hy => (hnoI j y hy).2.elim) hnsz ?_ hδ
            · simp only [Array.size_append, List.size_toArray, size_zeroCells, hzs, holdl, hnl', ← Nat.add_mul]
              congr 1
              omega
            · refine append_cells hlen (fun j v hv => ?_) (fun j v hv => ?_)
              · obtain ⟨p, y, hy, hr⟩ := holds j v hv
                refine ⟨p, y, ?_, hr⟩
                have hj : j < olds.length := (List.getElem?_eq_some_iff.1 hy).1
                rw [Array.getElem?_append_left (by simp; omega), Array.getElem?_append_left (by simpa using hj)]
                simpa using hy
              · obtain ⟨y, hy, p, hr⟩ := hnget j v hv
                refine ⟨p, y, ?_, hr⟩
                have hj : j < news.length := (List.getElem?_eq_some_iff.1 hy).1
                rw [Array.getElem?_append_left (by simp; omega), Array.getElem?_append_right (by simp; omega)]
                simp only [List.size_toArray, holdl, Nat.add_sub_cancel_left]
                simpa using hy
          rw [he] at hrs
          split at ha
          · rename_i tu tz _
            split at ha
            · rename_i htk
              have haF := ha
              obtain ⟨htk, hsz⟩ := htk
              subst hsz
              rcases inv_sl hrs with ⟨_, h, _⟩ | ⟨ad0, cap, xs, hS, _, _, hc1, hc2, h3, h4, h5, h6⟩
              · cases h
              · obtain ⟨hγu, had0, hlen'⟩ := h6 tu _ rfl
                obtain ⟨Ω, hown⟩ := hR.own
                obtain ⟨b, n', cap', sz'', k1, k2, k3, ⟨arr, e', g1, g2, g3, g4⟩, k5⟩ := hown.tk tu htk
                rw [hγu] at k1
                simp only [Option.some.injEq, Place.tok.injEq] at k1
                obtain ⟨hb, rfl, rfl, rfl⟩ := k1
                by_cases hroom : n + m ≤ cap
                · have hfit : n * i.size + news.length ≤ arr.size := by rw [hnl', ← Nat.add_mul]; exact Nat.le_trans (Nat.mul_le_mul_right _ hroom) g2
                  have hrun := run_append_room' (P := P) (w := w) t o.type e e' i hu hi b n cap arr g1 ad m c news hnl' hnews hn1 hroom hfit
                  rw [← hb] at g1 hrun k5
                  rw [had0] at hS
                  refine tok_ok' hR hd hf (b := ad0.block) (n := n + m) (cap := cap) (sz := i.size) (cs := cs ++ ys) (w' := w.setRow ad0.block _) (del := some tu) (e := e') (hexec _ _ (by rw [hS, hX]; exact hrun)) (.inr ⟨tu, n, cap, i.size, htk, hγu, rfl, by simp⟩) ⟨rfl, rfl, rfl⟩
                    (fun k _ hk => setRow_other w _ k _ hk) (setRow_heap w _ arr _ e' _ g1) ?_ hroom hc2 (fun j y hy => ?_) hnsz ?_ haF
                  · simp only [List.size_toArray, List.length_append, List.length_take, List.length_drop, Array.length_toList]
                    omega
                  · have hj : j < n * i.size := by
                      rcases Nat.lt_or_ge j (n * i.size) with h | h
                      · exact h
                      · rw [k5 j h] at hy; cases hy
                    have hcell := hR.imm _ _ _ hy
                    simp only [World.cell?, g1, Option.isSome_none, Bool.false_eq_true, if_false] at hcell
                    refine ⟨by rw [Nat.add_mul]; omega, ?_⟩
                    simp only [List.getElem?_toArray]
                    rw [List.append_assoc, List.getElem?_append_left (by simp only [List.length_take, Array.length_toList]; omega), List.getElem?_take_of_lt hj]
                    simpa using hcell
                  · refine append_cells hlen (fun j v hv => ?_) (fun j v hv => ?_)
                    · have hj : j < cs.length := (List.getElem?_eq_some_iff.1 hv).1
                      refine ⟨h4 j v hv, xs j, ?_, h5 j v hv⟩
                      have hcell := hR.imm _ _ _ (h3 j hj)
                      rw [had0] at hcell
                      simp only [World.cell?, g1, Option.isSome_none, Bool.false_eq_true, if_false, Nat.zero_add] at hcell
                      simp only [List.getElem?_toArray]
                      rw [List.append_assoc, List.getElem?_append_left (by simp only [List.length_take, Array.length_toList]; omega), List.getElem?_take_of_lt (by omega)]
                      simpa using hcell
                    · obtain ⟨y, hy, p, hr⟩ := hnget j v hv
                      refine ⟨p, y, ?_, hr⟩
                      have hj : j < news.length := (List.getElem?_eq_some_iff.1 hy).1
                      simp only [List.getElem?_toArray]
                      rw [List.getElem?_append_left (by simp only [List.length_append, List.length_take, Array.length_toList]; omega), List.getElem?_append_right (by simp only [List.length_take, Array.length_toList]; omega)]
                      have hq : n * i.size + j - (List.take (n * i.size) arr.toList).length = j := by simp only [List.length_take, Array.length_toList]; omega
                      rw [hq]
                      exact hy
                · have holds : ∀ (j : Nat) (v : Value), ((List.range cs.length).map xs)[j]? = some v → w.cell? (ad0.add j) = some v := by
                    intro j v hv
                    simp only [List.getElem?_map, Option.map_eq_some_iff] at hv
                    obtain ⟨k, hk, rfl⟩ := hv
                    have hj : j < cs.length := by have := (List.getElem?_eq_some_iff.1 hk).1; simpa using this
                    rw [List.getElem?_range hj] at hk
                    cases hk
                    rw [had0, add_none, Nat.zero_add]
                    have := hR.imm _ _ _ (h3 j hj)
                    rw [had0] at this
                    simpa using this
                  have hol : ((List.range cs.length).map xs).length = n * i.size := by simpa using hlen
                  have hrun := run_append_grow (P := P) w t o.type e i z hu hi hz ad0 n cap _ hol holds ad m c news hnl' hnews (by omega) (by omega) (growslice_fits (by omega) hby)
                  refine grown _ cap (some tu) (by omega) hol (fun j v hv => ⟨h4 j v hv, xs j, ?_, h5 j v hv⟩) (by rw [hS, hX]; exact hrun) haF
                  have hj : j < cs.length := (List.getElem?_eq_some_iff.1 hv).1
                  simp [hj]
            · cases ha
          · split at ha
            · rename_i hnil
              rcases inv_sl hrs with ⟨hS, _, _, rfl, rfl⟩ | ⟨_, _, _, _, h, _⟩
              · have h48 : m * i.bytes ≤ 281474976710656 := by simp only [Nat.zero_add] at hby; omega
                have hrun := run_append_nil (P := P) w t o.type e i z hu hi hz ad m c news hnl' hnews hm0 (by omega) h48
                refine grown [] 0 none (by omega) (by simp) (fun j v hv => by simp at hv) ?_ ha
                rw [hS, hX, Nat.zero_add, hrun]
                simp
              · subst h; cases hnil
            · cases ha
      · cases ha
  · cases ha
end
end Go.Pv
