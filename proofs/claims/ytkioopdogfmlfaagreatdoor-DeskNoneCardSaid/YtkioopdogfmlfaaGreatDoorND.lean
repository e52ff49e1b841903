/- Part of the proof. -/
import Derived.Test.YtkioopdogfmlfaaGreatDoorNC
import Derived.Lib.Builder
import Derived.Lib.UnsafeStr
import Derived.Laws.BytesArg
import Derived.OrdersIn
import Derived.TacticsIn
import Derived.LoopNIn
import Derived.RangeFuncRecord
import Derived.Sort.Grow
set_option maxRecDepth 100000
set_option maxHeartbeats 8000000
set_option linter.all false
namespace Go.Pv
open Go
theorem byteOf_inv {v : V} {b : UInt8} (h : byteOf v = some b) : v = byteV b := by
  cases v with
  | int k n =>
    cases k <;> simp only [byteOf, reduceCtorEq] at h
    simp only [Option.ite_none_right_eq_some, Option.some.injEq] at h
    obtain ⟨⟨h0, h1⟩, rfl⟩ := h
    obtain ⟨m, rfl⟩ : ∃ m : Nat, n = m := ⟨n.toNat, by omega⟩
    have h2 : m < 256 := by omega
    simp only [byteV, Int.toNat_natCast]
    congr 2
    show m = (UInt8.ofNat m).toNat
    rw [UInt8.toNat_ofNat']
    omega
  | _ => cases h
theorem bytesOf_inv : ∀ {cs : List V} {bs : List UInt8}, cs.mapM byteOf = some bs → cs = bs.map byteV
  | [], bs, h => by simp at h; subst h; rfl
  | v :: cs, bs, h => by
    simp only [List.mapM_cons] at h
    cases hv : byteOf v with
    | none => simp [hv] at h
    | some b =>
      cases hc : cs.mapM byteOf with
      | none => simp [hv, hc] at h
      | some r =>
        simp [hv, hc] at h
        subst h
        rw [bytesOf_inv hc, byteOf_inv hv]
        rfl
theorem rowAt_up {P : Program} {f : TypeId → Bool} : ∀ {d : Nat} {t : TypeId} {c : Nat}, rowAt P f d t 1 0 1 = true → 1 ≤ c → rowAt P f d t c 0 1 = true
  | 0, _, _, h, _ => by cases h
  | d + 1, t, c, h, hc => by
    unfold rowAt at h ⊢
    by_cases hs : P.cellsOf t = 0
    · simp [hs] at h
    · have h1 : 0 < c := hc
      simp only [hs, if_false, Nat.zero_div, Nat.zero_mod, Nat.zero_add, Nat.le_refl, decide_true, Bool.and_true, beq_self_eq_true, Bool.true_and, Nat.zero_lt_one, hc, h1] at h ⊢
      exact h
theorem seenAs_lies {P : Program} {u t : TypeId} (h : t ∈ seenAs P u) {n : Nat} (hn : 2 ≤ n) : liesAt P P.depth t (n / P.cellsOf t) 0 u 1 = true := by
  unfold seenAs at h
  have h := (List.mem_filter.1 h).2
  simp only [Bool.and_eq_true] at h
  obtain ⟨⟨_, h1⟩, h2⟩ := h
  have h2 := Nat.eq_of_beq_eq_true h2
  have hd : P.depth = (2 * (P.types.size + Made.depth) + 1) + 1 := rfl
  have h3 := rowAt_up (c := n / P.cellsOf t) h1 (by rw [h2]; omega)
  rw [hd]
  simp only [liesAt, Bool.or_eq_true]
  left
  exact h3
section
variable {P : Program} {E : Env} {w0 w : World} {I0 : IMap} {nt : Nat} {γ : Nat → Option Place} {I : IMap} {st : St} {a : Act} {o : Oper} {ub : Nat} {δ : Delta}
theorem ok_allocT (hR : R E w0 I0 nt γ I st a w) (hd : ∀ d, o.dst = some d → d < nt) (hf : γ ub = none) {e : TypeId} {zs : List V} {d : Nat} (ho : o.op = .alloc e) (hz : zeroOf P e = some zs)
    (ha : mkObj d ub (.tcells e zs) (.ptr d ub 0) = some δ) : OpOk P E w0 I0 nt γ I st a w o ub δ := by
  obtain ⟨i, z, hi, hz1, hlen, hcells⟩ := zeroOf_inv (I := I) hz
  refine alloc_ok hR hd hf (x := .pointer (some ⟨w.heap.size, 0, none⟩)) (obj := .cells z.cells e) (k := .n z.cells.size) ?_ rfl (fun γ' h => .ptr _ _ _ _ _ h) ?_ ha
  · simp only [execOp, ho, Instr.alloc, Sem.run_bind, run_zeroValue hi hz1, Result.andThen_ok]
    simp [newVar, newRow]
  · exact ⟨z.cells, rfl, rfl, Nat.le_of_eq hlen, fun j x v hx hv => ⟨(hcells j x v hx hv).1, .pure _ _ (hcells j x v hx hv).2⟩⟩
theorem ok_boxT (hR : R E w0 I0 nt γ I st a w) (hd : ∀ d, o.dst = some d → d < nt) (hf : γ ub = none) {e : TypeId} {x : Operand} {x' : A} {n d : Nat} (ho : o.op = .box e x) (hx : opd x = some x')
    (ha : (if (eval E st.tm x').cells.length = n ∧ (eval E st.tm x').cells.all V.leaf = true then mkObj d ub (.tcells e (eval E st.tm x').cells) (.ptr d ub 0) else none) = some δ) : OpOk P E w0 I0 nt γ I st a w o ub δ := by
  split at ha
  · rename_i h
    have hr := eval_rep hR hx
    obtain ⟨h1, h2⟩ := cells_rep hr h.2
    refine alloc_ok hR hd hf (x := .pointer (some ⟨w.heap.size, 0, none⟩)) (obj := .cells (a.eval x).cells e) (k := .n (a.eval x).cells.size) ?_ rfl (fun γ' h => .ptr _ _ _ _ _ h) ?_ ha
    · simp [execOp, ho, Instr.box, newVar, newRow]
    · exact ⟨_, rfl, rfl, Nat.le_of_eq h1.symm, h2⟩
  · cases ha
theorem ok_toUp (hR : R E w0 I0 nt γ I st a w) (hd : ∀ d, o.dst = some d → d < nt) {s t e : TypeId} {n : Nat} {x : Operand} {x' : A} (ho : o.op = .convert s t x) (hx : opd x = some x') (hs : P.underlying s = some (.pointer e)) (hu : P.underlying t = some .unsafePointer) (hn : szOf P e = some (n + 1))
    (ha : (match eval E st.tm x' with
      | .ptr l u off => (objCells st.ob l u).bind fun cs => if off < cs.length then one (.ptr l u off) else none
      | _ => none) = some δ) : OpOk P E w0 I0 nt γ I st a w o ub δ := by
  have hr := eval_rep hR hx
  split at ha
  · rename_i l u off he
    rw [he] at hr
    have hr' := hr
    obtain ⟨b, k, hγ, hX⟩ := inv_ptr hr
    obtain ⟨cs, hcs, ha⟩ := bind_some ha
    simp only [Option.ite_none_right_eq_some] at ha
    obtain ⟨hlt, hδ⟩ := ha
    obtain ⟨B, hob, hB⟩ := objCells_inv hcs
    obtain ⟨arr, e', m1, m2, m4, _⟩ := obj_row hR hob hB hγ
    obtain ⟨j, hj, hjs⟩ := map_some hn
    refine val_ok hR hd (x := a.eval x) ?_ hr' hδ
    have hrun := Lib.run_to_unsafe (P := P) w (src := s) (dst := t) (e := e') (cells := arr.size) ⟨b, off, none⟩ hs hu hj (by omega) (by simp [World.shape?, m1]) (by show off < arr.size; omega)
    simp only [execOp, ho, hX, Sem.run_bind, hrun, Result.andThen_ok, Sem.run_pure]
  · cases ha
theorem ok_ofUp (hR : R E w0 I0 nt γ I st a w) (hd : ∀ d, o.dst = some d → d < nt) {s t e : TypeId} {n : Nat} {x : Operand} {x' : A} (ho : o.op = .convert s t x) (hx : opd x = some x') (hs : P.underlying s = some .unsafePointer) (hu : P.underlying t = some (.pointer e)) (hn : szOf P e = some (n + 1))
    (ha : (match eval E st.tm x' with
      | .ptr l u 0 => (objT st.ob l u).bind fun r => if (seenAs P e).any (Nat.beq r.1) = true ∧ 2 ≤ r.2.length then one (.ptr l u 0) else none
      | _ => none) = some δ) : OpOk P E w0 I0 nt γ I st a w o ub δ := by
  have hr := eval_rep hR hx
  split at ha
  · rename_i l u he
    rw [he] at hr
    have hr' := hr
    obtain ⟨b, k, hγ, hX⟩ := inv_ptr hr
    obtain ⟨⟨te, cs⟩, hcs, ha⟩ := bind_some ha
    simp only [Option.ite_none_right_eq_some] at ha
    obtain ⟨⟨hmem, h2⟩, hδ⟩ := ha
    have hob : st.ob l = some ⟨u, .tcells te cs⟩ := objT_inv hcs
    obtain ⟨Ω, hown⟩ := hR.own
    obtain ⟨b', k', k1, _, _, ⟨arr, m1, m2, m4, _⟩, _⟩ := hown.ob l _ hob
    rw [hγ] at k1
    cases k1
    obtain ⟨q, hq, hqe⟩ := List.any_eq_true.1 hmem
    have e1 : te = q := Nat.eq_of_beq_eq_true hqe
    subst e1
    obtain ⟨j, hj, hjs⟩ := map_some hn
    have hlies := seenAs_lies (P := P) hq (n := arr.size) (by have h3 : 2 ≤ cs.length := h2; omega)
    refine val_ok hR hd (x := a.eval x) ?_ hr' hδ
    have hrun := Lib.run_from_unsafe (P := P) w (src := s) (dst := t) (cells := arr.size) ⟨b, 0, none⟩ hs hu hj (by simp [World.shape?, m1]) hlies
    simp only [execOp, ho, hX, Sem.run_bind, hrun, Result.andThen_ok, Sem.run_pure]
  · cases ha
theorem ok_strOfBytes (hR : R E w0 I0 nt γ I st a w) (hd : ∀ d, o.dst = some d → d < nt) {s t e : TypeId} {x : Operand} {x' : A} (ho : o.op = .convert s t x) (hx : opd x = some x') (hs : P.underlying s = some (.slice e)) (hu : P.underlying t = some .string)
    (he : P.underlying e = some (.int .u8))
    (ha : ((slCells st.ob 1 (eval E st.tm x')).bind fun cs => (cs.mapM byteOf).bind fun bs => one (.str bs)) = some δ) : OpOk P E w0 I0 nt γ I st a w o ub δ := by
  have hr := eval_rep hR hx
  obtain ⟨cs, hcs, ha⟩ := bind_some ha
  obtain ⟨bs, hbs, hδ⟩ := bind_some ha
  have hc := bytesOf_inv hbs
  subst hc
  have hleaf : (bs.map byteV).all V.leaf = true := by simp [byteV, V.leaf]
  have hconv : (convert s t (a.eval x)).run P w = .ok (.string ⟨bs.toArray⟩) w := by
    rcases sl_rowL hR hr hcs hleaf (by decide) with ⟨h, h0⟩ | ⟨ad, m, c, news, h, hmc, hl, hnl, hnews, hnr, _⟩
    · have : bs = [] := by simpa using h0
      subst this
      rw [h, run_convert_bytes_nil w s e hs he 0 0 t hu]
      rfl
    · have hm : m = bs.length := by simpa using hl.symm
      subst hm
      rw [h]
      refine run_convert_bytes_back w s t e ad c bs hs he hu (fun j hj => ?_)
      have hj' : j < news.length := by rw [hnl]; simpa using hj
      have h1 := hnews j _ (List.getElem?_eq_getElem hj')
      have h2 := hnr j _ _ (List.getElem?_eq_getElem hj') (show (bs.map byteV)[j]? = some (byteV bs[j]) by simp [hj])
      have h3 := inv_int (show Rep γ I news[j] (.int .u8 bs[j].toNat) from h2)
      rw [h1, h3]
  refine val_ok hR hd (x := .string ⟨bs.toArray⟩) ?_ (.pure _ _ (.str _)) hδ
  simp only [execOp, ho, Sem.run_bind, hconv, Result.andThen_ok, Sem.run_pure]
theorem ok_slData (hR : R E w0 I0 nt γ I st a w) (hd : ∀ d, o.dst = some d → d < nt) {x : Operand} {x' : A} {ats : Array TypeId} (ho : o.op = .call { callee := .builtin .unsafeSliceData, args := #[x], argTypes := ats }) (hx : opd x = some x')
    (ha : (match eval E st.tm x' with
      | .sl none true 0 [] => one .nilptr
      | .osl l u off n _ => if 0 < n then one (.ptr l u off) else none
      | _ => none) = some δ) : OpOk P E w0 I0 nt γ I st a w o ub δ := by
  have hr := eval_rep hR hx
  have hexec : ∀ (v : Value), (Builtin.unsafeSliceData_ ats o.type #[a.eval x]).run P w = .ok v w → (execOp a.eval o).run P w = .ok (.value v) w := by
    intro v h
    simp only [execOp, ho, resolve, Sem.run_bind, Sem.run_pure, Result.andThen_ok, invoke, builtin, List.map_toArray, List.map_cons, List.map_nil, h]
  split at ha
  · rename_i he
    rw [he] at hr
    rcases inv_sl hr with ⟨h, _⟩ | ⟨_, _, _, _, h, _⟩
    · refine val_ok hR hd (x := .pointer none) (hexec _ ?_) (.pure _ _ .nilptr) ha
      rw [h]
      exact Lib.run_unsafeSliceData_nil w ats o.type 0 0
    · cases h
  · rename_i l u off n sz he
    rw [he] at hr
    obtain ⟨b, k, ad, cap, hγ, hX, had, hc, hm⟩ := inv_osl hr
    simp only [Option.ite_none_right_eq_some] at ha
    obtain ⟨hn, hδ⟩ := ha
    obtain ⟨rfl, _⟩ := had (by omega)
    refine val_ok hR hd (x := .pointer (some ⟨b, off, none⟩)) (hexec _ ?_) (.ptr _ _ _ _ _ hγ) hδ
    rw [hX]
    exact Lib.run_unsafeSliceData_row w ats o.type _ n cap (by omega)
  · cases ha
/-- An object is no more, and its block is turned. -/
theorem kill_ok (hR : R E w0 I0 nt γ I st a w) (hd : ∀ d, o.dst = some d → d < nt) {l u b : Nat} {k : Kd} {B : OBody} {x : Value} {v : V} {w' : World}
    (hrun : (execOp a.eval o).run P w = .ok (.value x) w') (hl : st.ob l = some ⟨u, B⟩) (hu : γ u = some (.obj b k)) (hro : Nat.ble st.ro u = true)
    (hos : w'.os = w.os ∧ w'.tape = w.tape ∧ w'.output = w.output) (hsz : w'.heap.size = w.heap.size) (hk : ∀ k, k ≠ b → w'.heap[k]? = w.heap[k]?)
    (hx : Rep γ I x v) (hδ : some { v := v, kill := [l] } = some δ) : OpOk P E w0 I0 nt γ I st a w o ub δ := by
  simp only [Option.some.injEq] at hδ
  subst hδ
  obtain ⟨Ω, ho⟩ := hR.own
  obtain ⟨b0, k0, h1, h2, h3, _, h5⟩ := ho.ob l _ hl
  rw [hu] at h1
  cases h1
  have hB : w0.heap.size ≤ b := h3 (by simpa [Nat.ble_eq] using hro)
  have hob : (st.app o.dst { v := v, kill := [l] }).ob = fun k => if [l].any (Nat.beq k) then none else st.ob k := by
    simp only [St.app, setObs]
  have hlive : ∀ l' y, (if [l].any (Nat.beq l') then none else st.ob l') = some y → st.ob l' = some y ∧ l' ≠ l := by
    intro l' y hy
    split at hy
    · cases hy
    · rename_i h
      exact ⟨hy, fun e => h (by subst e; simp [Nat.beq_refl])⟩
  have hneb : ∀ b' ow, Ω b' = some ow → ow ≠ .ob l → b' ≠ b := by
    intro b' ow q1 q2 e
    subst e
    rw [h2] at q1
    cases q1
    exact q2 rfl
  have hkeep : MapsKeep γ st.ob (fun k => if [l].any (Nat.beq k) then none else st.ob k) w.heap w'.heap := by
    intro l2 u2 ver' es' mb mk hu2 hl2
    obtain ⟨hl2, hne⟩ := hlive l2 _ hl2
    refine .inl ⟨hl2, fun m c hm2 => ?_⟩
    obtain ⟨b2, k2', q1, q2, _⟩ := ho.ob l2 _ hl2
    rw [hu2] at q1
    cases q1
    rw [hk mb (hneb mb _ q2 (fun e => hne (by cases e; rfl)))]
    exact hm2
  refine ⟨x, w', γ, I, .inl hrun, ⟨(put_size _ _ _).trans hR.sz, df_put hR (fun _ _ h => h) _ _, ?_, ⟨?_, hR.gl, ⟨Ω, ⟨?_, ?_, ?_⟩⟩, ?_, hR.old⟩⟩, fun _ _ => rfl, fun _ _ h => h, fun _ _ _ h => h⟩
  · exact rep_put (by rw [hR.sz]; exact hd) hR.tm hx
  · intro b' j y hy
    have hne : b' ≠ b := fun h => by rw [h, h5] at hy; cases hy
    have hc := hR.imm _ _ _ hy
    rw [World.cell?_of_block (w := w) (w' := w') (a := ⟨b', j, none⟩) (hk b' hne)]
    exact hc
  · intro l' ob hl'
    rw [hob] at hl' ⊢
    obtain ⟨hl', hne⟩ := hlive l' _ hl'
    obtain ⟨b', k', k1, k2, k3, k4, k5⟩ := ho.ob l' ob hl'
    refine ⟨b', k', k1, k2, k3, ?_, k5⟩
    rw [hk b' (hneb b' _ k2 (fun e => hne (by cases e; rfl)))]
    exact k4.keep hkeep
  · intro u' hu'
    have hu' : st.tk u' = true := by simpa [St.app, setToks, setObs] using hu'
    obtain ⟨b', n', c', s', k1, k2, k3, k4, k5⟩ := ho.tk u' hu'
    refine ⟨b', n', c', s', k1, k2, k3, ?_, k5⟩
    rw [hk b' (hneb b' _ k2 (fun e => by cases e))]
    exact k4
  · intro b' ow hb'
    rw [hsz]
    exact ho.lt b' ow hb'
  · exact Grow.frame hR.fr (T := fun k => k = b) ⟨hos.1, hos.2.1, hos.2.2, Nat.le_of_eq hsz.symm, fun k _ hne => hk k hne, fun k hk' => hk' ▸ hB⟩
theorem ok_uStr (hR : R E w0 I0 nt γ I st a w) (hd : ∀ d, o.dst = some d → d < nt) {x y : Operand} {x' y' : A} {pt it e : TypeId} (ho : o.op = .call { callee := .builtin .unsafeString, args := #[x, y], argTypes := #[pt, it] }) (hx : opd x = some x') (hy : opd y = some y')
    (hp : P.underlying pt = some (.pointer e)) (hc1 : P.cellsOf e = 1)
    (ha : (match eval E st.tm x', eval E st.tm y' with
      | .nilptr, .int .i64 0 => one (.str [])
      | .ptr l u 0, .int .i64 n => (objT st.ob l u).bind fun r => if r.1 = e ∧ Nat.ble st.ro u = true ∧ 0 < n ∧ n ≤ r.2.length ∧ n ≤ 9223372036854775807 then
          ((r.2.take n.toNat).mapM byteOf).bind fun bs => some { v := .str bs, kill := [l] } else none
      | _, _ => none) = some δ) : OpOk P E w0 I0 nt γ I st a w o ub δ := by
  have hr := eval_rep hR hx
  have hr2 := eval_rep hR hy
  have hexec : ∀ (v : Value) (w' : World), (Builtin.unsafeString_ #[pt, it] o.type #[a.eval x, a.eval y]).run P w = .ok v w' → (execOp a.eval o).run P w = .ok (.value v) w' := by
    intro v w' h
    simp only [execOp, ho, resolve, Sem.run_bind, Sem.run_pure, Result.andThen_ok, invoke, builtin, List.map_toArray, List.map_cons, List.map_nil, h]
  split at ha
  · rename_i h1 h2
    rw [h1] at hr
    rw [h2] at hr2
    refine val_ok hR hd (x := .string .empty) (hexec _ _ ?_) (.pure _ _ (.str _)) ha
    rw [inv_nilptr hr, inv_int hr2]
    exact Lib.run_unsafeString_none w pt it o.type none
  · rename_i l u n h1 h2
    rw [h1] at hr
    rw [h2] at hr2
    obtain ⟨b, k, hγ, hX⟩ := inv_ptr hr
    have hY := inv_int hr2
    obtain ⟨⟨te, cs⟩, hcs, hb0⟩ := bind_some ha
    clear ha
    simp only [Option.ite_none_right_eq_some] at hb0
    obtain ⟨⟨rfl, hro, hn0, hnl, hmx⟩, hb1⟩ := hb0
    obtain ⟨bs, hbs, hδ⟩ := bind_some hb1
    have hb := bytesOf_inv hbs
    have hob : st.ob l = some ⟨u, .tcells te cs⟩ := objT_inv hcs
    obtain ⟨Ω, hown⟩ := hR.own
    obtain ⟨b', k', k1, _, _, ⟨arr, m1, m2, m4, m3⟩, _⟩ := hown.ob l _ hob
    rw [hγ] at k1
    cases k1
    have hlen : bs.length = n.toNat := by
      have := congrArg List.length hb
      rw [List.length_take, List.length_map] at this
      omega
    have hnb : n = (bs.length : Int) := by omega
    have hcell : ∀ j y, bs[j]? = some y → w.cell? ((⟨b, 0, none⟩ : Addr).add j) = some (.int .u8 y.toNat) := by
      intro j y hj
      have hjl := (List.getElem?_eq_some_iff.1 hj).1
      have hja : j < arr.size := by omega
      have h3 : cs[j]? = some (byteV y) := by
        have : (cs.take n.toNat)[j]? = some (byteV y) := by rw [hb]; simp [hj]
        rwa [List.getElem?_take_of_lt (by omega)] at this
      have h4 := inv_int (show Rep γ I arr[j] (.int .u8 y.toNat) from (m3 j _ _ (Array.getElem?_eq_getElem hja) h3).2)
      rw [add_none, Nat.zero_add]
      simp [World.cell?, m1, hja, h4]
    have hrun := Lib.run_unsafeString_row (P := P) w pt it o.type te hp hc1 b arr.size (by simp [World.shape?, m1]) bs (fun e => by rw [e] at hlen; simp at hlen; omega) (by omega) (by omega) hcell
    have hfz : ∀ k, k ≠ b → (w.freeze ⟨b, 0, none⟩ bs.length).heap[k]? = w.heap[k]? := by
      intro k hk
      unfold World.freeze
      split
      · rfl
      · simp only [Array.getElem?_modify]
        rw [if_neg (fun e => hk e.symm)]
    have hfs : (w.freeze ⟨b, 0, none⟩ bs.length).os = w.os ∧ (w.freeze ⟨b, 0, none⟩ bs.length).tape = w.tape ∧ (w.freeze ⟨b, 0, none⟩ bs.length).output = w.output ∧ (w.freeze ⟨b, 0, none⟩ bs.length).heap.size = w.heap.size := by
      unfold World.freeze
      split <;> simp
    exact kill_ok hR hd (hexec _ _ (by rw [hX, hY, hnb]; exact hrun)) hob hγ hro ⟨hfs.1, hfs.2.1, hfs.2.2.1⟩ hfs.2.2.2 hfz (.pure _ _ (.str _)) hδ
  · cases ha
theorem byteCells_eq (s : ByteArray) : ∀ (j : Nat) (x : Value) (v : V), (Lib.strCells s)[j]? = some x → (s.data.toList.map byteV)[j]? = some v → v.leaf = true ∧ Rep γ I x v := by
  intro j x v hx hv
  simp only [Lib.strCells, List.getElem?_map, Option.map_eq_some_iff] at hx hv
  obtain ⟨b, hb, rfl⟩ := hx
  obtain ⟨b', hb', rfl⟩ := hv
  rw [hb] at hb'
  cases hb'
  exact ⟨rfl, .pure _ _ (.int _ _)⟩
theorem ok_appS (hR : R E w0 I0 nt γ I st a w) (hd : ∀ d, o.dst = some d → d < nt) (hf : γ ub = none) {t u' e : TypeId} {s x : Operand} {s' x' : A} {i : TypeInfo} {d : Nat} (ho : o.op = .call { callee := .builtin .append, args := #[s, x], argTypes := #[t, u'] })
    (hs : opd s = some s') (hx : opd x = some x') (ht : P.underlying t = some (.slice e)) (hu' : P.underlying u' = some .string) (hi : P.info? e = some i) (hz : i.zero = some (.int .u8 0)) (hs1 : i.size = 1) (hb1 : i.bytes = 1)
    (ha : (match eval E st.tm x' with
      | .str bs => match eval E st.tm s' with
        | .sl none true 0 [] => if bs = [] then one (.sl none true 0 []) else
            if bs.length ≤ 140737488355328 then mkObj d ub (.tcells e (bs.map byteV)) (.osl d ub 0 bs.length 1) else none
        | .osl l u off n sz => (objT st.ob l u).bind fun r =>
            if r.1 = e ∧ Nat.ble st.ro u = true ∧ sz = 1 ∧ off = 0 ∧ n ≤ r.2.length ∧ n + bs.length ≤ 140737488355328 ∧ 0 < n + bs.length then
              some { v := .osl d ub 0 (n + bs.length) 1, obs := [(d, ⟨ub, .tcells e (r.2.take n ++ bs.map byteV)⟩)], kill := [l] } else none
        | _ => none
      | _ => none) = some δ) : OpOk P E w0 I0 nt γ I st a w o ub δ := by
  have hrs := eval_rep hR hs
  have hrx := eval_rep hR hx
  have hexec : ∀ (v : Value) (w' : World), (Builtin.append_ #[t, u'] o.type #[a.eval s, a.eval x]).run P w = .ok v w' → (execOp a.eval o).run P w = .ok (.value v) w' := by
    intro v w' h
    simp only [execOp, ho, resolve, Sem.run_bind, Sem.run_pure, Result.andThen_ok, invoke, builtin, List.map_toArray, List.map_cons, List.map_nil, h]
  split at ha
  case h_2 => cases ha
  rename_i bs hbs
  rw [hbs] at hrx
  obtain ⟨S, hX, rfl⟩ := inv_str hrx
  have hSl : S.data.toList.length = S.size := by rw [Array.length_toList]; rfl
  -- a new row
  have grown : ∀ (olds : List Value) (cs : List V) (n old : Nat) (kill : List Nat), olds.length = n → cs.length = n → n + S.size ≤ 140737488355328 →
      (∀ (j : Nat) (x : Value) (v : V), olds[j]? = some x → cs[j]? = some v → v.leaf = true ∧ Rep γ I x v) →
      (Builtin.append_ #[t, u'] o.type #[a.eval s, a.eval x]).run P w = .ok (.slice (some ⟨w.heap.size, 0, none⟩) (n + S.size) (grownCap w (n + S.size) old e)) (w.drew.alloc (.cells (olds.toArray ++ (Lib.strCells S).toArray ++ Builtin.zeroCells (Value.int .u8 0).cells (grownCap w (n + S.size) old e - (n + S.size))) e)) →
      some { v := V.osl d ub 0 (n + S.size) 1, obs := [(d, ⟨ub, .tcells e (cs ++ S.data.toList.map byteV)⟩)], kill := kill } = some δ → OpOk P E w0 I0 nt γ I st a w o ub δ := by
    intro olds cs n old kill holdl hcl hmx holds hrun hδ
    have hge := grownCap_ge w (n + S.size) old e
    have hcm := grownCap_le_maxLen w (n + S.size) old e (by simp only [maxLen]; omega)
    have hz1 : (Value.int IntKind.u8 0).cells.size = 1 := rfl
    have hsz : (olds.toArray ++ (Lib.strCells S).toArray ++ Builtin.zeroCells (Value.int .u8 0).cells (grownCap w (n + S.size) old e - (n + S.size))).size = grownCap w (n + S.size) old e := by
      simp only [Array.size_append, List.size_toArray, size_zeroCells, hz1, holdl, Lib.strCells_length]
      omega
    refine obj_okB hR hd hf (b := w.heap.size) (k := .n (grownCap w (n + S.size) old e)) (hexec _ _ hrun) (.inl ⟨rfl, by simp⟩) ⟨rfl, rfl, rfl⟩ (fun k hk _ => heap_alloc_old w.drew _ k hk)
      (fun γ' h => .osl _ _ _ _ _ _ _ _ _ h (fun _ => ⟨rfl, by rw [Nat.zero_add, Nat.mul_one]; exact Nat.le_refl _⟩) hge hcm) (by simp) (fun _ _ h => by cases h) ?_ hδ
    refine ⟨_, heap_alloc_new w.drew _, hsz, ?_, ?_⟩
    · show (cs ++ S.data.toList.map byteV).length ≤ grownCap w (n + S.size) old e
      rw [List.length_append, List.length_map, hcl, hSl]
      exact hge
    · refine append_cellsL hcl (fun j x v hx hv => ?_) (fun j x v hx hv => ?_)
      · have hj : j < olds.length := by have := (List.getElem?_eq_some_iff.1 hv).1; omega
        rw [Array.getElem?_append_left (by simp; omega), Array.getElem?_append_left (by simpa using hj)] at hx
        exact holds j x v (by simpa using hx) hv
      · have hj : j < (Lib.strCells S).length := by have := (List.getElem?_eq_some_iff.1 hv).1; rw [List.length_map, hSl] at this; rw [Lib.strCells_length]; exact this
        rw [Array.getElem?_append_left (by simp; omega), Array.getElem?_append_right (by simp; omega)] at hx
        simp only [List.size_toArray, holdl, Nat.add_sub_cancel_left] at hx
        exact byteCells_eq S j x v (by simpa using hx) hv
  split at ha
  · rename_i hev
    rw [hev] at hrs
    have hS : a.eval s = .slice none 0 0 := by
      rcases inv_sl hrs with ⟨h, _⟩ | ⟨_, _, _, _, h, _⟩
      · exact h
      · cases h
    split at ha
    · rename_i hnil
      have hm : S.size = 0 := by rw [← hSl, hnil]; rfl
      refine val_ok hR hd (x := .slice none 0 0) (hexec _ _ ?_) (.pure _ _ .slnil) ha
      have hfc := Lib.run_firstCells_string (P := P) w 1 S
      rw [hm] at hfc
      rw [hS, hX]
      have hn : Lib.strCells S = [] := List.eq_nil_of_length_eq_zero (by rw [Lib.strCells_length]; exact hm)
      rw [hn] at hfc
      simp [Builtin.append_, run_underlying ht, run_underlying hu', sizeOf, typeInfo, hi, hs1, Builtin.lenOf, hm, hfc]
    · rename_i hnil
      simp only [Option.ite_none_right_eq_some] at ha
      obtain ⟨hmx, hδ⟩ := ha
      have hm : 0 < S.size := by
        rcases Nat.eq_zero_or_pos S.size with h | h
        · exact absurd (List.eq_nil_of_length_eq_zero (hSl.trans h)) hnil
        · exact h
      have hr := run_append_nil_string (P := P) w t u' o.type e i (.int .u8 0) ht hu' hi hz S hm (by omega) (by rw [hb1]; omega)
      have e1 : (S.data.map fun b => Value.int .u8 b.toNat) = (Lib.strCells S).toArray := by
        apply Array.ext'
        simp [Lib.strCells]
      rw [e1] at hr
      refine grown [] [] 0 0 [] rfl rfl (by omega) (fun j x v hx => by simp at hx) ?_ ?_
      · rw [hS, hX, Nat.zero_add, hr]; simp
      · rw [← hδ, hSl]
        simp [mkObj]
  · rename_i l u off n sz hev
    rw [hev] at hrs
    obtain ⟨b, kb, ad0, cap, hγ, hS, had, hc, hcm⟩ := inv_osl hrs
    obtain ⟨⟨te, cs⟩, hcs, hb0⟩ := bind_some ha
    clear ha
    simp only [Option.ite_none_right_eq_some] at hb0
    obtain ⟨⟨rfl, hro, rfl, rfl, hle, hmx, hpos⟩, ha⟩ := hb0
    have hob : st.ob l = some ⟨u, .tcells te cs⟩ := objT_inv hcs
    obtain ⟨Ω, hown⟩ := hR.own
    obtain ⟨b', k', k1, _, _, ⟨arr, g1, g2, g3, g4⟩, _⟩ := hown.ob l _ hob
    rw [hγ] at k1
    cases k1
    rw [hSl] at hmx hpos ha
    have htl : (cs.take n).length = n := by rw [List.length_take]; omega
    by_cases hroom : n + S.size ≤ cap
    · obtain ⟨hada, hfitk⟩ := had (by omega)
      rw [Nat.zero_add, Nat.mul_one] at hfitk
      have hrun := Lib.run_append_room_string (P := P) w t u' o.type te i ht hu' hi hs1 b n cap arr g1 S hroom (by omega)
      refine obj_okB hR hd hf (b := b) (k := kb) (w' := w.setRow b _) (hexec _ _ (by rw [hS, hX, hada]; exact hrun)) (.inr ⟨l, u, _, kb, hob, hγ, List.mem_singleton.2 rfl, hro, by simp⟩) ⟨rfl, rfl, rfl⟩
        (fun k _ hk => setRow_other w _ k _ hk) (fun γ' h => .osl _ _ _ _ _ _ _ _ _ h (fun _ => ⟨rfl, by rw [Nat.zero_add, Nat.mul_one]; exact hfitk⟩) hroom hcm) (by have := (Array.getElem?_eq_some_iff.1 g1).1; simpa using this) (fun _ _ h => by cases h) ?_ ha
      refine ⟨_, setRow_heap w _ arr _ te _ g1, ?_, ?_, ?_⟩
      · rw [← g2]
        simp only [List.size_toArray, List.length_append, List.length_take, List.length_drop, Array.length_toList, Lib.strCells_length]
        omega
      · rw [List.length_append, htl, List.length_map, hSl]
        omega
      · refine append_cellsL htl (fun j x v hx hv => ?_) (fun j x v hx hv => ?_)
        · have hj : j < n := by have := (List.getElem?_eq_some_iff.1 hv).1; omega
          simp only [List.getElem?_toArray] at hx
          rw [List.append_assoc, List.getElem?_append_left (by simp only [List.length_take, Array.length_toList]; omega), List.getElem?_take_of_lt hj] at hx
          rw [List.getElem?_take_of_lt hj] at hv
          exact g4 j x v (by simpa using hx) hv
        · have hj : j < (Lib.strCells S).length := by have := (List.getElem?_eq_some_iff.1 hv).1; rw [List.length_map, hSl] at this; rw [Lib.strCells_length]; exact this
          simp only [List.getElem?_toArray] at hx
          rw [List.getElem?_append_left (by simp only [List.length_append, List.length_take, Array.length_toList]; omega), List.getElem?_append_right (by simp only [List.length_take, Array.length_toList]; omega)] at hx
          have hq : n + j - (List.take n arr.toList).length = j := by simp only [List.length_take, Array.length_toList]; omega
          rw [hq] at hx
          exact byteCells_eq S j x v hx hv
    · have hget : ∀ j, j < n → arr[j]? = some (arr.getD j undef) := by
        intro j hj
        have : j < arr.size := by omega
        simp [this]
      have holds : ∀ (j : Nat) (v : Value), ((List.range n).map fun j => arr.getD j undef)[j]? = some v → w.cell? (ad0.add j) = some v := by
        intro j v hv
        simp only [List.getElem?_map, Option.map_eq_some_iff] at hv
        obtain ⟨k, hk, rfl⟩ := hv
        have hj : j < n := by have := (List.getElem?_eq_some_iff.1 hk).1; simpa using this
        rw [List.getElem?_range hj] at hk
        cases hk
        rw [(had (by omega)).1, add_none, Nat.zero_add]
        simp only [World.cell?, g1, Option.isSome_none, Bool.false_eq_true, if_false]
        exact hget j hj
      have hol : ((List.range n).map fun j => arr.getD j undef).length = n := by simp
      have hrun := Lib.run_append_grow_string (P := P) w t u' o.type te i (.int .u8 0) ht hu' hi hz ad0 n cap _ (by rw [hs1, Nat.mul_one]; exact hol) holds S (by omega) (by omega) (by rw [hb1]; exact growslice_fits (by omega) (by omega))
      refine grown _ _ n cap [l] hol htl (by omega) (fun j x v hx hv => ?_) (by rw [hS, hX]; exact hrun) ha
      have hj : j < n := by have := (List.getElem?_eq_some_iff.1 hv).1; omega
      rw [List.getElem?_take_of_lt hj] at hv
      simp only [List.getElem?_map, List.getElem?_range hj, Option.map_some, Option.some.injEq] at hx
      subst hx
      exact g4 j _ v (hget j hj) hv
  · cases ha
end
section
variable {P : Program} {E : Env} {w0 w : World} {I0 : IMap} {nt : Nat} {γ : Nat → Option Place} {I : IMap} {st : St} {a : Act} {o : Oper} {ub : Nat} {δ : Delta}
theorem opds_one {xs : Array Operand} {y : A} (h : opds xs = some [y]) : ∃ x, xs = #[x] ∧ opd x = some y := by
  obtain ⟨h1, h2⟩ := mapM_some h
  obtain ⟨l⟩ := xs
  match l, h1, h2 with
  | [x], _, h2 => exact ⟨x, rfl, h2 0 x y rfl rfl⟩
theorem opds_two {xs : Array Operand} {y z : A} (h : opds xs = some [y, z]) : ∃ x x', xs = #[x, x'] ∧ opd x = some y ∧ opd x' = some z := by
  obtain ⟨h1, h2⟩ := mapM_some h
  obtain ⟨l⟩ := xs
  match l, h1, h2 with
  | [x, x'], _, h2 => exact ⟨x, x', rfl, h2 0 x y rfl rfl, h2 1 x' z rfl rfl⟩
theorem isZ8_inv {z : Value} (h : isZ8 z = true) : z = .int .u8 0 := by
  unfold isZ8 at h
  split at h
  · rfl
  · cases h
theorem ok_appendAll (hR : R E w0 I0 nt γ I st a w) (hd : ∀ d, o.dst = some d → d < nt) (hf : γ ub = none) {t e : TypeId} {s x : Operand} {s' x' : A} {i : TypeInfo} {z : Value} {d : Nat} {m : Bool} (ho : o.op = .call { callee := .builtin .append, args := #[s, x], argTypes := #[t, t] })
    (hs : opd s = some s') (hx : opd x = some x') (hu : P.underlying t = some (.slice e)) (hi : P.info? e = some i) (hz : i.zero = some z) (hs0 : 0 < i.size) (hzs : z.cells.size = i.size) {cd : FuncId → List V → Option V}
    (ha : aop cd (eval E st.tm) st.ob st.tk st.ro d ub (.append m i.size i.bytes s' x') = some δ) : OpOk P E w0 I0 nt γ I st a w o ub δ := by
  simp only [aop] at ha
  split at ha
  · rename_i t0 nl n cs hev
    obtain ⟨ys, hys, hb⟩ := bind_some ha
    clear ha
    by_cases hnil : ys = []
    · rw [if_pos hnil] at hb
      exact ok_append hR hd hf ho hs hx hu hi hz hs0 hzs (by rw [hev]; simp only [hys, Option.bind_some]; rw [if_pos hnil]; exact hb)
    · rw [if_neg hnil] at hb
      by_cases hmn : (m && nl) = true
      · rw [if_pos hmn] at hb
        simp only [Bool.and_eq_true] at hmn
        obtain ⟨rfl, rfl⟩ := hmn
        simp only [Option.ite_none_right_eq_some] at hb
        obtain ⟨hc, hb⟩ := hb
        exact ok_appendO hR hd hf ho hs hx hu hi hz hs0 hzs hys (.inl ⟨t0, n, cs, hev, hnil, hc.2.1, hc.2.2.1, hc.2.2.2, hb⟩)
      · rw [if_neg hmn] at hb
        exact ok_append hR hd hf ho hs hx hu hi hz hs0 hzs (by rw [hev]; simp only [hys, Option.bind_some]; rw [if_neg hnil]; exact hb)
  · rename_i l u off n sz' hev
    obtain ⟨ys, hys, ha⟩ := bind_some ha
    obtain ⟨cs, hcs, ha⟩ := bind_some ha
    exact ok_appendO hR hd hf ho hs hx hu hi hz hs0 hzs hys (.inr ⟨l, u, off, n, sz', cs, hev, hcs, ha⟩)
  · cases ha
theorem op_ok {m : Bool} {ao : AOp} {cd : FuncId → List V → Option V} {d : Nat} (hR : R E w0 I0 nt γ I st a w) (hd : ∀ d, o.dst = some d → d < nt) (hf : γ ub = none) (hc : compOp P m o = some ao) (hn : ao.isCall = false)
    (ha : aop cd (eval E st.tm) st.ob st.tk st.ro d ub ao = some δ) : OpOk P E w0 I0 nt γ I st a w o ub δ := by
  unfold compOp at hc
  split at hc
  · rename_i c ho
    obtain ⟨cal, args, ats⟩ := c
    unfold compCall at hc
    split at hc
    · obtain ⟨l, hl, rfl⟩ := map_some hc
      split at hn
      · rename_i k hk
        exact ok_ext hR hd ho (by assumption) hl hk (by simp only [hk] at ha; exact ha)
      · cases hn
    · obtain ⟨_, _, hc⟩ := bind_some hc
      obtain ⟨_, _, rfl⟩ := map_some hc
      cases hn
    · cases hc
    rename_i b hcal
    simp only at hcal
    subst hcal
    have hc := (Option.filter_eq_some_iff.1 hc).1
    simp only at hc
    unfold compBuiltin at hc
    split at hc
    · obtain ⟨l, hl, hc⟩ := bind_some hc
      split at hc
      · rename_i hty
        cases hc
        obtain ⟨x, rfl, hx⟩ := opds_one hl
        obtain ⟨t, ht, hu⟩ := bind_some hty
        exact ok_lenStr hR hd ho hx ht hu ha
      · rename_i hty
        cases hc
        obtain ⟨x, rfl, hx⟩ := opds_one hl
        obtain ⟨t, ht, hu⟩ := bind_some hty
        exact ok_lenSl hR hd ho hx ht hu ha
      · rename_i hty
        cases hc
        obtain ⟨x, rfl, hx⟩ := opds_one hl
        obtain ⟨t, ht, hu⟩ := bind_some hty
        exact ok_lenMap hR hd ho hx ht hu ha
      · cases hc
    · obtain ⟨l, hl, hc⟩ := bind_some hc
      split at hc
      · rename_i hats
        split at hc
        · rename_i htu
          subst htu
          split at hc
          · rename_i hu
            obtain ⟨i, hi, hc⟩ := bind_some hc
            obtain ⟨z, hz, hc⟩ := bind_some hc
            split at hc
            · rename_i hsz
              cases hc
              obtain ⟨x, y, rfl, hx, hy⟩ := opds_two hl
              obtain ⟨l2⟩ := ats
              simp only at hats
              subst hats
              exact ok_appendAll hR hd hf ho hx hy hu hi hz hsz.1 hsz.2 ha
            · cases hc
          · cases hc
        · split at hc
          · rename_i hu hu2
            obtain ⟨i, hi, hc⟩ := bind_some hc
            obtain ⟨z, hz, hc⟩ := bind_some hc
            split at hc
            · rename_i hsz
              cases hc
              obtain ⟨x, y, rfl, hx, hy⟩ := opds_two hl
              obtain ⟨l2⟩ := ats
              simp only at hats
              subst hats
              exact ok_appS hR hd hf ho hx hy hu hu2 hi (by rw [hz, isZ8_inv hsz.2.2]) hsz.1 hsz.2.1 ha
            · cases hc
          · cases hc
      · cases hc
    · obtain ⟨l, hl, rfl⟩ := map_some hc
      exact ok_minmax (isMax := false) hR hd ho hl ha
    · obtain ⟨l, hl, rfl⟩ := map_some hc
      exact ok_minmax (isMax := true) hR hd ho hl ha
    · obtain ⟨l, hl, hc⟩ := bind_some hc
      split at hc
      · rename_i hty
        obtain ⟨sz, hsz, rfl⟩ := map_some hc
        obtain ⟨x, y, rfl, hx, hy⟩ := opds_two hl
        obtain ⟨t, ht, hu⟩ := bind_some hty
        exact ok_copy hR hd ho ht hx hy hu hsz ha
      · cases hc
    · obtain ⟨l, hl, hc⟩ := bind_some hc
      split at hc
      · rename_i hty
        obtain ⟨sz, hsz, hc⟩ := bind_some hc
        obtain ⟨z, hz, rfl⟩ := map_some hc
        obtain ⟨x, rfl, hx⟩ := opds_one hl
        obtain ⟨t, ht, hu⟩ := bind_some hty
        exact ok_clear hR hd ho ht hx hu hz ha
      · cases hc
    · obtain ⟨l, hl, hc⟩ := bind_some hc
      split at hc
      · cases hc
        obtain ⟨x, rfl, hx⟩ := opds_one hl
        exact ok_slData hR hd ho hx ha
      · cases hc
    · obtain ⟨l, hl, hc⟩ := bind_some hc
      split at hc
      · rename_i hats
        split at hc
        · rename_i hp
          split at hc
          · rename_i hc1
            cases hc
            obtain ⟨x, y, rfl, hx, hy⟩ := opds_two hl
            obtain ⟨l2⟩ := ats
            simp only at hats
            subst hats
            exact ok_uStr hR hd ho hx hy hp hc1 ha
          · cases hc
        · cases hc
      · cases hc
    · obtain ⟨l, hl, hc⟩ := bind_some hc
      split at hc
      · rename_i hty
        obtain ⟨q, hq, rfl⟩ := map_some hc
        obtain ⟨x, y, rfl, hx, hy⟩ := opds_two hl
        obtain ⟨t, ht, hu⟩ := bind_some hty
        exact ok_mapDel hR hd ho ht hx hy hu hq ha
      · cases hc
    · cases hc
  · obtain ⟨x', hx, rfl⟩ := map_some hc
    cases ha
  · have hc := (Option.filter_eq_some_iff.1 hc).1
    unfold compOp1 at hc
    split at hc
    · obtain ⟨y, hy, rfl⟩ := map_some hc
      exact ok_move hR hd (.inl (by assumption)) hy ha
    · obtain ⟨y, hy, rfl⟩ := map_some hc
      exact ok_move hR hd (.inr (by assumption)) hy ha
    · obtain ⟨c', h1, hc⟩ := bind_some hc
      obtain ⟨x', h2, hc⟩ := bind_some hc
      obtain ⟨y', h3, rfl⟩ := map_some hc
      exact ok_pick hR hd (by assumption) h1 h2 h3 ha
    · obtain ⟨z, hz, rfl⟩ := map_some hc
      unfold allocOf at ha
      split at ha
      · exact ok_allocT hR hd hf (by assumption) hz ha
      · exact ok_alloc hR hd hf (by assumption) hz ha
    · obtain ⟨n, h1, hc⟩ := bind_some hc
      obtain ⟨x', h2, rfl⟩ := map_some hc
      unfold boxOf at ha
      split at ha
      · exact ok_boxT hR hd hf (by assumption) h2 ha
      · exact ok_box hR hd hf (by assumption) h2 ha
    · obtain ⟨z, hz, hc⟩ := bind_some hc
      split at hc
      · obtain ⟨places, hp, hc⟩ := bind_some hc
        obtain ⟨l, hl, rfl⟩ := map_some hc
        exact ok_build hR hd (by assumption) hz (.inl ⟨_, _, by assumption, hp, rfl⟩) hl ha
      · obtain ⟨s, hs, hc⟩ := bind_some hc
        obtain ⟨l, hl, rfl⟩ := map_some hc
        exact ok_build hR hd (by assumption) hz (.inr ⟨_, _, _, by assumption, hs, rfl⟩) hl ha
      · cases hc
    · split at hc
      · obtain ⟨s, hs, hc⟩ := bind_some hc
        obtain ⟨z, hz, hc⟩ := bind_some hc
        split at hc
        · rename_i hcond
          obtain ⟨l, hl, rfl⟩ := map_some hc
          cases m with
          | false => exact ok_buildSl hR hd hf (by assumption) (by assumption) hs hz hcond.1 hcond.2.1 hcond.2.2 hl ha
          | true => exact ok_buildSlO hR hd hf (by assumption) (by assumption) hs hz hcond.1 hcond.2.1 hcond.2.2 hl ha
        · cases hc
      · cases hc
    · obtain ⟨g, hg, hc⟩ := bind_some hc
      obtain ⟨x', hx, rfl⟩ := map_some hc
      exact ok_load hR hd (by assumption) hx hg ha
    · obtain ⟨s, hs, hc⟩ := bind_some hc
      obtain ⟨x', hx, hc⟩ := bind_some hc
      obtain ⟨y', hy, rfl⟩ := map_some hc
      exact ok_store hR hd (by assumption) hx hy hs ha
    · obtain ⟨x', hx, rfl⟩ := map_some hc
      exact ok_nilCheck hR hd (by assumption) hx ha
    · obtain ⟨x', hx, hc⟩ := bind_some hc
      obtain ⟨y', hy, hc⟩ := bind_some hc
      split at hc
      · split at hc
        · cases hc
          exact ok_bin hR hd (by assumption) hx hy ha
        · obtain ⟨k, hk, rfl⟩ := map_some hc
          simp only [aop] at ha
          split at ha
          · exact ok_eqPtr hR hd (neg := false) (by assumption) hx hy hk (by assumption) (by assumption) ha
          · exact ok_eq hR hd (neg := false) (by assumption) hx hy hk ha
      · split at hc
        · cases hc
          exact ok_bin hR hd (by assumption) hx hy ha
        · obtain ⟨k, hk, rfl⟩ := map_some hc
          simp only [aop] at ha
          split at ha
          · exact ok_eqPtr hR hd (neg := true) (by assumption) hx hy hk (by assumption) (by assumption) ha
          · exact ok_eq hR hd (neg := true) (by assumption) hx hy hk ha
      · cases hc
        exact ok_bin hR hd (by assumption) hx hy ha
    · obtain ⟨x', hx, rfl⟩ := map_some hc
      exact ok_un hR hd (by assumption) hx ha
    · split at hc
      · obtain ⟨x', hx, rfl⟩ := map_some hc
        exact ok_conv hR hd (by assumption) hx (by assumption) (by assumption) ha
      · obtain ⟨x', hx, rfl⟩ := map_some hc
        exact ok_convId hR hd (by assumption) hx (by assumption) (by assumption) ha
      · split at hc
        · obtain ⟨x', hx, rfl⟩ := map_some hc
          exact ok_runes hR hd hf (by assumption) hx (by assumption) (by assumption) (by assumption) ha
        · cases hc
      · split at hc
        · split at hc
          · obtain ⟨x', hx, rfl⟩ := map_some hc
            exact ok_strOfBytes hR hd (by assumption) hx (by assumption) (by assumption) (by assumption) ha
          · cases hc
        · cases hc
      · split at hc
        · obtain ⟨x', hx, rfl⟩ := map_some hc
          exact ok_toUp hR hd (by assumption) hx (by assumption) (by assumption) (by assumption) ha
        · cases hc
      · split at hc
        · obtain ⟨x', hx, rfl⟩ := map_some hc
          exact ok_ofUp hR hd (by assumption) hx (by assumption) (by assumption) (by assumption) ha
        · cases hc
      · cases hc
    · split at hc
      · cases hc
      · rename_i hu hni
        obtain ⟨x', hx, rfl⟩ := map_some hc
        exact ok_iface hR hd (by assumption) hx (by assumption) (fun ms e => by subst e; simp_all) ha
      · cases hc
    · obtain ⟨xs, hx, hc⟩ := bind_some hc
      obtain ⟨ys, hy, rfl⟩ := map_some hc
      exact ok_mkFn hR hd (by assumption) hx hy ha
    · cases hc
      exact ok_mkMap hR hd hf (by assumption) ha
    · split at hc
      · obtain ⟨i, hi, hc⟩ := bind_some hc
        obtain ⟨z, hz, hc⟩ := bind_some hc
        obtain ⟨l', hl, hc⟩ := bind_some hc
        obtain ⟨c', hc', rfl⟩ := map_some hc
        exact ok_mkSl hR hd hf (by assumption) hl hc' (by assumption) hi hz ha
      · cases hc
    · split at hc
      · cases hc
      · rename_i hni hu
        obtain ⟨i, hi, hc⟩ := bind_some hc
        obtain ⟨z, hz, hc⟩ := bind_some hc
        obtain ⟨zv, hzv, hc⟩ := bind_some hc
        obtain ⟨x', hx, rfl⟩ := map_some hc
        exact ok_assert hR hd (by assumption) hx hu (fun ms e => hni ms e) hi hz hzv ha
      · cases hc
    · obtain ⟨x', hx, hc⟩ := bind_some hc
      obtain ⟨lo', hl, hc⟩ := bind_some hc
      obtain ⟨hi', hh, hc⟩ := bind_some hc
      split at hc
      · cases hc
        exact ok_slStr hR hd (by assumption) hx hl hh (by assumption) ha
      · obtain ⟨s, hs, rfl⟩ := map_some hc
        exact ok_slSl hR hd (by assumption) hx hl hh (by assumption) hs ha
      · split at hc
        · obtain ⟨s, hs, rfl⟩ := map_some hc
          exact ok_slArr hR hd (by assumption) hx hl hh (by assumption) (by assumption) hs ha
        · cases hc
      · cases hc
    · obtain ⟨f, hf', hc⟩ := bind_some hc
      obtain ⟨n, hn', hc⟩ := bind_some hc
      split at hc
      · cases hc
      · obtain ⟨x', hx, rfl⟩ := map_some hc
        exact ok_fieldAddr hR hd (by assumption) hx hf' hn' (by assumption) ha
    · obtain ⟨f, hf', hc⟩ := bind_some hc
      obtain ⟨g, hg, hc⟩ := bind_some hc
      obtain ⟨x', hx, rfl⟩ := map_some hc
      exact ok_field hR hd (by assumption) hx hf' hg ha
    · obtain ⟨x', hx, hc⟩ := bind_some hc
      obtain ⟨i', hi, hc⟩ := bind_some hc
      split at hc
      · obtain ⟨s, hs, hc⟩ := bind_some hc
        split at hc
        · cases hc
        · cases hc
          exact ok_idxSl hR hd (by assumption) hx hi (by assumption) hs (by assumption) ha
      · obtain ⟨s, hs, rfl⟩ := map_some hc
        exact ok_idxArr hR hd (by assumption) hx hi (by assumption) hs ha
      · cases hc
    · obtain ⟨x', hx, hc⟩ := bind_some hc
      obtain ⟨i', hi, hc⟩ := bind_some hc
      split at hc
      · cases hc
        exact ok_idxStr hR hd (by assumption) hx hi (by assumption) ha
      · obtain ⟨s, hs, hc⟩ := bind_some hc
        obtain ⟨g, hg, rfl⟩ := map_some hc
        exact ok_idxVal hR hd (by assumption) hx hi (by assumption) hs hg ha
      · cases hc
    · split at hc
      · obtain ⟨q, hq, hc⟩ := bind_some hc
        obtain ⟨i, hi, hc⟩ := bind_some hc
        obtain ⟨z, hz, hc⟩ := bind_some hc
        obtain ⟨zv, hzv, hc⟩ := bind_some hc
        obtain ⟨m', hm, hc⟩ := bind_some hc
        obtain ⟨k', hk, rfl⟩ := map_some hc
        exact ok_lookup hR hd (by assumption) hm hk (by assumption) hq hi hz hzv ha
      · cases hc
    · split at hc
      · obtain ⟨q, hq, hc⟩ := bind_some hc
        obtain ⟨m', hm, hc⟩ := bind_some hc
        obtain ⟨k', hk, hc⟩ := bind_some hc
        obtain ⟨v', hv, rfl⟩ := map_some hc
        exact ok_mapSet hR hd (.inl (by assumption)) hm hk hv (by assumption) hq ha
      · cases hc
    · split at hc
      · obtain ⟨q, hq, hc⟩ := bind_some hc
        obtain ⟨m', hm, hc⟩ := bind_some hc
        obtain ⟨k', hk, hc⟩ := bind_some hc
        obtain ⟨v', hv, rfl⟩ := map_some hc
        exact ok_mapSet hR hd (.inr (by assumption)) hm hk hv (by assumption) hq ha
      · cases hc
    · split at hc
      · obtain ⟨q, hq, hc⟩ := bind_some hc
        obtain ⟨i, hi, hc⟩ := bind_some hc
        obtain ⟨z, hz, hc⟩ := bind_some hc
        obtain ⟨zv, hzv, hc⟩ := bind_some hc
        obtain ⟨m', hm, hc⟩ := bind_some hc
        obtain ⟨k', hk, rfl⟩ := map_some hc
        exact ok_mapEnt hR hd (by assumption) hm hk (by assumption) hq hi hz hzv ha
      · cases hc
    · obtain ⟨m', hm, hc⟩ := bind_some hc
      obtain ⟨s', hs, hc⟩ := bind_some hc
      obtain ⟨x', hx, rfl⟩ := map_some hc
      exact ok_entSt hR hd (by assumption) hm hs hx ha
    · split at hc
      · obtain ⟨x', hx, rfl⟩ := map_some hc
        exact ok_rangeStr hR hd hf (by assumption) hx (by assumption) ha
      · obtain ⟨x', hx, rfl⟩ := map_some hc
        exact ok_rangeMap hR hd hf (by assumption) hx (by assumption) ha
      · cases hc
    · obtain ⟨x', hx, rfl⟩ := map_some hc
      exact ok_nextStr hR hd (by assumption) hx ha
    · obtain ⟨x', hx, rfl⟩ := map_some hc
      exact ok_entry hR hd (by assumption) hx ha
    · obtain ⟨x', hx, rfl⟩ := map_some hc
      exact ok_extract hR hd (by assumption) hx ha
    · cases hc
end
/-- All that is written lies in the frame. -/
def C.dstOk (n : Nat) : C → Bool
  | .region ops | .draw ops _ => ops.all fun o => match o.dst with | some d => Nat.blt d n | none => true
  | .pin o fs => (o :: fs).all fun o => match o.dst with | some d => Nat.blt d n | none => true
  | .seq a b | .cond _ a b => a.dstOk n && b.dstOk n
  | .block _ a | .loop a => a.dstOk n
  | .rangeFunc _ ps a b => (ps.all fun p => Nat.blt p n) && a.dstOk n && b.dstOk n
  | _ => true
def AfOk (P : Program) (r : Bool) (f : FuncId) (af : AF) : Prop := ∃ m fn c, P.funcs[f]? = some fn ∧ fn.body = some c ∧ comp P m r c = some af.body ∧ fn.results.toList.mapM (compRes P) = some af.res ∧
  (fn.name == "runtime.NumGoroutine") = false ∧ af.body.dstOk fn.ntmps = true
def srtArgs (m : Option FuncId) (x : Value) : Array Value := match m with
  | none => #[x]
  | some g => #[x, .func (.func g) #[] #[]]
/-- What the library's own text does to a row of numbers, or of pairs of them. -/
def SortLaw (P : Program) (f : FuncId) (m : Option FuncId) : Prop :=
  (∃ fn c, P.funcs[f]? = some fn ∧ fn.body = some c ∧ (fn.name == "runtime.NumGoroutine") = false) ∧
  (∀ (p : Option Addr) (cap : Nat) (w : World), Calls P f (srtArgs m (.slice p 0 cap)) w fun e w' => e = .returned (.tuple #[]) ∧ w' = w) ∧
  ∀ (blk off cap n : Nat) (zs : List Int) (w : World), zs.length = n * srtSz m → srtMay m zs = true → Go.Sort.Holds (Value.int .i64) w blk off zs.toArray → blk < w.heap.size → n < 4611686018427387904 →
    Calls P f (srtArgs m (.slice (some ⟨blk, off, none⟩) n cap)) w fun e w' => e = .returned (.tuple #[]) ∧ ∃ n os, w' = Go.Sort.grow (Go.Sort.putRow (Value.int .i64) (Go.Sort.ahead w n) blk off (srtIs m zs).toArray) os
/-- What, handed no list, makes a thing of such cells and does nothing else. -/
def MkLaw (P : Program) (f : FuncId) (cs : List V) : Prop :=
  (∃ fn c, P.funcs[f]? = some fn ∧ fn.body = some c ∧ (fn.name == "runtime.NumGoroutine") = false) ∧
  ∀ (p : Option Addr) (cap : Nat) (w : World), Calls P f #[.slice p 0 cap] w fun e w' => e = .returned (.pointer (some ⟨w.heap.size, 0, none⟩)) ∧ ∃ xs t, w' = w.alloc (.cells xs t) ∧ xs.size = cs.length ∧ ∀ (j : Nat) (x : Value) (v : V), xs[j]? = some x → cs[j]? = some v → v.leaf = true ∧ ∀ I, RepP I x v
def ImmOk (I : IMap) (w : World) : Prop := ∀ b o x, I b o = some x → w.cell? ⟨b, o, none⟩ = some x
def GlOk (E : Env) (I : IMap) : Prop := ∀ g cs, E.gl g = some cs → RepP I (.pointer (some ⟨g, 0, none⟩)) (.eptr cs 0)
/-- The slices of a result to which the caller may append. -/
def TokNew (B : Nat) (τ : Nat → Option Place) (I : IMap) (w : World) (r : V) : Prop :=
  ∀ i ∈ toksRes r, ∃ b n cap sz, τ i = some (.tok b n cap sz) ∧ B ≤ b ∧ b < w.heap.size ∧ TokOk w.heap[b]? n cap sz ∧ (∀ j, n * sz ≤ j → I b j = none) ∧ ∀ i' ∈ toksRes r, ∀ n' c' s', τ i' = some (.tok b n' c' s') → i' = i
/-- A result: what lies in memory for good, but for slices to which the caller may append. -/
def LRep (τ : Nat → Option Place) (I : IMap) (x : Value) (v : V) : Prop :=
  match v with
  | .sl (some _) _ _ _ => Rep τ I x v
  | v => RepP I x v
def TRep (τ : Nat → Option Place) (I : IMap) (x : Value) (v : V) : Prop :=
  match v with
  | .agg cs => ∃ xs : Array Value, x = .agg xs ∧ xs.size = cs.length ∧ (∀ (j : Nat) (u : V), cs[j]? = some u → u.leaf = true) ∧ ∀ (j : Nat) (y : Value) (u : V), xs[j]? = some y → cs[j]? = some u → LRep τ I y u
  | v => LRep τ I x v
def RRep (τ : Nat → Option Place) (I : IMap) (x : Value) (r : V) : Prop :=
  match r with
  | .tup vs => ∃ xs : Array Value, x = .tuple xs ∧ xs.size = vs.length ∧ ∀ (j : Nat) (y : Value) (u : V), xs[j]? = some y → vs[j]? = some u → TRep τ I y u
  | v => TRep τ I x v
def PureOk (P : Program) (E : Env) (f : FuncId) (args : List V) (r : V) : Prop :=
  ∀ (w : World) (I : IMap) (xs : Array Value), ImmOk I w → GlOk E I → xs.size = args.length → (∀ (j : Nat) (x : Value) (v : V), xs[j]? = some x → args[j]? = some v → RepP I x v) →
    Calls P f xs w fun e w' => ∃ x τ I', e = .returned x ∧ w.grownBy w' none ∧ (∀ b o x, I b o = some x → I' b o = some x) ∧ ImmOk I' w' ∧ (∀ b o, b < w.heap.size → I' b o = I b o) ∧ RRep τ I' x r ∧ TokNew w.heap.size τ I' w' r
/-- What is known of the places goes on. -/
def SubG (γ γ' : Nat → Option Place) : Prop := ∀ u p, γ u = some p → γ' u = some p
def SubI (I I' : IMap) : Prop := ∀ b o x, I b o = some x → I' b o = some x
theorem SubG.refl (γ : Nat → Option Place) : SubG γ γ := fun _ _ h => h
theorem SubI.refl (I : IMap) : SubI I I := fun _ _ _ h => h
theorem SubG.trans {a b c : Nat → Option Place} (h : SubG a b) (k : SubG b c) : SubG a c := fun u p x => k u p (h u p x)
theorem SubI.trans {a b c : IMap} (h : SubI a b) (k : SubI b c) : SubI a c := fun u o p x => k u o p (h u o p x)
def ObsOk (P : Program) (E : Env) (f : FuncId) (args : List V) (ob : Nat → Option Obj') (ub : Nat) (r : V) : Prop :=
  ∀ (w0 w : World) (I0 I : IMap) (γ : Nat → Option Place) (xs : Array Value) (st : St), (∀ l x, ob l = some x → st.ob l = some x) → Sh E w0 I0 γ I st w → (∀ u, ub ≤ u → γ u = none) → xs.size = args.length →
    (∀ (j : Nat) (x : Value) (v : V), xs[j]? = some x → args[j]? = some v → Rep γ I x v) →
    Calls P f xs w fun e w' => ∃ x τ I', e = .returned x ∧ w.grownBy w' none ∧ (∀ b o x, I b o = some x → I' b o = some x) ∧ ImmOk I' w' ∧ (∀ b o, b < w.heap.size → I' b o = I b o) ∧ RRep τ I' x r ∧ TokNew w.heap.size τ I' w' r
/-- What is so behind a call that shares. -/
def SharedPost (E : Env) (w0 : World) (I0 : IMap) (γ : Nat → Option Place) (I : IMap) (ro : Nat) (r : V) (ob' : Nat → Option Obj') (tk' : Nat → Bool) (ub' : Nat) (e : Ending) (w' : World) : Prop :=
  ∃ x γ' I', e = .returned x ∧ (∀ st' : St, st'.ob = ob' → st'.tk = tk' → st'.ro = ro → Sh E w0 I0 γ' I' st' w') ∧ Rep γ' I' x r ∧ SubG γ γ' ∧ SubI I I' ∧ (∀ u, ub' ≤ u → γ' u = none)
def SharedOk (P : Program) (E : Env) (γ0 : Nat → Option Place) (Iy : IMap) (f : FuncId) (args : List V) (ob : Nat → Option Obj') (tk : Nat → Bool) (ro ub : Nat) (l : List (V × (Nat → Option Obj') × (Nat → Bool) × Nat)) : Prop :=
  ∀ (w0 w : World) (I0 I : IMap) (γ : Nat → Option Place) (xs : Array Value) (st : St), SubG γ0 γ → SubI Iy I → st.ob = ob → st.tk = tk → st.ro = ro → Sh E w0 I0 γ I st w → (∀ u, ub ≤ u → γ u = none) → xs.size = args.length →
    (∀ (j : Nat) (x : Value) (v : V), xs[j]? = some x → args[j]? = some v → Rep γ I x v) →
    Calls P f xs w fun e w' => ∃ r ∈ l, SharedPost E w0 I0 γ I ro r.1 r.2.1 r.2.2.1 r.2.2.2 e w'
/-- A frame of any make. -/
def FW (r : Option Nat) : Fence := { Fence.wide with round := r }
theorem callsFW {P : Program} {f : FuncId} {args : Array Value} {w : World} {R : Ending → World → Prop} {r : Option Nat} {n : Nat} (h : Calls P f args w R) : CallsIn (FW r) n P f args w R := callsIn_wide.2 h
theorem callsWide {P : Program} {f : FuncId} {args : Array Value} {w : World} {R : Ending → World → Prop} {n : Nat} (h : CallsIn (FW none) n P f args w R) : Calls P f args w R := callsIn_wide.1 h
def YieldOk (P : Program) (E : Env) (γ0 : Nat → Option Place) (Iy : IMap) (u : Nat) (args : List V) (ob : Nat → Option Obj') (tk : Nat → Bool) (ro ub : Nat) (r : V) (ob' : Nat → Option Obj') (tk' : Nat → Bool) (ub' : Nat) : Prop :=
  ∀ (w0 w : World) (I0 I : IMap) (γ : Nat → Option Place) (xs : Array Value) (st : St) (b : Nat) (k : Kd), SubG γ0 γ → SubI Iy I → st.ob = ob → st.tk = tk → st.ro = ro → Sh E w0 I0 γ I st w → (∀ u, ub ≤ u → γ u = none) → xs.size = args.length →
    (∀ (j : Nat) (x : Value) (v : V), xs[j]? = some x → args[j]? = some v → Rep γ I x v) → γ u = some (.obj b k) →
    ∃ fn tmps as bd, (Instr.yield b xs).run P w = .ok (.round b fn tmps as bd) w ∧ RoundIn (FW none) 0 P b fn tmps as bd w (SharedPost E w0 I0 γ I ro r ob' tk' ub')
def YOk (P : Program) (E : Env) (γ0 : Nat → Option Place) (Iy : IMap) (y : Y) : Prop :=
  ∀ l u args ob tk ro ub r ob' tk' ub', y l u args ob tk ro ub = some (r, ob', tk', ub') → YieldOk P E γ0 Iy u args ob tk ro ub r ob' tk' ub'
def FnOk (P : Program) (f : FuncId) : Prop := ∃ fn c, P.funcs[f]? = some fn ∧ fn.body = some c ∧ (fn.name == "runtime.NumGoroutine") = false
structure EnvOk (P : Program) (E : Env) : Prop where
  fc : ∀ f af, E.fc f = some af → AfOk P false f af
  fs : ∀ f af, E.fs f = some af → AfOk P true f af
  srt : ∀ f m, E.srt f = some m → SortLaw P f m
  nw : ∀ f cs, E.nw f = some cs → MkLaw P f cs
  kn : ∀ f args r, E.kn f args = some r → FnOk P f ∧ PureOk P E f args r
structure COk (P : Program) (E : Env) (γ0 : Nat → Option Place) (Iy : IMap) (call : Callers) : Prop where
  d : ∀ f args r, call.d f args = some r → FnOk P f ∧ PureOk P E f args r
  o : ∀ f args ob tk base ub r, call.o f args ob tk base ub = some r → FnOk P f ∧ ObsOk P E f args ob ub r
  s : ∀ f args ob tk ro base ub l, call.s f args ob tk ro base ub = some l → FnOk P f ∧ SharedOk P E γ0 Iy f args ob tk ro ub l
  y : YOk P E γ0 Iy call.y
  k : ∀ f cs, E.nw f = some cs → MkLaw P f cs
def CallersOk (P : Program) (E : Env) (call : Y → Callers) : Prop := ∀ γ0 Iy y, YOk P E γ0 Iy y → COk P E γ0 Iy (call y)
theorem YOk.mono {P : Program} {E : Env} {γ γ' : Nat → Option Place} {I I' : IMap} {y : Y} (h : YOk P E γ I y) (hg : SubG γ γ') (hI : SubI I I') : YOk P E γ' I' y :=
  fun l u args ob tk ro ub r ob' tk' ub' hy w0 w I0 J δ xs st b k h1 h2 => h l u args ob tk ro ub r ob' tk' ub' hy w0 w I0 J δ xs st b k (hg.trans h1) (hI.trans h2)
theorem noY_ok {P : Program} {E : Env} {γ : Nat → Option Place} {I : IMap} : YOk P E γ I noY := fun _ _ _ _ _ _ _ _ _ _ _ h => by cases h
section
variable {P : Program} {E : Env} {w0 w : World} {I0 : IMap} {nt : Nat} {γ : Nat → Option Place} {I : IMap} {st : St} {a : Act} {o : Oper} {ub : Nat} {δ : Delta}
theorem run_callFunc {f : FuncId} {fn : Func} {c : Code} (hf : P.funcs[f]? = some fn) (hb : fn.body = some c) (hn : (fn.name == "runtime.NumGoroutine") = false) (args : Array Value) : (callFunc f args).run P w = .ok (.enter f args) w := by
  unfold callFunc
  simp only [Sem.run_bind, run_program, Result.andThen_ok, hf, hn, Bool.false_eq_true, if_false, hb, Option.isNone_some]
  rfl
/-- A purely abstract value without leave to append stands for what lies in memory for good. -/
theorem strip_pure {x : Value} {v : V} (h : Rep γ I x v) (hp : v.strip.pureTop = true) : RepP I x v.strip := by
  have leafs : ∀ (xs : Array Value) (cs : List V), xs.size = cs.length → (∀ (j : Nat) (v : V), cs[j]? = some v → v.leaf = true) → (∀ (j : Nat) (y : Value) (v : V), xs[j]? = some y → cs[j]? = some v → Rep γ I y v) → (cs.map V.strip1).all V.pureLeaf = true →
      RepP I (.agg xs) (.agg (cs.map V.strip1)) := by
    intro xs cs h1 h2 h3 h4
    refine .agg _ _ (by simpa using h1) (fun j v hv => ?_) (fun j x v hx hv => ?_)
    · simp only [List.getElem?_map, Option.map_eq_some_iff] at hv
      obtain ⟨u, hu, rfl⟩ := hv
      rw [strip1_leaf]
      exact h2 j u hu
    · simp only [List.getElem?_map, Option.map_eq_some_iff] at hv
      obtain ⟨u, hu, rfl⟩ := hv
      exact pureRep (h3 j x u hx hu) (List.all_eq_true.1 h4 _ (List.mem_map.2 ⟨u, List.mem_of_getElem? hu, rfl⟩))
  cases v with
  | sl t nl n cs => exact pureRep h (by simp [V.strip1, V.pureLeaf])
  | agg cs =>
    obtain ⟨xs, rfl, h1, h2, h3⟩ := inv_agg h
    exact leafs xs cs h1 h2 h3 hp
  | fn f as bs =>
    obtain ⟨xs, ys, rfl, h1, h2, h3, h4⟩ := inv_fn h
    simp only [V.strip, V.pureTop, List.all_eq_true, List.mem_append] at hp
    have one : ∀ (x : Value) (v : V), Rep γ I x v → (match (match v with | .agg cs => V.agg (cs.map V.strip1) | c => c.strip1) with | .agg cs => cs.all V.pureLeaf | c => c.pureLeaf) = true → RepP I x (match v with | .agg cs => V.agg (cs.map V.strip1) | c => c.strip1) := by
      intro x v h hp
      cases v with
      | agg cs =>
        obtain ⟨xs, rfl, h1, h2, h3⟩ := inv_agg h
        exact leafs xs cs h1 h2 h3 hp
      | sl t nl n cs => exact pureRep h (by simp [V.strip1, V.pureLeaf])
      | _ => exact pureRep h hp
    refine .fn _ _ _ _ _ (by simpa using h1) (by simpa using h2) (fun j x v hx hv => ?_) (fun j x v hx hv => ?_)
    · simp only [List.getElem?_map, Option.map_eq_some_iff] at hv
      obtain ⟨u, hu, rfl⟩ := hv
      exact one x u (h3 j x u hx hu) (hp _ (.inl (List.mem_map.2 ⟨u, List.mem_of_getElem? hu, rfl⟩)))
    · simp only [List.getElem?_map, Option.map_eq_some_iff] at hv
      obtain ⟨u, hu, rfl⟩ := hv
      exact one x u (h4 j x u hx hu) (hp _ (.inr (List.mem_map.2 ⟨u, List.mem_of_getElem? hu, rfl⟩)))
  | undef => simp [V.strip, V.pureTop, V.pureLeaf] at hp
  | tup vs => simp [V.strip, V.pureTop, V.pureLeaf] at hp
  | ptr l u off => simp [V.strip, V.pureTop, V.pureLeaf] at hp
  | osl l u off n sz => simp [V.strip, V.pureTop, V.pureLeaf] at hp
  | map l u => simp [V.strip, V.pureTop, V.pureLeaf] at hp
  | iter l u => simp [V.strip, V.pureTop, V.pureLeaf] at hp
  | yld l u => simp [V.strip, V.pureTop, V.pureLeaf] at hp
  | _ => exact pureRep h hp
/-- What is handed in, at a call. -/
theorem args_rep {xs : Array Value} {vs : List V} (hs : xs.size = vs.length) (h : ∀ (j : Nat) (x : Value) (v : V), xs[j]? = some x → vs[j]? = some v → Rep γ I x v) (hp : (vs.map V.strip).all V.pureTop = true) :
    xs.size = (vs.map V.strip).length ∧ ∀ (j : Nat) (x : Value) (v : V), xs[j]? = some x → (vs.map V.strip)[j]? = some v → RepP I x v := by
  refine ⟨by simpa using hs, fun j x v hx hv => ?_⟩
  simp only [List.getElem?_map, Option.map_eq_some_iff] at hv
  obtain ⟨u, hu, rfl⟩ := hv
  exact strip_pure (h j x u hx hu) (List.all_eq_true.1 hp _ (List.mem_map.2 ⟨u, List.mem_of_getElem? hu, rfl⟩))
theorem append_rep {xs ys : Array Value} {us vs : List V} (h1 : xs.size = us.length) (h2 : ys.size = vs.length) (h3 : ∀ (j : Nat) (x : Value) (v : V), xs[j]? = some x → us[j]? = some v → Rep γ I x v)
    (h4 : ∀ (j : Nat) (x : Value) (v : V), ys[j]? = some x → vs[j]? = some v → Rep γ I x v) :
    (xs ++ ys).size = (us ++ vs).length ∧ ∀ (j : Nat) (x : Value) (v : V), (xs ++ ys)[j]? = some x → (us ++ vs)[j]? = some v → Rep γ I x v := by
  refine ⟨by simp [h1, h2], fun j x v hx hv => ?_⟩
  by_cases hj : j < xs.size
  · rw [Array.getElem?_append_left hj] at hx
    rw [List.getElem?_append_left (by omega)] at hv
    exact h3 j x v hx hv
  · rw [Array.getElem?_append_right (by omega)] at hx
    rw [List.getElem?_append_right (by omega), ← h1] at hv
    exact h4 _ x v hx hv
theorem isCall_inv {m : Bool} {ao : AOp} (hc : compOp P m o = some ao) (hn : ao.isCall = true) : ∃ cl, o.op = .call cl ∧ compCall P m cl = some ao := by
  unfold compOp at hc
  split at hc
  · exact ⟨_, by assumption, hc⟩
  · obtain ⟨_, _, rfl⟩ := map_some hc
    cases hn
  · have := (Option.filter_eq_some_iff.1 hc).2
    rw [hn] at this
    cases this
theorem notDefer {m : Bool} {ao : AOp} (hc : compOp P m o = some ao) : ∀ c, o.op ≠ .defer c := by
  intro c h
  unfold compOp at hc
  rw [h] at hc
  simp [compOp1] at hc
theorem compCall_inv {m : Bool} {cl : Call} {ao : AOp} (hc : compCall P m cl = some ao) (hn : ao.isCall = true) :
    (∃ f xs, cl.callee = .value (.func f) ∧ opds cl.args = some xs ∧ ao = .call f xs) ∨ ∃ x q xs, cl.callee = .value x ∧ (∀ f, x ≠ .func f) ∧ opd x = some q ∧ opds cl.args = some xs ∧ ao = .callV q xs := by
  unfold compCall at hc
  split at hc
  · obtain ⟨xs, hx, rfl⟩ := map_some hc
    split at hn
    · cases hn
    · rename_i hk
      exact .inl ⟨_, xs, by assumption, hx, by simp only⟩
  · rename_i x hnf hcal
    obtain ⟨q, hq, hc⟩ := bind_some hc
    obtain ⟨xs, hx, rfl⟩ := map_some hc
    exact .inr ⟨_, q, xs, by assumption, fun f e => by subst e; exact hnf f rfl, hq, hx, rfl⟩
  · cases hc
  · have := (Option.filter_eq_some_iff.1 hc).2
    rw [hn] at this
    cases this
theorem isNext_inv {m : Bool} {x' : A} (hc : compOp P m o = some (.nextMap x')) : ∃ x, o.op = .next x false ∧ opd x = some x' := by
  unfold compOp at hc
  split at hc
  · unfold compCall at hc
    split at hc
    · obtain ⟨_, _, he⟩ := map_some hc
      split at he <;> cases he
    · obtain ⟨_, _, hc⟩ := bind_some hc
      obtain ⟨_, _, he⟩ := map_some hc
      cases he
    · cases hc
    · have := (Option.filter_eq_some_iff.1 hc).2
      cases this
  · obtain ⟨_, hx, he⟩ := map_some hc
    cases he
    exact ⟨_, by assumption, hx⟩
  · have := (Option.filter_eq_some_iff.1 hc).2
    cases this
/-- The operation of a call: who is called, with what. -/
theorem call_run (hR : R E w0 I0 nt γ I st a w) {m : Bool} {ao : AOp} (hc : compOp P m o = some ao) {f : FuncId} {vs : List V}
    (hf : (∃ xs, ao = .call f xs ∧ vs = xs.map (eval E st.tm)) ∨ ∃ q xs first captured, ao = .callV q xs ∧ eval E st.tm q = .fn (.func f) first captured ∧ vs = first ++ xs.map (eval E st.tm) ++ captured)
    (hfn : FnOk P f) :
    ∃ args : Array Value, (execOp a.eval o).run P w = .ok (.enter f args) w ∧ args.size = vs.length ∧ ∀ (j : Nat) (x : Value) (v : V), args[j]? = some x → vs[j]? = some v → Rep γ I x v := by
  obtain ⟨fn, c, h1, h2, h3⟩ := hfn
  have hn : ao.isCall = true := by rcases hf with ⟨_, rfl, _⟩ | ⟨_, _, _, _, rfl, _⟩ <;> rfl
  obtain ⟨cl, ho, hcc⟩ := isCall_inv hc hn
  have hcf := run_callFunc (P := P) (w := w) h1 h2 h3
  rcases compCall_inv hcc hn with ⟨g, xs, hcal, hx, rfl⟩ | ⟨x, q, xs, hcal, hnf, hq, hx, rfl⟩
  · rcases hf with ⟨ys, he, rfl⟩ | ⟨_, _, _, _, he, _⟩
    · cases he
      obtain ⟨r1, r2⟩ := opds_rep hR hx
      refine ⟨cl.args.map a.eval, ?_, r1, r2⟩
      simp only [execOp, ho, resolve, hcal, Act.eval, Deferred.ofValue, Sem.run_bind, Sem.run_pure, Result.andThen_ok, invoke, Array.empty_append, Array.append_empty]
      exact hcf _
    · cases he
  · rcases hf with ⟨_, he, _⟩ | ⟨q', ys, first, captured, he, hev, rfl⟩
    · cases he
    · cases he
      obtain ⟨r1, r2⟩ := opds_rep hR hx
      have hrq := eval_rep hR hq
      rw [hev] at hrq
      obtain ⟨as, bs, hxv, s1, s2, s3, s4⟩ := inv_fn hrq
      obtain ⟨t1, t2⟩ := append_rep s1 r1 s3 r2
      obtain ⟨u1, u2⟩ := append_rep t1 s2 t2 s4
      refine ⟨as ++ cl.args.map a.eval ++ bs, ?_, u1, u2⟩
      simp only [execOp, ho, resolve, hcal, hxv, Deferred.ofValue, Sem.run_bind, Sem.run_pure, Result.andThen_ok, invoke]
      exact hcf _
/-- The operation that goes on with a range over a function. -/
theorem yield_run (hR : R E w0 I0 nt γ I st a w) {m : Bool} {ao : AOp} (hc : compOp P m o = some ao) {l u : Nat} {vs : List V} (hy : yieldCall (eval E st.tm) ao = some (l, u, vs)) :
    ∃ (b : Nat) (k : Kd) (args : Array Value), γ u = some (.obj b k) ∧ (execOp a.eval o).run P w = (Instr.yield b args).run P w ∧ args.size = vs.length ∧ ∀ (j : Nat) (x : Value) (v : V), args[j]? = some x → vs[j]? = some v → Rep γ I x v := by
  unfold yieldCall at hy
  split at hy
  case h_2 => cases hy
  rename_i q xs
  split at hy
  case h_2 => cases hy
  rename_i l' u' hev
  cases hy
  obtain ⟨cl, ho, hcc⟩ := isCall_inv hc rfl
  rcases compCall_inv hcc rfl with ⟨g, xs', hcal, hx, he⟩ | ⟨x, q', xs', hcal, hnf, hq, hx, he⟩
  · cases he
  · cases he
    obtain ⟨r1, r2⟩ := opds_rep hR hx
    have hrq := eval_rep hR hq
    rw [hev] at hrq
    obtain ⟨b, k, hu, hxv⟩ := inv_yld hrq
    refine ⟨b, k, cl.args.map a.eval, hu, ?_, r1, r2⟩
    simp only [execOp, ho, resolve, hcal, hxv, Deferred.ofValue, Sem.run_bind, Sem.run_pure, Result.andThen_ok, invoke, Array.empty_append]
end
section
variable {P : Program} {E : Env} {w0 w : World} {I0 : IMap} {nt : Nat} {γ : Nat → Option Place} {I : IMap} {st : St} {a : Act} {o : Oper} {ub : Nat} {δ : Delta}
theorem inLeaf_leaf (v : V) : (inLeaf ub v).leaf = v.leaf := by
  unfold inLeaf
  split <;> rfl
theorem lrep_in {τ γ' : Nat → Option Place} {x : Value} {v : V} (h : LRep τ I x v) (hg : ∀ i ∈ v.tok, γ' (ub + i) = τ i) : Rep γ' I x (inLeaf ub v) := by
  cases v with
  | sl t nl n cs =>
    cases t with
    | none => exact .pure _ _ h
    | some p =>
      obtain ⟨i, z⟩ := p
      cases h with
      | tsl u b n cap sz cs xs hu hlen hc hm hi hl hr => exact .tsl _ b _ cap _ _ xs (by rw [hg i (by simp [V.tok])]; exact hu) hlen hc hm hi hl hr
      | pure _ _ h => cases h
  | _ => exact .pure _ _ h
theorem trep_leaf {τ : Nat → Option Place} {x : Value} {v : V} (hv : ∀ cs, v ≠ .agg cs) (h : TRep τ I x v) : LRep τ I x v ∧ inTop ub v = inLeaf ub v ∧ v.toks = v.tok := by
  cases v <;> first | exact absurd rfl (hv _) | exact ⟨h, rfl, rfl⟩
theorem rrep_top {τ : Nat → Option Place} {x : Value} {v : V} (hv : ∀ cs, v ≠ .tup cs) (h : RRep τ I x v) : TRep τ I x v ∧ inRes ub v = inTop ub v ∧ toksRes v = v.toks := by
  cases v <;> first | exact absurd rfl (hv _) | exact ⟨h, rfl, rfl⟩
theorem trep_in {τ γ' : Nat → Option Place} {x : Value} {v : V} (h : TRep τ I x v) (hg : ∀ i ∈ v.toks, γ' (ub + i) = τ i) : Rep γ' I x (inTop ub v) := by
  by_cases hv : ∃ cs, v = .agg cs
  · obtain ⟨cs, rfl⟩ := hv
    obtain ⟨xs, rfl, h1, h2, h3⟩ := h
    refine .agg _ _ (by simpa using h1) (fun j u hu => ?_) (fun j y u hy hu => ?_)
    · simp only [List.getElem?_map, Option.map_eq_some_iff] at hu
      obtain ⟨q, hq, rfl⟩ := hu
      rw [inLeaf_leaf]
      exact h2 j q hq
    · simp only [List.getElem?_map, Option.map_eq_some_iff] at hu
      obtain ⟨q, hq, rfl⟩ := hu
      exact lrep_in (h3 j y q hy hq) (fun i hi => hg i (List.mem_flatMap.2 ⟨q, List.mem_of_getElem? hq, hi⟩))
  · obtain ⟨h1, h2, h3⟩ := trep_leaf (ub := ub) (fun cs e => hv ⟨cs, e⟩) h
    rw [h2]
    rw [h3] at hg
    exact lrep_in h1 hg
theorem rrep_in {τ γ' : Nat → Option Place} {x : Value} {v : V} (h : RRep τ I x v) (hg : ∀ i ∈ toksRes v, γ' (ub + i) = τ i) : Rep γ' I x (inRes ub v) := by
  by_cases hv : ∃ cs, v = .tup cs
  · obtain ⟨vs, rfl⟩ := hv
    obtain ⟨xs, rfl, h1, h3⟩ := h
    refine .tup _ _ (by simpa using h1) (fun j y u hy hu => ?_)
    simp only [List.getElem?_map, Option.map_eq_some_iff] at hu
    obtain ⟨q, hq, rfl⟩ := hu
    exact trep_in (h3 j y q hy hq) (fun i hi => hg i (List.mem_flatMap.2 ⟨q, List.mem_of_getElem? hq, hi⟩))
  · obtain ⟨h1, h2, h3⟩ := rrep_top (ub := ub) (fun cs e => hv ⟨cs, e⟩) h
    rw [h2]
    rw [h3] at hg
    exact trep_in h1 hg
theorem pure_call (hR : R E w0 I0 nt γ I st a w) {dst : Option Tmp} (hd : ∀ d, dst = some d → d < nt) (hf : ∀ u, ub ≤ u → u < ub + 64 → γ u = none) {x : Value} {τ : Nat → Option Place} {I' : IMap} {w' : World} {r : V}
    (hg : w.grownBy w' none) (hI : ∀ b o x, I b o = some x → I' b o = some x) (him : ImmOk I' w') (hold : ∀ b o, b < w.heap.size → I' b o = I b o) (hx : RRep τ I' x r) (ht : TokNew w.heap.size τ I' w' r) (h64 : (toksRes r).all (fun i => Nat.blt i 64) = true) :
    ∃ γ', R E w0 I0 nt γ' I' (st.app dst { v := inRes ub r, add := (toksRes r).map (ub + ·) }) (a.put dst x) w' ∧ (∀ u, ¬(ub ≤ u ∧ u < ub + 64) → γ' u = γ u) ∧ (∀ u p, γ u = some p → γ' u = some p) := by
  have hlt64 : ∀ i ∈ toksRes r, i < 64 := fun i hi => by
    have := List.all_eq_true.1 h64 i hi
    simpa [Nat.blt_eq] using this
  let γ' : Nat → Option Place := fun u => if ub ≤ u ∧ u < ub + 64 then τ (u - ub) else γ u
  have hγ : ∀ u p, γ u = some p → γ' u = some p := by
    intro u p hu
    have : ¬ (ub ≤ u ∧ u < ub + 64) := fun h => by rw [hf u h.1 h.2] at hu; cases hu
    simp only [γ', this, if_false, hu]
  have hγi : ∀ i ∈ toksRes r, γ' (ub + i) = τ i := by
    intro i hi
    have := hlt64 i hi
    have h2 : ub ≤ ub + i ∧ ub + i < ub + 64 := ⟨by omega, by omega⟩
    simp only [γ', h2, and_self, if_true, Nat.add_sub_cancel_left]
  obtain ⟨Ω, ho⟩ := hR.own
  have hsame : ∀ b, b < w.heap.size → w'.heap[b]? = w.heap[b]? := fun b hb => hg.block b hb (by simp)
  classical
  let Q : Nat → Nat → Prop := fun b i => i ∈ toksRes r ∧ ∃ n c s, τ i = some (.tok b n c s)
  let Ω' : Nat → Option Owner := fun b => if h : ∃ i, Q b i then some (.tk (ub + h.choose)) else Ω b
  have hQge : ∀ b i, Q b i → w.heap.size ≤ b ∧ b < w'.heap.size := by
    intro b i hq
    obtain ⟨hi, n, c, s, hτ⟩ := hq
    obtain ⟨b', n', c', s', h1, h2, h3, _⟩ := ht i hi
    rw [hτ] at h1
    cases h1
    exact ⟨h2, h3⟩
  have hΩold : ∀ b, b < w.heap.size → Ω' b = Ω b := by
    intro b hb
    have : ¬ ∃ i, Q b i := fun ⟨i, hi⟩ => by have := (hQge b i hi).1; omega
    simp only [Ω', this, dif_neg, not_false_eq_true]
  have hΩnew : ∀ b i, Q b i → Ω' b = some (.tk (ub + i)) := by
    intro b i hq
    have hex : ∃ i, Q b i := ⟨i, hq⟩
    have hch := hex.choose_spec
    have : hex.choose = i := by
      obtain ⟨hi, n, c, s, hτ⟩ := hq
      obtain ⟨b', n', c', s', h1, _, _, _, _, huniq⟩ := ht i hi
      rw [hτ] at h1
      cases h1
      obtain ⟨hi2, n2, c2, s2, hτ2⟩ := hch
      exact huniq _ hi2 _ _ _ hτ2
    simp only [Ω', hex, dif_pos, this]
  refine ⟨γ', ⟨(put_size _ _ _).trans hR.sz, df_put hR hγ _ _, ?_, ⟨him, fun g cs h => (hR.gl g cs h).mono hI, ⟨Ω', ⟨?_, ?_, ?_⟩⟩, ?_, ?_⟩⟩, ?_, hγ⟩
  · exact rep_put (by rw [hR.sz]; exact hd) (fun t => (hR.tm t).mono hγ hI) (rrep_in hx hγi)
  · intro l ob hl
    have hobs : (st.app dst { v := inRes ub r, add := (toksRes r).map (ub + ·) }).ob = st.ob := by simp [St.app, setObs]
    rw [hobs] at hl ⊢
    obtain ⟨b, k, k1, k2, k3, k4, k5⟩ := ho.ob l ob hl
    have hlt := ho.lt _ _ k2
    have hkeep : MapsKeep γ st.ob st.ob w.heap w'.heap := fun l2 u2 ver' es' mb mk _ hl2 => .inl ⟨hl2, fun m c hm2 => by
      rw [hsame mb (Array.getElem?_eq_some_iff.1 hm2).1]
      exact hm2⟩
    exact ⟨b, k, hγ _ _ k1, by rw [hΩold b hlt]; exact k2, k3, by rw [hsame b hlt]; exact (k4.keep hkeep).mono hγ hI, fun j => by rw [hold b j hlt]; exact k5 j⟩
  · intro u hu
    simp only [St.app, setToks_one, Option.toList_none, List.not_mem_nil, if_false] at hu
    split at hu
    · rename_i hmem
      obtain ⟨i, hi, rfl⟩ := List.mem_map.1 hmem
      obtain ⟨b, n, c, s, h1, h2, h3, h4, h5, _⟩ := ht i hi
      exact ⟨b, n, c, s, by rw [hγi i hi]; exact h1, hΩnew b i ⟨hi, n, c, s, h1⟩, Nat.le_trans hR.fr.size h2, h4, h5⟩
    · obtain ⟨b, n, c, s, k1, k2, k3, k4, k5⟩ := ho.tk u hu
      have hlt := ho.lt _ _ k2
      exact ⟨b, n, c, s, hγ _ _ k1, by rw [hΩold b hlt]; exact k2, k3, by rw [hsame b hlt]; exact k4, fun j hj => by rw [hold b j hlt]; exact k5 j hj⟩
  · intro b ow hb
    by_cases hlt : b < w.heap.size
    · exact Nat.lt_of_lt_of_le hlt hg.size
    · by_cases hq : ∃ i, Q b i
      · obtain ⟨i, hi⟩ := hq; exact (hQge b i hi).2
      · simp only [Ω', hq, dif_neg, not_false_eq_true] at hb
        exact absurd (ho.lt _ _ hb) hlt
  · exact Grow.frame hR.fr (T := fun _ => False) ⟨hg.os, hg.tape, hg.output, hg.size, fun k hk _ => hsame k hk, fun k hk => hk.elim⟩
  · intro b j hb
    rw [hold b j (Nat.lt_of_lt_of_le hb hR.fr.size)]
    exact hR.old b j hb
  · intro u hu
    simp only [γ', hu, if_false]
end
section
variable {P : Program} {E : Env} {w0 w : World} {I0 : IMap} {nt : Nat} {γ τ : Nat → Option Place} {I I' I1 : IMap} {st : St} {a : Act} {B : Nat} {Ω : Nat → Option Owner}
/-- The objects of a frame that has ended. -/
def Frozen (γ : Nat → Option Place) (B : Nat) (st : St) (w : World) (I I' : IMap) : Prop :=
  (∀ b o x, I b o = some x → I' b o = some x) ∧ (∀ b k o x l u cs, B ≤ b → ObRow st.ob l u cs → γ u = some (.obj b k) → o < cs.length → w.cell? ⟨b, o, none⟩ = some x → I' b o = some x)
theorem pure_strip {v : V} (h : v.pureLeaf = true) : v.strip1 = v := strip1_of_pure h
theorem pure_rep {x : Value} {v : V} (h : Rep γ I x v) (hp : v.pureLeaf = true) : RepP I x v := by
  have := pureRep h (by rw [pure_strip hp]; exact hp)
  rwa [pure_strip hp] at this
theorem solid_ok (ho : Own γ I B st w Ω) (hz : Frozen γ B st w I I') : ∀ (k : Nat) (x : Value) (v v' : V), Rep γ I x v → solid st k v = some v' → RepP I' x v' ∧ v'.pureLeaf = true
  | 0, _, _, _, _, h => by cases h
  | k + 1, x, v, v', hx, hv => by
    have other : (if v.pureLeaf then some v else none) = some v' → RepP I' x v' ∧ v'.pureLeaf = true := by
      intro h
      simp only [Option.ite_none_right_eq_some, Option.some.injEq] at h
      obtain ⟨hp, rfl⟩ := h
      exact ⟨(pure_rep hx hp).mono hz.1, hp⟩
    cases v with
    | sl t nl n cs =>
      cases t with
      | none => exact other hv
      | some q =>
        simp only [solid, Option.some.injEq] at hv
        subst hv
        exact ⟨(pureRep hx (by simp [V.strip1, V.pureLeaf])).mono hz.1, rfl⟩
    | osl l u off n sz =>
      simp only [solid] at hv
      obtain ⟨cs, hcs, hv⟩ := bind_some hv
      simp only [Option.ite_none_right_eq_some] at hv
      obtain ⟨⟨hro, hle⟩, hv⟩ := hv
      obtain ⟨cs', hcs', rfl⟩ := map_some hv
      refine ⟨?_, rfl⟩
      obtain ⟨b, kb, ad, cap, hu, rfl, ha, hc, hm⟩ := inv_osl hx
      obtain ⟨B0, hob, hB0⟩ := objCells_inv hcs
      obtain ⟨b', kb', k1, k2, k3, k4, k5⟩ := ho.ob l _ hob
      obtain ⟨arr, e, m1, m2, m4, m3⟩ := row_ok k4 hB0
      rw [hu] at k1
      cases k1
      have hB : B ≤ b := k3 (by simpa [Nat.ble_eq] using hro)
      obtain ⟨hlen', hget'⟩ := mapM_some hcs'
      have hlen : ((cs.drop off).take (n * sz)).length = n * sz := by simp only [List.length_take, List.length_drop]; omega
      have hget : ∀ j, j < cs.length → arr[j]? = some (arr.getD j undef) := by
        intro j hj
        have : j < arr.size := by omega
        simp [this]
      have hne : 0 < n * sz → 0 < n := fun h => Nat.pos_of_ne_zero fun h0 => by subst h0; simp at h
      have hone : ∀ (j : Nat) (q : V), cs'[j]? = some q → j < n * sz ∧ RepP I' (arr.getD (off + j) undef) q ∧ q.pureLeaf = true := by
        intro j q hq
        have hj : j < n * sz := by have := (List.getElem?_eq_some_iff.1 hq).1; omega
        have hv : ((cs.drop off).take (n * sz))[j]? = some (((cs.drop off).take (n * sz))[j]'(by omega)) := List.getElem?_eq_getElem _
        have hsol := hget' j _ _ hv hq
        rw [List.getElem?_take_of_lt hj, List.getElem?_drop] at hv
        obtain ⟨q1, q2⟩ := m3 _ _ _ (hget (off + j) (List.getElem?_eq_some_iff.1 hv).1) hv
        exact ⟨hj, solid_ok ho hz k _ _ _ q2 hsol⟩
      refine .sl ad n cap _ (fun j => arr.getD (off + j) undef) (fun hcs => ?_) hc hm (fun j hj => ?_) (fun j v hv => (hone j v hv).2.2) (fun j v hv => (hone j v hv).2.1)
      · have hpos : 0 < cs'.length := List.length_pos_iff.2 hcs
        rw [(ha (by have := hne (by omega); omega)).1]
      · have hj' : j < n * sz := by omega
        rw [(ha (by have := hne (by omega); omega)).1]
        refine hz.2 b kb (off + j) _ l u cs hB ⟨B0, hob, hB0⟩ hu (by omega) ?_
        simp only [World.cell?, m1, Option.isSome_none, Bool.false_eq_true, if_false]
        exact hget (off + j) (by omega)
    | _ => exact other hv
theorem scal_rep {x : Value} {v : V} (h : RepP I x v) (hs : v.scal = true) : RepP I' x v := by
  cases h <;> first | (simp [V.scal] at hs; done) | constructor
theorem frz_top {γ : Nat → Option Place} {w : World} {Ω : Nat → Option Owner} {ob : Nat → Option Obj'} (ho : Own γ I 0 (startS [] ob (fun _ => false) 0 0 0) w Ω) (hz : Frozen γ 0 (startS [] ob (fun _ => false) 0 0 0) w I I')
    {x : Value} {v v' : V} (hx : Rep γ I x v) (hv : frzTop ob v = some v') : RepP I' x v' := by
  cases v with
  | agg cs =>
    obtain ⟨xs, rfl, h1, h2, h3⟩ := inv_agg hx
    simp only [frzTop] at hv
    obtain ⟨cs', hcs, rfl⟩ := map_some hv
    obtain ⟨k1, k2⟩ := mapM_some hcs
    have key : ∀ (j : Nat) (y : Value) (u : V), xs[j]? = some y → cs'[j]? = some u → RepP I' y u ∧ u.pureLeaf = true := by
      intro j y u hy hu
      have hj : j < cs.length := by have := (List.getElem?_eq_some_iff.1 hu).1; omega
      have hc : cs[j]? = some (cs[j]) := List.getElem?_eq_getElem hj
      exact solid_ok ho hz 6 _ _ _ (h3 j y _ hy hc) (k2 j _ _ hc hu)
    refine .agg xs cs' (by omega) (fun j u hu => ?_) (fun j y u hy hu => (key j y u hy hu).1)
    have hj : j < xs.size := by have := (List.getElem?_eq_some_iff.1 hu).1; omega
    exact pure_leaf (key j _ u (Array.getElem?_eq_getElem hj) hu).2
  | fn f as bs => cases hv
  | _ => exact (solid_ok ho hz 6 _ _ _ hx hv).1
/-- What is handed on stands for what lies there as it is. -/
theorem frz_args {γ : Nat → Option Place} {st : St} {w w0 : World} {I0 : IMap} {ob : Nat → Option Obj'} {args args' : List V} {xs : Array Value} (hob : ∀ l x, ob l = some x → st.ob l = some x) (hSh : Sh E w0 I0 γ I st w) (ha : args.mapM (frzTop ob) = some args')
    (hrep : ∀ (j : Nat) (x : Value) (v : V), xs[j]? = some x → args[j]? = some v → Rep γ I x v) : args'.length = args.length ∧ ∀ (j : Nat) (x : Value) (v : V), xs[j]? = some x → args'[j]? = some v → RepP (fun b o => w.cell? ⟨b, o, none⟩) x v := by
  obtain ⟨Ω, ho⟩ := hSh.own
  have ho' : Own γ I 0 (startS [] ob (fun _ => false) 0 0 0) w Ω := by
    refine ⟨fun l o hl => ?_, fun u h => (by cases h), ho.lt⟩
    obtain ⟨b, k, h1, h2, h3, h4, h5⟩ := ho.ob l o (hob l o hl)
    exact ⟨b, k, h1, h2, fun _ => Nat.zero_le _, h4.keep (fun l2 u2 ver' es' mb mk _ hl2 => .inl ⟨hob _ _ hl2, fun m c hm => hm⟩), h5⟩
  have hz : Frozen γ 0 (startS [] ob (fun _ => false) 0 0 0) w I (fun b o => w.cell? ⟨b, o, none⟩) := ⟨hSh.imm, fun b k o x l u cs _ _ _ _ hc => hc⟩
  obtain ⟨hlen, hget⟩ := mapM_some ha
  refine ⟨hlen, fun j x v hx hv => ?_⟩
  have hj : j < args.length := by have := (List.getElem?_eq_some_iff.1 hv).1; omega
  have hc : args[j]? = some (args[j]) := List.getElem?_eq_getElem hj
  exact frz_top ho' hz (hrep j x _ hx hc) (hget j _ _ hc hv)
/-- A call whose result is the caller's own. -/
theorem thaw_one {f : FuncId} {args args' : List V} {ob0 : Nat → Option Obj'} {d ub : Nat} {v : V} {δ : Delta} (hob0 : ∀ l x, ob0 l = some x → st.ob l = some x) (hp : PureOk P E f args' v) (ha : args.mapM (frzTop ob0) = some args') (hδ : thawD d ub v = some δ)
    {xs : Array Value} (hSh : Sh E w0 I0 γ I st w) (hub : γ ub = none) (hsz : xs.size = args.length) (hrep : ∀ (j : Nat) (x : Value) (v : V), xs[j]? = some x → args[j]? = some v → Rep γ I x v) :
    Calls P f xs w fun e w' => ∃ x γ', e = .returned x ∧ (∀ st' : St, st'.ob = setObs st.ob δ.obs → st'.tk = st.tk → st'.ro = st.ro → Sh E w0 I0 γ' I st' w') ∧ Rep γ' I x δ.v ∧ SubG γ γ' ∧ (∀ u, u ≠ ub → γ' u = γ u) := by
  obtain ⟨hlen, hget⟩ := frz_args hob0 hSh ha hrep
  refine (hp w (fun b o => w.cell? ⟨b, o, none⟩) xs (fun _ _ _ h => h) (fun g cs hg => (hSh.gl g cs hg).mono hSh.imm) (hsz.trans hlen.symm) hget).mono fun e w' he => ?_
  obtain ⟨x, τ, I1, rfl, hg, hI, him, hold, hx, ht⟩ := he
  have hsame : ∀ b, b < w.heap.size → w'.heap[b]? = w.heap[b]? := fun b hb => hg.block b hb (by simp)
  have himm : ∀ b o y, I b o = some y → w'.cell? ⟨b, o, none⟩ = some y := fun b o y hy => him b o y (hI b o y (hSh.imm b o y hy))
  have hfr' : w0.grownBy w' none := Grow.frame hSh.fr (T := fun _ => False) ⟨hg.os, hg.tape, hg.output, hg.size, fun k hk _ => hsame k hk, fun k hk => hk.elim⟩
  obtain ⟨Ω, ho⟩ := hSh.own
  have plain : v.scal = true → thawD d ub v = some { v := v } → ∃ x' γ', Ending.returned x = .returned x' ∧ (∀ st' : St, st'.ob = setObs st.ob δ.obs → st'.tk = st.tk → st'.ro = st.ro → Sh E w0 I0 γ' I st' w') ∧ Rep γ' I x' δ.v ∧ SubG γ γ' ∧ (∀ u, u ≠ ub → γ' u = γ u) := by
    intro hs he
    rw [he] at hδ
    cases hδ
    refine ⟨x, γ, rfl, fun st' h1 h2 h3 => ?_, .pure _ _ ?_, fun _ _ h => h, fun _ _ => rfl⟩
    · replace h1 : st'.ob = st.ob := h1
      refine ⟨himm, hSh.gl, ⟨Ω, ⟨fun l o hl => ?_, fun u hu => ?_, fun b o hb => Nat.lt_of_lt_of_le (ho.lt b o hb) hg.size⟩⟩, hfr', hSh.old⟩
      · rw [h1] at hl
        obtain ⟨b, k, k1, k2, k3, k4, k5⟩ := ho.ob l o hl
        have hlt := ho.lt _ _ k2
        have hkeep : MapsKeep γ st.ob st'.ob w.heap w'.heap := fun l2 u2 ver' es' mb mk _ hl2 => .inl ⟨by rw [← h1]; exact hl2, fun m c hm2 => by
          rw [hsame mb (Array.getElem?_eq_some_iff.1 hm2).1]
          exact hm2⟩
        exact ⟨b, k, k1, k2, by rw [h3]; exact k3, by rw [hsame b hlt]; exact k4.keep hkeep, k5⟩
      · rw [h2] at hu
        obtain ⟨b, n, c, s, k1, k2, k3, k4, k5⟩ := ho.tk u hu
        exact ⟨b, n, c, s, k1, k2, k3, by rw [hsame b (ho.lt _ _ k2)]; exact k4, k5⟩
    · have : RepP I1 x v := by
        cases v with
        | tup | agg => cases hs
        | sl t nl n cs => cases t with
          | none => exact hx
          | some q => cases hs
        | _ => exact hx
      exact scal_rep this hs
  cases v with
  | sl t nl n cs =>
    cases t with
    | none =>
      cases hs : (V.sl none nl n cs).scal with
      | true => exact plain hs (by cases nl <;> simp [thawD, hs])
      | false => cases nl <;> simp [thawD, hs] at hδ
    | some q =>
      obtain ⟨i, z⟩ := q
      cases nl with
      | true => simp [thawD, V.scal] at hδ
      | false =>
        simp only [thawD, Option.ite_none_right_eq_some, Option.some.injEq] at hδ
        obtain ⟨hsc, rfl⟩ := hδ
        have hx' : Rep τ I1 x (.sl (some (i, z)) false n cs) := hx
        cases hx' with
        | pure _ _ h => cases h
        | tsl _ b _ cap _ _ xs' hu hlen' hc hm hi hl hrr =>
          obtain ⟨b', n', cap', sz', k1, k2, k3, k4, k5, k6⟩ := ht i (by simp [toksRes, V.toks, V.tok])
          rw [hu] at k1
          cases k1
          obtain ⟨arr, e, m1, m2, m3, m4⟩ := k4
          have hmono := upd_mono (f := γ) (k := ub) (v := Place.obj b (.n arr.size)) hub
          have hIb : ∀ j, I b j = none := by
            intro j
            cases hj : I b j with
            | none => rfl
            | some y => exact absurd (World.block_lt_of_cell? _ _ (hSh.imm _ _ _ hj)) (by simpa using k2)
          have hcl : cs.length ≤ arr.size := by rw [hlen']; exact Nat.le_trans (Nat.mul_le_mul_right _ hc) m2
          refine ⟨_, upd γ ub (some (.obj b (.n arr.size))), rfl, fun st' h1 h2 h3 => ?_, ?_, hmono, fun u hu => upd_ne _ _ hu⟩
          · replace h1 : st'.ob = upd st.ob d (some ⟨ub, .cells cs⟩) := h1
            refine ⟨himm, hSh.gl, ⟨upd Ω b (some (.ob d)), ⟨fun l o hl => ?_, fun u hu => ?_, fun c o hc' => ?_⟩⟩, hfr', hSh.old⟩
            · have hkeep : MapsKeep γ st.ob st'.ob w.heap w'.heap := by
                intro l2 u2 ver' es' mb mk hu2 hl2
                rw [h1, upd_apply] at hl2
                split at hl2
                · simp at hl2
                · exact .inl ⟨hl2, fun m c hm2 => by rw [hsame mb (Array.getElem?_eq_some_iff.1 hm2).1]; exact hm2⟩
              rw [h1, upd_apply] at hl
              split at hl
              · rename_i hld
                subst hld
                cases hl
                refine ⟨b, .n arr.size, by simp, by simp, fun _ => Nat.le_trans hSh.fr.size k2, ⟨arr, e, m1, rfl, hcl, fun j y u hy hu' => ?_⟩, hIb⟩
                have hj := (List.getElem?_eq_some_iff.1 hu').1
                have hcell := him b j _ (hi j hj)
                simp only [World.cell?, m1, Option.isSome_none, Bool.false_eq_true, if_false] at hcell
                rw [hy] at hcell
                cases hcell
                exact ⟨pure_leaf (hl j u hu'), .pure _ _ (scal_rep (hrr j u hu') (List.all_eq_true.1 hsc u (List.mem_of_getElem? hu')))⟩
              · obtain ⟨b2, k, q1, q2, q3, q4, q5⟩ := ho.ob l o hl
                have hlt := ho.lt _ _ q2
                exact ⟨b2, k, hmono _ _ q1, by rw [upd_ne _ _ (by omega)]; exact q2, by rw [h3]; exact q3, by rw [hsame b2 hlt]; exact (q4.keep hkeep).mono hmono (fun _ _ _ h => h), q5⟩
            · rw [h2] at hu
              obtain ⟨b2, n2, c2, s2, q1, q2, q3, q4, q5⟩ := ho.tk u hu
              have hlt := ho.lt _ _ q2
              exact ⟨b2, n2, c2, s2, hmono _ _ q1, by rw [upd_ne _ _ (by omega)]; exact q2, q3, by rw [hsame b2 hlt]; exact q4, q5⟩
            · rw [upd_apply] at hc'
              split at hc'
              · rename_i e'; omega
              · exact Nat.lt_of_lt_of_le (ho.lt c o hc') hg.size
          · refine Rep.osl _ ub 0 n z cap b (.n arr.size) ⟨b, 0, none⟩ (by simp) (fun _ => ⟨rfl, ?_⟩) hc hm
            simpa [Kd.size] using m2
  | agg | tup | undef | eptr | ptr | osl | map | iter | fn | iface | yld => simp [thawD, V.scal] at hδ
  | _ => exact plain rfl rfl
theorem thawD_else {d ub : Nat} {v : V} (hne : ∀ a z n cs, v ≠ .sl (some (a, z)) false n cs) : thawD d ub v = if v.scal then some { v := v } else none := by
  unfold thawD
  split
  · exact absurd rfl (hne _ _ _ _)
  · rfl
theorem thawR_D {ob ob' : Nat → Option Obj'} {tk tk' : Nat → Bool} {ub ub' : Nat} {v r : V} (h : thawR ob tk ub v = some (r, ob', tk', ub')) : ∃ δ, thawD (2 * ub + 1) ub v = some δ ∧ r = δ.v ∧ ob' = setObs ob δ.obs ∧ tk' = tk ∧ ub' = ub + 64 := by
  unfold thawR at h
  unfold thawD
  split at h
  · rename_i n cs z
    simp only [Option.ite_none_right_eq_some, Option.some.injEq, Prod.mk.injEq] at h
    obtain ⟨hs, rfl, rfl, rfl, rfl⟩ := h
    exact ⟨_, if_pos hs, rfl, rfl, rfl, rfl⟩
  · rename_i hne
    simp only [Option.ite_none_right_eq_some, Option.some.injEq, Prod.mk.injEq] at h
    obtain ⟨hs, rfl, rfl, rfl, rfl⟩ := h
    exact ⟨{ v := v }, if_pos hs, rfl, rfl, rfl, rfl⟩
theorem thawD_wt {d ub : Nat} {v : V} {δ : Delta} (h : thawD d ub v = some δ) : δ.wt = [] ∧ δ.kill = [] := by
  unfold thawD at h
  split at h
  · simp only [Option.ite_none_right_eq_some, Option.some.injEq] at h
    obtain ⟨_, rfl⟩ := h
    exact ⟨rfl, rfl⟩
  · simp only [Option.ite_none_right_eq_some, Option.some.injEq] at h
    obtain ⟨_, rfl⟩ := h
    exact ⟨rfl, rfl⟩
theorem thaw_ok {γ0 : Nat → Option Place} {Iy : IMap} {f : FuncId} {args args' : List V} {ob ob' : Nat → Option Obj'} {tk tk' : Nat → Bool} {ro ub ub' : Nat} {v r : V} (hp : PureOk P E f args' v) (ha : args.mapM (frzTop ob) = some args') (hr : thawR ob tk ub v = some (r, ob', tk', ub')) :
    SharedOk P E γ0 Iy f args ob tk ro ub [(r, ob', tk', ub')] := by
  intro w0 w I0 I γ xs st hg0 hI0 hob htk hro hSh hfr hsz hrep
  subst hob htk hro
  obtain ⟨δ, hδ, rfl, rfl, rfl, rfl⟩ := thawR_D hr
  refine (thaw_one (fun _ _ h => h) hp ha hδ hSh (hfr ub (Nat.le_refl _)) hsz hrep).mono fun e w' he => ?_
  obtain ⟨x, γ', rfl, h1, h2, h3, h4⟩ := he
  exact ⟨_, List.mem_singleton.2 rfl, x, γ', I, rfl, h1, h2, h3, fun _ _ _ h => h, fun u hu => by have hu : ub + 64 ≤ u := hu; rw [h4 u (by omega)]; exact hfr u (by omega)⟩
end
section
variable {P : Program} {E : Env} {w0 w : World} {I0 : IMap} {nt : Nat} {γ : Nat → Option Place} {I : IMap} {st : St} {a : Act} {o : Oper} {ub : Nat} {δ : Delta}
/-- All is as the interpreter has it, and what it knew, it knows. -/
def Nice (E : Env) (w0 : World) (I0 : IMap) (nt : Nat) (γ : Nat → Option Place) (I : IMap) (st : St) (ub : Nat) (K : Act → World → Prop) : Prop :=
  ∀ γ' I' a' w', R E w0 I0 nt γ' I' st a' w' → (∀ u, ub ≤ u → γ' u = none) → (∀ u p, γ u = some p → γ' u = some p) → (∀ b o x, I b o = some x → I' b o = some x) → K a' w'
theorem rep_undef {γ : Nat → Option Place} {I : IMap} : Rep γ I undef none' := .tup _ _ rfl (by simp)
theorem r_skip (hR : R E w0 I0 nt γ I st a w) {dst : Option Tmp} (hd : ∀ d, dst = some d → d < nt) : R E w0 I0 nt γ I { st with tm := put st.tm dst none' } (a.put dst undef) w := hR.put hd rep_undef
theorem compOpr_inv {m : Bool} {ops : Array Oper} {ao : AOpr} (hc : compOpr P m ops o = some ao) : ao.dst = o.dst ∧ (compOp P m o = some ao.op ∨ ao.op = .stuck) := by
  have hg : compOp P m o = some ((compOp P m o).getD .stuck) ∨ (compOp P m o).getD .stuck = .stuck := by
    cases compOp P m o with
    | none => exact .inr rfl
    | some x => exact .inl rfl
  unfold compOpr at hc
  split at hc
  · cases hc; exact ⟨rfl, hg⟩
  · obtain ⟨t, ht, rfl⟩ := map_some hc; exact ⟨rfl, hg⟩
theorem wanted_ok (hR : R E w0 I0 nt γ I st a w) {m : Bool} {ops : Array Oper} {ao : AOpr} {b : Bool} (hc : compOpr P m ops o = some ao) (hw : wanted ao st.tm = some b) : Region.wanted o (yielded ops a.tmps) = b := by
  unfold compOpr at hc
  unfold Region.wanted
  cases hg : o.guard with
  | none =>
    simp only [hg, Option.some.injEq] at hc
    subst hc
    simp only [wanted, Option.some.injEq] at hw
    exact hw
  | some g =>
    obtain ⟨j, want⟩ := g
    simp only [hg] at hc
    obtain ⟨t, ht, rfl⟩ := map_some hc
    simp only [wanted] at hw
    have hrep := hR.tm t
    have hy : yielded ops a.tmps j = match a.tmps[t]? with | some (.bool b) => some b | _ => none := by
      unfold yielded
      rw [ht]
      rfl
    simp only [hy]
    split at hw
    · rename_i b' hb
      cases hw
      rw [hb] at hrep
      have hv : a.tmps.getD t undef = .bool b' := by
        generalize a.tmps.getD t undef = x at hrep
        cases hrep with
        | pure _ _ h => cases h; rfl
      have hlt : t < a.tmps.size := by
        rcases Nat.lt_or_ge t a.tmps.size with h | h
        · exact h
        · simp [Array.getElem?_eq_none h, undef] at hv
      have : a.tmps[t]? = some (.bool b') := by
        rw [Array.getElem?_eq_getElem hlt]
        simpa [hlt] using hv
      simp only [this]
      cases b' <;> cases want <;> rfl
    · rename_i hb
      cases hw
      rw [hb] at hrep
      have hv : ∀ b, a.tmps.getD t undef ≠ .bool b := by
        intro b e
        rw [e] at hrep
        cases hrep with
        | pure _ _ h => cases h
      have : ∀ b, a.tmps[t]? ≠ some (.bool b) := by
        intro b e
        exact hv b (by simp [e])
      split
      · rename_i b hb; exact absurd hb (this b)
      · rfl
    · cases hw
theorem wpIn_of {r : Option Nat} {K : Act → World → Prop} {Q : Exit → Act → World → Prop} (hnd : ∀ c, o.op ≠ .defer c) (h : o.uponIn (FW r) 0 P a K Q ((execOp a.eval o).run P w)) : o.wpIn (FW r) 0 P a w K Q :=
  ⟨fun _ _ => trivial, by rw [Oper.semAt_eq _ _ _ hnd]; exact h⟩
theorem upon_enter {r : Option Nat} {K : Act → World → Prop} {Q : Exit → Act → World → Prop} {f : FuncId} {args : Array Value} {R' : Ending → World → Prop} (h : Calls P f args w R') (hK : ∀ e w', R' e w' → ∃ v, e = .returned v ∧ K (a.put o.dst v) w') :
    o.uponIn (FW r) 0 P a K Q (.ok (.enter f args) w) := by
  rw [Oper.uponIn_enter]
  refine ⟨(fun h => by cases h), callsFW (Calls.mono h fun e w' he => ?_)⟩
  obtain ⟨v, rfl, hv⟩ := hK e w' he
  exact hv
theorem upon_round {r : Option Nat} {K : Act → World → Prop} {Q : Exit → Act → World → Prop} {l : Nat} {f : FuncId} {tmps : Array Value} {as bd : Code} {R' : Ending → World → Prop} (h : RoundIn (FW none) 0 P l f tmps as bd w R') (hK : ∀ e w', R' e w' → ∃ v, e = .returned v ∧ K (a.put o.dst v) w') :
    o.uponIn (FW r) 0 P a K Q (.ok (.round l f tmps as bd) w) := by
  rw [Oper.uponIn_round]
  refine ⟨(fun h => by cases h), ?_⟩
  have := RoundIn.mono h (R' := fun
      | .returned v, w'' => K (a.put o.dst v) w''
      | .panicked chain, w'' => Q (.panic chain) a w''
      | .outgrown, _ => LetsOut Q) (fun e w' he => by
    obtain ⟨v, rfl, hv⟩ := hK e w' he
    exact hv)
  exact this
variable {γ0 : Nat → Option Place} {Iy : IMap}
/-- A step that shares nothing. -/
theorem alone_ok {m : Bool} {cd : Callers} {r : Option Nat} {ao : AOp} {K : Act → World → Prop} {Q : Exit → Act → World → Prop} (hco : COk P E γ0 Iy cd)
    (hR : R E w0 I0 nt γ I st a w) (hf : ∀ u, ub ≤ u → u < ub + 64 → γ u = none) (hop : compOp P m o = some ao) (hd : ∀ d, o.dst = some d → d < nt) {d : Nat}
    (hδ : aop cd.d (eval E st.tm) st.ob st.tk st.ro d ub ao = some δ)
    (hK : ∀ γ' I' a' w', R E w0 I0 nt γ' I' (st.app o.dst δ) a' w' → (∀ u, ¬(ub ≤ u ∧ u < ub + 64) → γ' u = γ u) → (∀ u p, γ u = some p → γ' u = some p) → (∀ b o x, I b o = some x → I' b o = some x) → K a' w') :
    o.wpIn (FW r) 0 P a w K Q := by
  by_cases hn : ao.isCall = false
  · obtain ⟨x, w', γ', I', hrun, hR', hγ, hmono, hI⟩ := op_ok hR hd (hf ub (Nat.le_refl _) (by omega)) hop hn hδ
    refine wpIn_of (notDefer hop) ?_
    rcases hrun with hrun | ⟨hrun, rfl⟩
    · rw [hrun]
      exact hK γ' I' _ _ hR' hγ hmono hI
    · rw [hrun]
      exact hK γ' I' _ _ hR' hγ hmono hI
  · have hcall : ∃ f vs, ((∃ xs, ao = .call f xs ∧ vs = xs.map (eval E st.tm)) ∨ ∃ q xs first captured, ao = .callV q xs ∧ eval E st.tm q = .fn (.func f) first captured ∧ vs = first ++ xs.map (eval E st.tm) ++ captured) ∧
        callA cd.d ub f (vs.map V.strip) = some δ := by
      cases ao <;> simp only [AOp.isCall, not_true_eq_false, Bool.true_eq_false, not_false_eq_true] at hn
      case call f xs => exact ⟨f, _, .inl ⟨xs, rfl, rfl⟩, by rw [List.map_map]; exact hδ⟩
      case callV q xs =>
        simp only [aop] at hδ
        split at hδ
        · rename_i f first captured hev
          exact ⟨f, _, .inr ⟨q, xs, first, captured, rfl, hev, rfl⟩, hδ⟩
        · cases hδ
    obtain ⟨f, vs, hwho, hcall⟩ := hcall
    unfold callA at hcall
    split at hcall
    case isFalse => cases hcall
    rename_i hpure
    obtain ⟨r, hr, hcall⟩ := bind_some hcall
    unfold retA at hcall
    split at hcall
    case isFalse => cases hcall
    rename_i h64
    cases hcall
    obtain ⟨hfn, hpok⟩ := hco.d _ _ _ hr
    obtain ⟨args, hrun, hsz, hargs⟩ := call_run hR hop hwho hfn
    obtain ⟨hsz', hargs'⟩ := args_rep hsz hargs hpure
    have := hpok w I args hR.imm hR.gl hsz' hargs'
    refine wpIn_of (notDefer hop) ?_
    rw [hrun]
    refine upon_enter this fun e w' he => ?_
    obtain ⟨x, τ, I', rfl, hg, hI, him, hold, hx, ht⟩ := he
    obtain ⟨γ', hR', hfr, hmono⟩ := pure_call hR hd hf hg hI him hold hx ht h64
    exact ⟨x, rfl, hK γ' I' _ _ hR' hfr hmono hI⟩
/-- Who is called, if the call shares. -/
theorem sharedCall_inv {ao : AOp} {nm : Bool} {ρ : A → V} {f : FuncId} {vs : List V} (h : sharedCall E nm ρ ao = some (f, vs)) : (∃ xs, ao = .call f xs ∧ vs = xs.map ρ) ∨ ∃ q xs first captured, ao = .callV q xs ∧ ρ q = .fn (.func f) first captured ∧ vs = first ++ xs.map ρ ++ captured := by
  unfold sharedCall at h
  split at h
  · rename_i g xs
    split at h
    · cases h
    · cases h
      exact .inl ⟨xs, rfl, rfl⟩
  · rename_i q xs
    split at h
    · rename_i g first captured hev
      split at h
      · cases h
      · cases h
        exact .inr ⟨q, xs, first, captured, rfl, hev, rfl⟩
    · cases h
  · cases h
/-- A call that looks at the objects of who calls. -/
theorem obs_ok {m nm : Bool} {cd : Callers} {r : Option Nat} {ao : AOp} {K : Act → World → Prop} {Q : Exit → Act → World → Prop} (hco : COk P E γ0 Iy cd)
    (hR : R E w0 I0 nt γ I st a w) (hf : ∀ u, ub ≤ u → u < ub + 64 → γ u = none) (hop : compOp P m o = some ao) (hd : ∀ d, o.dst = some d → d < nt) {f : FuncId} {vs : List V} {ob : Nat → Option Obj'} {tk : Nat → Bool} {base uo : Nat}
    (hsh : sharedCall E nm (eval E st.tm) ao = some (f, vs)) (hob : ∀ l x, ob l = some x → st.ob l = some x) (hfo : ∀ u, uo ≤ u → γ u = none) (hδ : (cd.o f vs ob tk base uo).bind (retA ub) = some δ)
    (hK : ∀ γ' I' a' w', R E w0 I0 nt γ' I' (st.app o.dst δ) a' w' → (∀ u, ¬(ub ≤ u ∧ u < ub + 64) → γ' u = γ u) → (∀ u p, γ u = some p → γ' u = some p) → (∀ b o x, I b o = some x → I' b o = some x) → K a' w') :
    o.wpIn (FW r) 0 P a w K Q := by
  obtain ⟨rv, hr, hcall⟩ := bind_some hδ
  unfold retA at hcall
  split at hcall
  case isFalse => cases hcall
  rename_i h64
  cases hcall
  obtain ⟨hfn, hobs⟩ := hco.o _ _ _ _ _ _ _ hr
  obtain ⟨args, hrun, hsz, hargs⟩ := call_run hR hop (sharedCall_inv hsh) hfn
  have := hobs w0 w I0 I γ args st hob hR.sh hfo hsz hargs
  refine wpIn_of (notDefer hop) ?_
  rw [hrun]
  refine upon_enter this fun e w' he => ?_
  obtain ⟨x, τ, I', rfl, hg, hI, him, hold, hx, ht⟩ := he
  obtain ⟨γ', hR', hfr, hmono⟩ := pure_call hR hd hf hg hI him hold hx ht h64
  exact ⟨x, rfl, hK γ' I' _ _ hR' hfr hmono hI⟩
/-- A call that is handed what lies there as it is, and whose result is the caller's own. -/
theorem own_ok {m nm : Bool} {cd : Callers} {r : Option Nat} {ao : AOp} {K : Act → World → Prop} {Q : Exit → Act → World → Prop} (hco : COk P E γ0 Iy cd)
    (hR : R E w0 I0 nt γ I st a w) (hf : ∀ u, ub ≤ u → u < ub + 64 → γ u = none) (hop : compOp P m o = some ao) (hd : ∀ d, o.dst = some d → d < nt) {f : FuncId} {vs vs' : List V} {v : V} {ob : Nat → Option Obj'} {dn : Nat}
    (hsh : sharedCall E nm (eval E st.tm) ao = some (f, vs)) (hob : ∀ l x, ob l = some x → st.ob l = some x) (ha : vs.mapM (frzTop ob) = some vs') (hv : cd.d f vs' = some v) (hδ : thawD dn ub v = some δ)
    (hK : ∀ γ' I' a' w', R E w0 I0 nt γ' I' (st.app o.dst δ) a' w' → (∀ u, ¬(ub ≤ u ∧ u < ub + 64) → γ' u = γ u) → (∀ u p, γ u = some p → γ' u = some p) → (∀ b o x, I b o = some x → I' b o = some x) → K a' w') :
    o.wpIn (FW r) 0 P a w K Q := by
  obtain ⟨hfn, hpure⟩ := hco.d _ _ _ hv
  obtain ⟨args, hrun, hsz, hargs⟩ := call_run hR hop (sharedCall_inv hsh) hfn
  refine wpIn_of (notDefer hop) ?_
  rw [hrun]
  refine upon_enter (thaw_one hob hpure ha hδ hR.sh (hf ub (Nat.le_refl _) (by omega)) hsz hargs) fun e w' he => ?_
  obtain ⟨x, γ', rfl, hsh', hrep, hg, hfr⟩ := he
  obtain ⟨hwt, hkl⟩ := thawD_wt hδ
  unfold Delta.wt at hwt
  have hdel : δ.del.toList = [] := (List.append_eq_nil_iff.1 hwt).1
  have hadd : δ.add = [] := (List.append_eq_nil_iff.1 hwt).2
  refine ⟨x, rfl, hK γ' I _ _ ⟨(put_size _ _ _).trans hR.sz, df_put hR hg _ _, ?_, hsh' _ (by simp [St.app, hkl]) (by simp [St.app, hdel, hadd, setToks]) rfl⟩ (fun u hu => hfr u (fun e => hu ⟨by omega, by omega⟩)) hg (fun _ _ _ h => h)⟩
  exact rep_put (by rw [hR.sz]; exact hd) (fun t => (hR.tm t).mono hg (fun _ _ _ h => h)) hrep
/-- A call that makes a thing and does nothing else. -/
theorem mk_ok {m nm : Bool} {cd : Callers} {r : Option Nat} {ao : AOp} {K : Act → World → Prop} {Q : Exit → Act → World → Prop} (hco : COk P E γ0 Iy cd)
    (hR : R E w0 I0 nt γ I st a w) (hf : ∀ u, ub ≤ u → u < ub + 64 → γ u = none) (hop : compOp P m o = some ao) (hd : ∀ d, o.dst = some d → d < nt) {f : FuncId} {vs : List V} {dn : Nat}
    (hsh : sharedCall E nm (eval E st.tm) ao = some (f, vs)) (hδ : mkD E f vs dn ub = some δ)
    (hK : ∀ γ' I' a' w', R E w0 I0 nt γ' I' (st.app o.dst δ) a' w' → (∀ u, ¬(ub ≤ u ∧ u < ub + 64) → γ' u = γ u) → (∀ u p, γ u = some p → γ' u = some p) → (∀ b o x, I b o = some x → I' b o = some x) → K a' w') :
    o.wpIn (FW r) 0 P a w K Q := by
  unfold mkD at hδ
  split at hδ
  case h_2 => cases hδ
  rename_i cs hn
  obtain ⟨hfn, hlaw⟩ := hco.k _ _ hn
  obtain ⟨args, hrun, hsz, hargs⟩ := call_run hR hop (sharedCall_inv hsh) hfn
  obtain ⟨x, rfl⟩ : ∃ x, args = #[x] := ⟨args[0]'(by simp at hsz; omega), by
    apply Array.ext
    · simpa using hsz
    · intro i h1 h2
      have : i = 0 := by simp at h2; omega
      subst this
      rfl⟩
  obtain ⟨p, cap, rfl⟩ : ∃ p cap, x = .slice p 0 cap := by
    cases hargs 0 x _ rfl rfl with
    | pure _ _ h => cases h <;> exact ⟨_, _, rfl⟩
  refine wpIn_of (notDefer hop) ?_
  rw [hrun]
  refine upon_enter (hlaw p cap w) fun e w' he => ?_
  obtain ⟨rfl, xs, t, rfl, h1, h2⟩ := he
  obtain ⟨γ', I', h3, h4, h5, h6⟩ := alloc_R (body := .cells cs) (v := .ptr dn ub 0) (d := dn) (k := .n xs.size) hR hd (hf ub (Nat.le_refl _) (by omega)) rfl (x := .pointer (some ⟨w.heap.size, 0, none⟩)) (fun γ' h => .ptr _ _ _ _ _ h)
    ⟨xs, t, rfl, rfl, Nat.le_of_eq h1.symm, fun j x v hx hv => ⟨(h2 j x v hx hv).1, .pure _ _ ((h2 j x v hx hv).2 _)⟩⟩ hδ
  exact ⟨_, rfl, hK γ' I' _ _ h3 h4 h5 h6⟩
theorem step_ok {m : Bool} {ops : Array Oper} {call : Callers} {rn : Option Nat} {ao : AOpr} {l : List (St × Nat)} {K : Act → World → Prop} {Q : Exit → Act → World → Prop} (hco : COk P E γ0 Iy call) (hγ0 : SubG γ0 γ) (hIy : SubI Iy I)
    (hR : R E w0 I0 nt γ I st a w) (hf : ∀ u, ub ≤ u → γ u = none) (hc : compOpr P m ops o = some ao) (hd : ∀ d, o.dst = some d → d < nt)
    (hs : step E call ao st ub = some l) (hK : ∀ x ∈ l, Nice E w0 I0 nt γ I x.1 x.2 K) :
    if Region.wanted o (yielded ops a.tmps) then o.wpIn (FW rn) 0 P a w K Q else (∀ f, o.about P w a.eval = some f → (FW rn).fn f) ∧ K (a.put o.dst undef) w := by
  obtain ⟨hdst, hop⟩ := compOpr_inv hc
  unfold step at hs
  cases hw : wanted ao st.tm with
  | none => simp [hw] at hs
  | some b =>
    rw [wanted_ok hR hc hw]
    cases b with
    | false =>
      simp only [hw, Option.some.injEq] at hs
      subst hs
      simp only [Bool.false_eq_true, if_false]
      refine ⟨fun _ _ => trivial, ?_⟩
      have := hK _ (List.mem_singleton.2 rfl)
      rw [hdst] at this
      exact this γ I _ _ (r_skip hR hd) hf (fun _ _ h => h) (fun _ _ _ h => h)
    | true =>
      simp only [hw] at hs
      simp only [if_true]
      have hop : compOp P m o = some ao.op := hop.resolve_right fun h => by simp [h, sharedCall, yieldCall, aop, AOp.next?] at hs
      -- behind what shares
      have fin : ∀ {r : V} {ob : Nat → Option Obj'} {tk : Nat → Bool} {ub2 : Nat}, ({ st with tm := put st.tm ao.dst r, ob := ob, tk := tk }, ub2) ∈ l → ∀ e w', SharedPost E w0 I0 γ I st.ro r ob tk ub2 e w' → ∃ v, e = .returned v ∧ K (a.put o.dst v) w' := by
        intro r ob tk ub2 hl e w' he
        obtain ⟨x, γ', I', rfl, hsh', hrep, hg, hI, hfr⟩ := he
        refine ⟨x, rfl, ?_⟩
        have := hK _ hl
        refine this γ' I' _ _ ⟨(put_size _ _ _).trans hR.sz, df_put hR hg _ _, ?_, hsh' _ rfl rfl rfl⟩ hfr hg hI
        rw [hdst]
        exact rep_put (by rw [hR.sz]; exact hd) (fun t => (hR.tm t).mono hg hI) hrep
      cases hyc : yieldCall (eval E st.tm) ao.op with
      | some lux =>
        obtain ⟨lb, u, vs⟩ := lux
        simp only [hyc] at hs
        obtain ⟨⟨r, ob, tk, ub2⟩, hcall, he⟩ := map_some hs
        obtain ⟨b, k, args, hu, hrun, hsz, hargs⟩ := yield_run hR hop hyc
        obtain ⟨fn, tmps, as, bd, hy, hround⟩ := hco.y _ _ _ _ _ _ _ _ _ _ _ hcall w0 w I0 I γ args st b k hγ0 hIy rfl rfl rfl hR.sh hf hsz hargs hu
        refine wpIn_of (notDefer hop) ?_
        rw [hrun, hy]
        exact upon_round hround (fin (he ▸ List.mem_singleton.2 rfl))
      | none =>
      simp only [hyc] at hs
      cases hsh : sharedCall E ao.nm (eval E st.tm) ao.op with
      | some fx =>
        obtain ⟨f, vs⟩ := fx
        simp only [hsh] at hs
        split at hs
        · obtain ⟨ls, hcall, he⟩ := map_some hs
          obtain ⟨hfn, hsok⟩ := hco.s _ _ _ _ _ _ _ _ hcall
          obtain ⟨args, hrun, hsz, hargs⟩ := call_run hR hop (sharedCall_inv hsh) hfn
          have := hsok w0 w I0 I γ args st hγ0 hIy rfl rfl rfl hR.sh hf hsz hargs
          refine wpIn_of (notDefer hop) ?_
          rw [hrun]
          exact upon_enter this fun e w' ⟨r, hr, h⟩ => fin (he ▸ List.mem_map_of_mem (f := fun x => ({ st with tm := put st.tm ao.dst x.1, ob := x.2.1, tk := x.2.2.1 }, x.2.2.2)) hr) e w' h
        · obtain ⟨δ, hδ, rfl⟩ := map_some hs
          refine obs_ok hco hR (fun u h _ => hf u h) hop hd hsh (fun _ _ h => h) hf hδ (fun γ' I' a' w' hR' hγ hmono hI => ?_)
          have := hK _ (List.mem_singleton.2 rfl)
          rw [hdst] at this
          refine this γ' I' _ _ hR' (fun u hu => ?_) hmono hI
          simp only at hu
          rw [hγ u (by omega)]
          exact hf u (by omega)
      | none =>
        simp only [hsh] at hs
        split at hs
        · rename_i x hnx
          obtain ⟨ls, hls, rfl⟩ := map_some hs
          have hao : ao.op = .nextMap x := by
            unfold AOp.next? at hnx
            split at hnx
            · cases hnx; assumption
            · cases hnx
          rw [hao] at hop
          obtain ⟨xo, ho, hxo⟩ := isNext_inv hop
          obtain ⟨δ, hδ, hok⟩ := ok_nextMap (P := P) (ub := ub) hR hd ho hxo hls
          obtain ⟨x, w', γ', I', hrun, hR', hγ, hmono, hI⟩ := hok
          have hfin : K (a.put o.dst x) w' := by
            have := hK _ (List.mem_map.2 ⟨δ, hδ, rfl⟩)
            rw [hdst] at this
            refine this γ' I' _ _ hR' (fun u hu => ?_) hmono hI
            simp only at hu
            rw [hγ u (by omega)]
            exact hf u (by omega)
          refine wpIn_of (notDefer hop) ?_
          rcases hrun with hrun | ⟨hrun, rfl⟩
          · rw [hrun]; exact hfin
          · rw [hrun]; exact hfin
        · obtain ⟨δ, hδ, rfl⟩ := map_some hs
          refine alone_ok hco hR (fun u h _ => hf u h) hop hd hδ (fun γ' I' a' w' hR' hγ hmono hI => ?_)
          have := hK _ (List.mem_singleton.2 rfl)
          rw [hdst] at this
          refine this γ' I' _ _ hR' (fun u hu => ?_) hmono hI
          simp only at hu
          rw [hγ u (by omega)]
          exact hf u (by omega)
theorem bindLs_spec {α β : Type} {f : α → Option (List β)} : ∀ {l : List α} {r : List β}, bindLs f l = some r → ∀ x ∈ l, ∃ rx, f x = some rx ∧ ∀ y ∈ rx, y ∈ r
  | [], r, _, x, hx => by cases hx
  | [x'], r, h, x, hx => by
    simp only [List.mem_singleton] at hx
    subst hx
    exact ⟨r, h, fun y hy => hy⟩
  | x' :: y' :: l, r, h, x, hx => by
    simp only [bindLs] at h
    obtain ⟨a, ha, h⟩ := bind_some h
    obtain ⟨b, hb, rfl⟩ := map_some h
    rcases List.mem_cons.1 hx with rfl | hx
    · exact ⟨a, ha, fun y hy => List.mem_append_left _ hy⟩
    · obtain ⟨rx, h1, h2⟩ := bindLs_spec hb x hx
      exact ⟨rx, h1, fun y hy => List.mem_append_right _ (h2 y hy)⟩
theorem bindL_spec {α β : Type} {m : Option (List α)} {f : α → Option (List β)} {r : List β} (h : bindL m f = some r) : ∃ l, m = some l ∧ ∀ x ∈ l, ∃ rx, f x = some rx ∧ ∀ y ∈ rx, y ∈ r := by
  obtain ⟨l, hl, h⟩ := bind_some h
  exact ⟨l, hl, bindLs_spec h⟩
theorem R.congr {st st' : St} (h : R E w0 I0 nt γ I st a w) (h1 : st'.tm = st.tm) (h2 : st'.ob = st.ob) (h3 : st'.tk = st.tk) (h4 : st'.ro = st.ro) (h5 : st'.df = st.df) : R E w0 I0 nt γ I st' a w :=
  ⟨h.sz, by rw [h5]; exact h.df, by rw [h1]; exact h.tm, ⟨h.imm, h.gl, (let ⟨Ω, ho⟩ := h.own; ⟨Ω, ⟨by rw [h2, h4]; exact ho.ob, by rw [h3]; exact ho.tk, ho.lt⟩⟩), h.fr, h.old⟩⟩
theorem Nice.weaken {γ γ' : Nat → Option Place} {I I' : IMap} {st : St} {ub : Nat} {K : Act → World → Prop} (h : Nice E w0 I0 nt γ I st ub K) (hg : ∀ u p, γ u = some p → γ' u = some p)
    (hI : ∀ b o x, I b o = some x → I' b o = some x) : Nice E w0 I0 nt γ' I' st ub K :=
  fun γ2 I2 a2 w2 hR hf hg2 hI2 => h γ2 I2 a2 w2 hR hf (fun u p h => hg2 u p (hg u p h)) (fun b o x h => hI2 b o x (hI b o x h))
/-- The operations of a region, in the text's order. -/
theorem opsR_ok {m : Bool} {ops : Array Oper} {call : Callers} {rn : Option Nat} {Q : Exit → Act → World → Prop} (hco : COk P E γ0 Iy call) :
    ∀ (l : List Oper) (als : List AOpr), l.mapM (compOpr P m ops) = some als → (∀ ao ∈ als, ∀ d, ao.dst = some d → d < nt) → ∀ (γ : Nat → Option Place) (I : IMap) (st : St) (a : Act) (w : World) (ub : Nat) (sts : List St),
      SubG γ0 γ → SubI Iy I → R E w0 I0 nt γ I st a w → (∀ u, ub ≤ u → γ u = none) → opsR E call als st ub = some sts → (∀ st' ∈ sts, Nice E w0 I0 nt γ I st' st'.nx (fun a w => Q .normal a w)) → wpListIn (FW rn) 0 P ops Q l a w
  | [], als, hm, hd, γ, I, st, a, w, ub, sts, hγ0, hIy, hR, hf, hs, hK => by
    simp at hm
    subst hm
    simp only [opsR, Option.some.injEq] at hs
    subst hs
    exact hK _ (List.mem_singleton.2 rfl) γ I a w (hR.congr rfl rfl rfl rfl rfl) hf (fun _ _ h => h) (fun _ _ _ h => h)
  | o :: l, als, hm, hd, γ, I, st, a, w, ub, sts, hγ0, hIy, hR, hf, hs, hK => by
    simp only [List.mapM_cons] at hm
    cases ho : compOpr P m ops o with
    | none => simp [ho] at hm
    | some ao =>
      cases hl : l.mapM (compOpr P m ops) with
      | none => simp [ho, hl] at hm
      | some als' =>
        simp [ho, hl] at hm
        subst hm
        simp only [opsR] at hs
        obtain ⟨ls, h1, h2⟩ := bindL_spec hs
        have hdo : ∀ d, o.dst = some d → d < nt := by
          have hx : ao.dst = o.dst := (compOpr_inv ho).1
          rw [← hx]
          exact hd ao (List.mem_cons_self ..)
        have := step_ok (rn := rn) (K := wpListIn (FW rn) 0 P ops Q l) (Q := Q) hco hγ0 hIy hR hf ho hdo h1 (fun x hx γ' I' a' w' hR' hf' hg hI => by
          obtain ⟨rx, h3, h4⟩ := h2 x hx
          exact opsR_ok hco l als' hl (fun x hx => hd x (List.mem_cons_of_mem _ hx)) γ' I' x.1 a' w' x.2 rx (hγ0.trans hg) (hIy.trans hI) hR' hf' h3
            (fun st' hst' => (hK st' (h4 st' hst')).weaken hg hI))
        unfold wpListIn
        exact this
end
end Go.Pv
