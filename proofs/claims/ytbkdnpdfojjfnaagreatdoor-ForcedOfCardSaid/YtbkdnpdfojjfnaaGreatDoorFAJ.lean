/- Part of the proof. -/
import Derived.Test.YtbkdnpdfojjfnaaGreatDoorFAG
import Derived.Test.YtbkdnpdfojjfnaaGreatDoorFAI
import Derived.Laws.BitsLemmas
set_option maxRecDepth 100000
set_option maxHeartbeats 8000000
set_option linter.all false
namespace Go.Pv.T
open Go Go.Pv
structure Val' where
  kind : Int
  n : Int
  deriving DecidableEq
structure Op' where
  w : Bool
  key : Int
  v : Val'
  deriving DecidableEq
structure Txn' where
  s : Int
  f : Int
  nl : Bool
  ops : List Op'
structure Hist' where
  sn : Bool
  ss : List (List UInt8)
  kn : Bool
  ks : List (List UInt8)
  tn : Bool
  ts : List Txn'
def valC (v : Val') : List V := [.int .i64 v.kind, .int .i64 v.n]
def opC (o : Op') : List V := [.bool o.w, .int .i64 o.key, .int .i64 o.v.kind, .int .i64 o.v.n]
def slOf {α : Type} (nl : Bool) (f : α → List V) (l : List α) : V := .sl none nl l.length (l.flatMap f)
def txnC (t : Txn') : List V := [.int .i64 t.s, .int .i64 t.f, slOf t.nl opC t.ops]
def strC (s : List UInt8) : List V := [.str s]
def histC (h : Hist') : List V := [slOf h.sn strC h.ss, slOf h.kn strC h.ks, slOf h.tn txnC h.ts]
@[simp] theorem lenSlV_slOf {α : Type} (nl : Bool) (f : α → List V) (l : List α) : lenSlV (slOf nl f l) = some (.int .i64 l.length) := rfl
@[simp] theorem slOf_leaf {α : Type} (nl : Bool) (f : α → List V) (l : List α) : (slOf nl f l).leaf = true := rfl
@[simp] theorem slOf_cells {α : Type} (nl : Bool) (f : α → List V) (l : List α) : (slOf nl f l).cells = [slOf nl f l] := rfl
@[simp] theorem slOf_strip {α : Type} (nl : Bool) (f : α → List V) (l : List α) : (slOf nl f l).strip = slOf nl f l := rfl
@[simp] theorem slOf_strip1 {α : Type} (nl : Bool) (f : α → List V) (l : List α) : (slOf nl f l).strip1 = slOf nl f l := rfl
@[simp] theorem slOf_pureTop {α : Type} (nl : Bool) (f : α → List V) (l : List α) : (slOf nl f l).pureTop = true := rfl
@[simp] theorem slOf_pureLeaf {α : Type} (nl : Bool) (f : α → List V) (l : List α) : (slOf nl f l).pureLeaf = true := rfl
@[simp] theorem int_strip (k : IntKind) (n : Int) : (V.int k n).strip = .int k n := rfl
@[simp] theorem bool_strip (n : Bool) : (V.bool n).strip = .bool n := rfl
@[simp] theorem int_strip1 (k : IntKind) (n : Int) : (V.int k n).strip1 = .int k n := rfl
@[simp] theorem bool_strip1 (n : Bool) : (V.bool n).strip1 = .bool n := rfl
@[simp] theorem int_pureTop (k : IntKind) (n : Int) : (V.int k n).pureTop = true := rfl
@[simp] theorem bool_pureTop (n : Bool) : (V.bool n).pureTop = true := rfl
@[simp] theorem int_pureLeaf (k : IntKind) (n : Int) : (V.int k n).pureLeaf = true := rfl
@[simp] theorem bool_pureLeaf (n : Bool) : (V.bool n).pureLeaf = true := rfl
@[simp] theorem agg_strip (cs : List V) : (V.agg cs).strip = .agg (cs.map V.strip1) := rfl
@[simp] theorem agg_pureTop (cs : List V) : (V.agg cs).pureTop = cs.all V.pureLeaf := rfl
def within (n : Int) (l : Nat) : Bool := decide (0 ≤ n) && decide (n < l)
theorem ev34 (n : Int) (nl : Bool) (l : List (List UInt8)) : Ev E 34 [.int .i64 n, slOf nl strC l] (.bool (within n l.length)) := by
  refine Ev_wpK (af := F34) rfl ?_
  by_cases h : 0 ≤ n
  · simp [F34, h]
    exact endV_1 rfl (by simp [within, h]) rfl
  · simp [F34, h]
    exact endV_1 rfl (by simp [within, h]) rfl
def txnB (h : Hist') (t : Txn') : Bool := within t.s h.ss.length && (decide (1 ≤ t.f) && (decide (t.f ≤ 3) && decide (t.ops.length ≤ 20)))
theorem ev23 (h : Hist') (t : Txn') : Ev E 23 [.agg (histC h), .agg (txnC t)] (.bool (txnB h t)) := by
  refine Ev_wpK (af := F23) rfl ?_
  simp [F23, histC, txnC, objCells]
  refine kS_call (vs := [.int .i64 t.s, slOf h.sn strC h.ss]) (by simp) rfl (by simp) (by simpa using ev34 t.s h.sn h.ss) ?_
  unfold txnB
  cases h1 : within t.s h.ss.length
  · simp
    exact endV_1 rfl (by simp) rfl
  by_cases h2 : 1 ≤ t.f
  · by_cases h3 : t.f ≤ 3
    · simp [objCells, h2, h3]
      exact endV_1 rfl (by simp; omega) rfl
    · simp [objCells, h2, h3]
      exact endV_1 rfl (by simp) rfl
  · simp [objCells, h2]
    exact endV_1 rfl (by simp) rfl
def valB (v : Val') : Bool := v.kind == 1 || ((v.kind == 0 || v.kind == 2) && v.n == 0)
theorem ev39 (v : Val') : Ev E 39 [.agg (valC v)] (.bool (valB v)) := by
  refine Ev_wpK (af := F39) rfl ?_
  unfold valB
  cases h1 : v.kind == 1
  · cases h0 : v.kind == 0
    · cases h2 : v.kind == 2
      · simp [F39, valC, objCells, h1, h0, h2]
        exact endV_1 rfl (by simp) rfl
      · simp [F39, valC, objCells, h1, h0, h2]
        exact endV_1 rfl (by simp) rfl
    · simp [F39, valC, objCells, h1, h0]
      exact endV_1 rfl (by simp) rfl
  · simp [F39, valC, objCells, h1]
    exact endV_1 rfl (by simp) rfl
def cellV (v : Val') : V := if v.kind = 1 then .iface 2 (.int .i64 v.n) else if v.kind = 2 then .iface 163 (.agg []) else .nilif
theorem ev53 (v : Val') : Ev E 53 [.agg (valC v)] (.agg [cellV v]) := by
  refine Ev_wpK (af := F53) rfl ?_
  unfold cellV
  by_cases h1 : v.kind = 1
  · simp [F53, valC, objCells, h1]
    exact kEnd_of rfl (l := [.agg [.iface 2 (.int .i64 v.n)]]) (by simp [resOf, objCells]) rfl rfl
  · have b1 : (v.kind == 1) = false := by simpa using h1
    by_cases h2 : v.kind = 2
    · simp [F53, valC, objCells, h2]
      exact kEnd_of rfl (l := [.agg [.iface 163 (.agg [])]]) (by simp [resOf, objCells]) rfl rfl
    · have b2 : (v.kind == 2) = false := by simpa using h2
      simp [F53, valC, objCells, h1, h2, b1, b2]
      exact kEnd_of rfl (l := [.agg [.nilif]]) (by simp [resOf, objCells]) rfl rfl
def backV (v : Val') : Val' := if v.kind = 1 then ⟨1, v.n⟩ else if v.kind = 2 then ⟨2, 0⟩ else ⟨0, 0⟩
theorem ev52 (v : Val') : Ev E 52 [.agg [cellV v]] (.tup [.agg (valC (backV v)), .int .i64 0]) := by
  refine Ev_wpK (af := F52) rfl ?_
  unfold cellV backV
  by_cases h1 : v.kind = 1
  · simp [F52, valC, objCells, h1, eqVV, eqV, assertV, splice]
    exact kEnd_of rfl (l := [.agg [.int .i64 1, .int .i64 v.n], .int .i64 0]) (by simp [resOf, objCells]) rfl rfl
  · by_cases h2 : v.kind = 2
    · simp [F52, valC, objCells, h2, eqVV, eqV, assertV, splice]
      exact kEnd_of rfl (l := [.agg [.int .i64 2, .int .i64 0], .int .i64 0]) (by simp [resOf, objCells]) rfl rfl
    · simp [F52, valC, objCells, h1, h2, eqVV, eqV]
      exact kEnd_of rfl (l := [.agg [.int .i64 0, .int .i64 0], .int .i64 0]) (by simp [resOf, objCells]) rfl rfl
theorem valB_back (v : Val') : valB v = ((backV v).kind == v.kind && (backV v).n == v.n) := by
  obtain ⟨k, n⟩ := v
  unfold valB backV
  by_cases h1 : k = 1
  · simp [h1]
  · by_cases h2 : k = 2
    · rw [if_neg h1, if_pos h2, Bool.eq_iff_iff]
      simp only [Bool.or_eq_true, Bool.and_eq_true, beq_iff_eq]
      omega
    · rw [if_neg h1, if_neg h2, Bool.eq_iff_iff]
      simp only [Bool.or_eq_true, Bool.and_eq_true, beq_iff_eq]
      omega
theorem cellV_leaf (v : Val') : (cellV v).pureLeaf = true := by unfold cellV; split; rfl; split <;> rfl
theorem cellV_strip1 (v : Val') : (cellV v).strip1 = cellV v := by unfold cellV; split; rfl; split <;> rfl
theorem ev36 (v : Val') : Ev E 36 [.agg (valC v)] (.bool (valB v)) := by
  refine Ev_wpK (af := F36) rfl ?_
  simp [F36, valC, objCells]
  refine kS_call (vs := [.agg (valC v)]) (by simp [valC]) rfl (by simp [valC]) (by simpa [valC] using ev53 v) ?_
  simp [retA_plain (v := .agg [cellV v]) (by simp [V.plain, cellV_leaf])]
  refine kS_call (vs := [.agg [cellV v]]) (by simp) rfl (by simp [cellV_leaf, cellV_strip1]) (by simpa [cellV_strip1] using ev52 v) ?_
  rw [valB_back]
  generalize backV v = b
  rw [retA_tupl (by simp [V.plain, valC])]
  simp [valC, objCells]
  exact endV_1 rfl (by simp) rfl
def opB (h : Hist') (o : Op') : Bool := within o.key h.ks.length && (valB o.v && (!o.w || o.v.kind == 1))
theorem ev25 (h : Hist') (o : Op') : Ev E 25 [.agg (histC h), .agg (opC o)] (.bool (opB h o)) := by
  refine Ev_wpK (af := F25) rfl ?_
  simp [F25, histC, opC, objCells]
  refine kS_call (vs := [.int .i64 o.key, slOf h.kn strC h.ks]) (by simp) rfl (by simp) (by simpa using ev34 o.key h.kn h.ks) ?_
  unfold opB
  cases h1 : within o.key h.ks.length
  · simp
    exact endV_1 rfl (by simp) rfl
  simp [objCells]
  refine kS_call (vs := [.agg (valC o.v)]) (by simp [valC]) rfl (by simp [valC]) (by simpa [valC] using ev36 o.v) ?_
  cases h2 : valB o.v
  · simp
    exact endV_1 rfl (by simp) rfl
  cases h3 : o.w
  · simp [objCells]
    exact endV_1 rfl (by simp) rfl
  · simp [objCells]
    exact endV_1 rfl (by simp) rfl
@[simp] theorem startS_tm (args : List V) (ob : Nat → Option Obj') (tk : Nat → Bool) (ro base ub n : Nat) : (startS args ob tk ro base ub).tm n = args.getD n none' := rfl
@[simp] theorem startS_ob (args : List V) (ob : Nat → Option Obj') (tk : Nat → Bool) (ro base ub : Nat) : (startS args ob tk ro base ub).ob = ob := rfl
@[simp] theorem startS_tk (args : List V) (ob : Nat → Option Obj') (tk : Nat → Bool) (ro base ub : Nat) : (startS args ob tk ro base ub).tk = tk := rfl
@[simp] theorem startS_ro (args : List V) (ob : Nat → Option Obj') (tk : Nat → Bool) (ro base ub : Nat) : (startS args ob tk ro base ub).ro = ro := rfl
@[simp] theorem startS_nx (args : List V) (ob : Nat → Option Obj') (tk : Nat → Bool) (ro base ub : Nat) : (startS args ob tk ro base ub).nx = ub := rfl
@[simp] theorem startS_fb (args : List V) (ob : Nat → Option Obj') (tk : Nat → Bool) (ro base ub : Nat) : (startS args ob tk ro base ub).fb = base := rfl
@[simp] theorem startS_df (args : List V) (ob : Nat → Option Obj') (tk : Nat → Bool) (ro base ub : Nat) : (startS args ob tk ro base ub).df = [] := rfl
theorem wrap64' {n : Int} (h : -9223372036854775808 ≤ n) (h' : n ≤ 9223372036854775807) : IntKind.i64.wrap n = n := by
  rw [IntKind.wrap_i64]; omega
section
variable {α : Type} {f : α → List V} {k : Nat}
theorem flatMap_len (hf : ∀ a, (f a).length = k) : ∀ (l : List α), (l.flatMap f).length = l.length * k
  | [] => by simp
  | a :: l => by rw [List.flatMap_cons, List.length_append, hf, flatMap_len hf l, List.length_cons, Nat.succ_mul]; omega
theorem flatMap_at (hf : ∀ a, (f a).length = k) : ∀ (l : List α) (i : Nat) (h : i < l.length), ((l.flatMap f).drop (i * k)).take k = f l[i]
  | a :: l, 0, _ => by rw [List.flatMap_cons, Nat.zero_mul, List.drop_zero, List.take_append_of_le_length (by rw [hf]; omega), List.take_of_length_le (by rw [hf]; omega)]; rfl
  | a :: l, i + 1, h => by
    rw [List.flatMap_cons, Nat.succ_mul, List.drop_append, List.drop_of_length_le (by rw [hf]; omega), List.nil_append, hf, Nat.add_sub_cancel]
    exact flatMap_at hf l i (by simpa using h)
theorem idx_slOf (hf : ∀ a, (f a).length = k) (nl : Bool) (l : List α) (kk : IntKind) {i : Nat} (h : i < l.length) : idxSlV k (slOf nl f l) (.int kk i) = some (.eptr (l.flatMap f) (i * k)) := by
  simp only [slOf, idxSlV_sl, flatMap_len hf]
  rw [if_pos (by simp; omega)]
  rfl
theorem load_slOf (hf : ∀ a, (f a).length = k) (ob : Nat → Option Obj') (l : List α) {i : Nat} (h : i < l.length) : loadV ob (some k) (.eptr (l.flatMap f) (i * k)) = some (.agg (f l[i])) := by
  have : i * k + k ≤ l.length * k := by rw [← Nat.succ_mul]; exact Nat.mul_le_mul_right k h
  rw [loadV_e, pick1_some, if_pos (by rw [flatMap_len hf]; exact this), flatMap_at hf l i h]
end
@[simp] theorem txnC_len (t : Txn') : (txnC t).length = 3 := rfl
@[simp] theorem opC_len (t : Op') : (opC t).length = 4 := rfl
@[simp] theorem strC_len (t : List UInt8) : (strC t).length = 1 := rfl
theorem kS_callVO {E : Env} {Yf : YF} {q : A} {xs : List A} {st : St} {ub : Nat} {K : St → Nat → Prop} {d : Option Nat} {nm : Bool} {f : FuncId} {first captured : List V} (hq : eval E st.tm q = .fn (.func f) first captured) (hs : E.sh nm f = false)
    (hp : ((first ++ xs.map (eval E st.tm) ++ captured).all fun v => v.strip.pureTop) = false) {v : V} (hv : EvO E f (first ++ xs.map (eval E st.tm) ++ captured) st.ob st.tk ((st.fb + d.getD 0 + 1) * 1024) ub v) (h : wpD (retA ub v) (kApp K st d ub)) :
    wpStep E Yf ⟨d, .callV q xs, none, nm⟩ st ub K := by
  have hsh : sharedCall E nm (eval E st.tm) (.callV q xs) = some (f, first ++ xs.map (eval E st.tm) ++ captured) := by simp only [sharedCall, hq, hs, hp, Bool.not_false, Bool.true_and, Bool.false_eq_true, if_false]
  simp only [wpStep, wanted, yieldCall, hq, hsh]
  obtain ⟨δ, hδ, hK⟩ := h
  exact .inr ⟨hs, v, hv, δ, hδ, hK⟩
theorem kS_callO {E : Env} {Yf : YF} {f : FuncId} {xs : List A} {st : St} {ub : Nat} {K : St → Nat → Prop} {d : Option Nat} {nm : Bool} {vs : List V} (hx : xs.map (eval E st.tm) = vs) (hs : E.sh nm f = false) (hp : (vs.all fun v => v.strip.pureTop) = false) {v : V}
    (hv : EvO E f vs st.ob st.tk ((st.fb + d.getD 0 + 1) * 1024) ub v) (h : wpD (retA ub v) (kApp K st d ub)) : wpStep E Yf ⟨d, .call f xs, none, nm⟩ st ub K :=
  wpS_callO hs (by rw [hx]; exact hp) ⟨v, by rw [hx]; exact hv, h⟩
theorem EvO_wpK {E : Env} {f : FuncId} {af : AF} {args : List V} {ob : Nat → Option Obj'} {tk : Nat → Bool} {base ub : Nat} {r : V} (hf : E.fs f = some af) (h : wpC E noYF af.body (startS args ob (fun _ => false) ub base ub) (kEnd af.res r)) (hz : E.fz f = false := by rfl) : EvO E f args ob tk base ub r := EvO_wp hf h hz
def HistAt (h : Hist') (ob : Nat → Option Obj') (l u : Nat) : Prop := l % 2 = 0 ∧ ob l = some ⟨u, .cells (histC h)⟩
theorem ev22 {h : Hist'} {ob : Nat → Option Obj'} {l u : Nat} (hh : HistAt h ob l u) (t : Txn') (tk : Nat → Bool) (base ub : Nat) : EvO E 22 [.agg (txnC t), .ptr l u 0] ob tk base ub (.bool (!txnB h t)) := by
  obtain ⟨h2, ho⟩ := hh
  refine EvO_wpK (af := S22) rfl ?_
  have hne : ¬ l = 2 * ub + 1 := by omega
  simp [S22, objCells, hne, ho, txnC, histC]
  refine kS_call (vs := [.agg (histC h), .agg (txnC t)]) (by simp [histC, txnC]) rfl (by simp [histC, txnC]) (by simpa [histC, txnC] using ev23 h t) ?_
  simp
  exact endV_1 rfl (by simp) rfl
def firstI {α : Type} (p : α → Bool) (l : List α) : Int := match l.findIdx? p with
  | some i => i
  | none => -1
theorem firstI_found {α : Type} {p : α → Bool} {l : List α} {i : Nat} (h : i < l.length) (hn : p l[i] = true) (hb : ∀ j (hj : j < l.length), j < i → p l[j] = false) : firstI p l = i := by
  unfold firstI
  have : l.findIdx? p = some i := by
    rw [List.findIdx?_eq_some_iff_getElem]
    exact ⟨h, hn, fun j hj => by rw [hb j (by omega) hj]; decide⟩
  rw [this]
theorem firstI_none {α : Type} {p : α → Bool} {l : List α} (hb : ∀ j (hj : j < l.length), p l[j] = false) : firstI p l = -1 := by
  unfold firstI
  have : l.findIdx? p = none := by
    rw [List.findIdx?_eq_none_iff]
    intro x hx
    obtain ⟨j, hj, e⟩ := List.getElem_of_mem hx
    rw [← e]
    exact hb j hj
  rw [this]
theorem firstI_any {α : Type} (p : α → Bool) (l : List α) : decide (0 ≤ firstI p l) = l.any p := by
  unfold firstI
  cases h : l.findIdx? p with
  | none =>
    rw [List.findIdx?_eq_none_iff] at h
    simp
    intro x hx
    simpa using h x hx
  | some i =>
    rw [List.findIdx?_eq_some_iff_getElem] at h
    obtain ⟨hi, hp, _⟩ := h
    simp
    exact ⟨_, List.getElem_mem hi, hp⟩
theorem ev33 {p : Txn' → Bool} {g : FuncId} {cap : V} {ob : Nat → Option Obj'} (hs : E.sh true g = false) (hcap : cap.strip.pureTop = false) (hp : ∀ (t : Txn') (tk : Nat → Bool) (base ub : Nat), EvO E g [.agg (txnC t), cap] ob tk base ub (.bool (p t)))
    (nl : Bool) (l : List Txn') (hl : l.length ≤ 140737488355328) (tk : Nat → Bool) (base ub : Nat) : EvO E 33 [slOf nl txnC l, .fn (.func g) [] [cap]] ob tk base ub (.int .i64 (firstI p l)) := by
  refine EvO_wpK (af := S33) rfl ?_
  simp [S33]
  refine wp_loopK (n := l.length) (fun k s => ∃ i, k = l.length - i ∧ i ≤ l.length ∧ s.df = [] ∧ s.ob = ob ∧ s.tm 0 = slOf nl txnC l ∧ s.tm 1 = .fn (.func g) [] [cap] ∧ s.tm 7 = .int .i64 l.length ∧ s.tm 8 = .int .i64 i ∧ ∀ j (hj : j < l.length), j < i → p l[j] = false)
    ⟨0, by simp⟩ ?_
  rintro k s ⟨i, rfl, hi, hd, ho, h0, h1, h7, h8, hb⟩
  by_cases hlt : i < l.length
  · simp [h0, h1, h7, h8, hlt, idx_slOf txnC_len, load_slOf txnC_len]
    refine kS_callVO (f := g) (first := []) (captured := [cap]) (by simp) hs (by simp [hcap]) (v := .bool (p l[i])) (by simpa [ho] using hp l[i] _ _ _) ?_
    cases hpi : p l[i]
    · simp [h0, h1, h7, h8, hd]
      refine ⟨l.length - (i + 1), by omega, i + 1, rfl, by omega, ho, by rw [wrap64' (by omega) (by omega)]; simp, ?_⟩
      intro j hj hji
      rcases Nat.lt_succ_iff_lt_or_eq.1 hji with h | rfl
      · exact hb j hj h
      · exact hpi
    · simp
      refine endV_1 (by simpa using hd) ?_ rfl
      simp
      rw [firstI_found hlt hpi hb]
  · have : i = l.length := by omega
    subst this
    simp [h7, h8]
    refine endV_1 (by simpa using hd) ?_ rfl
    simp [firstI_none (fun j hj => hb j hj hj)]
theorem ev21 {p : Txn' → Bool} {g : FuncId} {ob : Nat → Option Obj'} {a b c : Nat} (hs : E.sh true g = false) (hp : ∀ (t : Txn') (tk : Nat → Bool) (base ub : Nat), EvO E g [.agg (txnC t), .ptr a b c] ob tk base ub (.bool (p t)))
    (nl : Bool) (l : List Txn') (hl : l.length ≤ 140737488355328) (tk : Nat → Bool) (base ub : Nat) : EvO E 21 [slOf nl txnC l, .fn (.func g) [] [.ptr a b c]] ob tk base ub (.bool (l.any p)) := by
  refine EvO_wpK (af := S21) rfl ?_
  simp [S21]
  refine kS_callO (vs := [slOf nl txnC l, .fn (.func g) [] [.ptr a b c]]) (by simp) rfl rfl (ev33 hs rfl hp nl l hl _ _ _) ?_
  simp
  exact endV_1 rfl (by simp [firstI_any]) rfl
def Fr (ub : Nat) (ob ob' : Nat → Option Obj') : Prop := ∀ key, (∀ m, ub ≤ m → key ≠ 2 * m + 1) → ob' key = ob key
theorem Fr.refl (ub : Nat) (ob : Nat → Option Obj') : Fr ub ob ob := fun _ _ => rfl
def kEndS (res : List ARes) (P : V × (Nat → Option Obj') × (Nat → Bool) × Nat → Prop) : Ex → St → Prop := fun e s => ∃ r, endS res (e, s) = some r ∧ P r
theorem app_tk0 (st : St) (d : Option Nat) (v : V) (obs : List (Nat × Obj')) : (st.app d { v := v, obs := obs }).tk = st.tk := by
  funext u
  simp [app_tk]
theorem Fr.two {ub m : Nat} {ob ob' : Nat → Option Obj'} (h : ∀ key, key ≠ 2 * m + 1 → ob' key = ob key) (hm : ub ≤ m) : Fr ub ob ob' := fun key hk => h key (hk m hm)
theorem step_gen {E : Env} {Yf : YF} {o : AOpr} {st : St} {ub : Nat} {K : St → Nat → Prop} (h : ∀ s', s' = st → wpStep E Yf o s' ub K) : wpStep E Yf o st ub K := h st rfl
theorem run146 {Yf : YF} (h : Hist') (hn : h.ts.length ≤ 1000) (hm : ∀ t ∈ h.ts, t.ops.length ≤ 1000000) {l u lh uh : Nat} {ob0 : Nat → Option Obj'} {tk0 : Nat → Bool} {ro base ub0 : Nat} (hh : ob0 lh = some ⟨uh, .cells (histC h)⟩) (hro : ro ≤ ub0)
    (J : Nat → Nat → (Nat → Option Obj') → (Nat → Bool) → Nat → Prop) (P : V × (Nat → Option Obj') × (Nat → Bool) × Nat → Prop)
    (hfr : ∀ i k ob ob' tk ub ub', J i k ob tk ub → ub ≤ ub' → Fr ub ob ob' → J i k ob' tk ub')
    (hnext : ∀ i (hi : i < h.ts.length) ob tk ub, J i (h.ts[i]).ops.length ob tk ub → J (i + 1) 0 ob tk ub)
    (hstep : ∀ i (hi : i < h.ts.length) k (hk : k < (h.ts[i]).ops.length) ob tk ub, J i k ob tk ub → ro ≤ ub → ∃ r, EvY Yf l u [.agg [.int .i64 i, .int .i64 k], .agg (opC (h.ts[i]).ops[k])] ob tk ro ub r ∧ ro ≤ r.2.2.2 ∧
      ((r.1 = .bool true ∧ J i (k + 1) r.2.1 r.2.2.1 r.2.2.2) ∨ (r.1 = .bool false ∧ ∀ ob' ub', r.2.2.2 ≤ ub' → Fr r.2.2.2 r.2.1 ob' → P (.tup [], ob', r.2.2.1, ub'))))
    (hend : ∀ ob tk ub, J h.ts.length 0 ob tk ub → P (.tup [], ob, tk, ub))
    (h0 : J 0 0 ob0 tk0 ub0) : ∃ r, EvS E Yf.y 35 [.yld l u, .ptr lh uh 0] ob0 tk0 ro base ub0 r ∧ P r := by
  refine EvS_wp (af := S35) rfl (by decide) ?_
  show wpC E Yf S35.body _ (kEndS S35.res P)
  simp [S35, objCells, hh, histC]
  refine wp_loopK (n := h.ts.length) (fun k s => ∃ i, k = h.ts.length - i ∧ i ≤ h.ts.length ∧ s.df = [] ∧ s.fb = base ∧ s.ro = ro ∧ ro ≤ s.nx ∧ s.tm 0 = .yld l u ∧ s.tm 8 = slOf h.tn txnC h.ts ∧ s.tm 9 = .int .i64 h.ts.length ∧ s.tm 10 = .int .i64 i ∧ J i 0 s.ob s.tk s.nx)
    ⟨0, by simp; exact ⟨by omega, hfr _ _ _ _ _ _ _ h0 (by omega) (Fr.refl _ _)⟩⟩ ?_
  rintro k s ⟨i, rfl, hi, hd, hfb, hsr, hnx, h0, h8, h9, h10, hJ⟩
  by_cases hlt : i < h.ts.length
  · simp [h8, h9, h10, hlt, idx_slOf txnC_len, load_slOf txnC_len, txnC, objCells, hsr]
    refine ⟨by omega, ?_⟩
    refine wp_loopK (n := (h.ts[i]).ops.length) (fun k s => ∃ j, k = (h.ts[i]).ops.length - j ∧ j ≤ (h.ts[i]).ops.length ∧ s.df = [] ∧ s.fb = base ∧ s.ro = ro ∧ ro ≤ s.nx ∧ s.tm 0 = .yld l u ∧ s.tm 8 = slOf h.tn txnC h.ts ∧ s.tm 9 = .int .i64 h.ts.length ∧ s.tm 10 = .int .i64 i ∧
      s.tm 3 = .int .i64 i ∧ s.tm 16 = slOf (h.ts[i]).nl opC (h.ts[i]).ops ∧ s.tm 17 = .int .i64 (h.ts[i]).ops.length ∧ s.tm 18 = .int .i64 j ∧ J i j s.ob s.tk s.nx) ⟨0, ?_⟩ ?_
    · simp [hd, hfb, hsr, h0, h8, h9, h10]
      refine ⟨by omega, ?_⟩
      rw [app_tk0, setT_tk, app_tk0]
      refine hfr _ _ _ _ _ _ _ hJ (by omega : s.nx ≤ _) (Fr.two (m := s.nx + 64 + 64 + 64 + 64) (fun key hk => ?_) (by omega))
      simp [hk]
    clear hd hfb hsr hnx h0 h8 h9 h10 hJ s
    rintro k s ⟨j, rfl, hj, hd, hfb, hsr, hnx, h0, h8, h9, h10, h3, h16, h17, h18, hJ⟩
    by_cases hjt : j < (h.ts[i]).ops.length
    · simp [h0, h3, h16, h17, h18, hjt, idx_slOf opC_len, load_slOf opC_len, opC, objCells, hsr, splice]
      refine ⟨by omega, step_gen fun s' hs' => ?_⟩
      have e23 : s'.tm 23 = .yld l u := by rw [hs']; simp
      have e26 : s'.tm 26 = .agg [.int .i64 i, .int .i64 j] := by rw [hs']; simp
      have e27 : s'.tm 27 = .agg (opC (h.ts[i]).ops[j]) := by rw [hs']; simp [opC]
      have e0 : s'.tm 0 = .yld l u := by rw [hs']; simp [h0]
      have e8 : s'.tm 8 = slOf h.tn txnC h.ts := by rw [hs']; simp [h8]
      have e9 : s'.tm 9 = .int .i64 h.ts.length := by rw [hs']; simp [h9]
      have e10 : s'.tm 10 = .int .i64 i := by rw [hs']; simp [h10]
      have e3 : s'.tm 3 = .int .i64 i := by rw [hs']; simp [h3]
      have e16 : s'.tm 16 = slOf (h.ts[i]).nl opC (h.ts[i]).ops := by rw [hs']; simp [h16]
      have e17 : s'.tm 17 = .int .i64 (h.ts[i]).ops.length := by rw [hs']; simp [h17]
      have e18 : s'.tm 18 = .int .i64 j := by rw [hs']; simp [h18]
      have ed : s'.df = [] := by rw [hs']; simp [hd]
      have ef : s'.fb = base := by rw [hs']; simp [hfb]
      have er : s'.ro = ro := by rw [hs']; simp [hsr]
      have et : s'.tk = s.tk := by rw [hs']; simp only [setT_tk, setN_tk, app_tk0]
      have eo : Fr s.nx s.ob s'.ob := by
        rw [hs']
        exact Fr.two (m := s.nx + 64 + 64 + 64 + 64) (fun key hk => by simp [hk]) (by omega)
      clear hs'
      obtain ⟨r, hr, hru, hcase⟩ := hstep i hlt j hjt s'.ob s.tk (s.nx + 64 + 64 + 64 + 64 + 64 + 64 + 64 + 64 + 64 + 64 + 64 + 64) (hfr _ _ _ _ _ _ _ hJ (by omega) eo) (by omega)
      refine wpS_yield (l := l) (u := u) (by simpa using e23) ⟨r, by simpa [e26, e27, et, er] using hr, ?_⟩
      rcases hcase with ⟨hr1, hJ2⟩ | ⟨hr1, hP⟩
      · simp [hr1, put, upd_apply, e18]
        have hb := hm h.ts[i] (List.getElem_mem hlt)
        refine ⟨(h.ts[i]).ops.length - (j + 1), by omega, j + 1, rfl, by omega, ed, ef, er, by omega, e0, e8, e9, e10, e3, e16, e17, by rw [wrap64' (by omega) (by omega)]; simp, ?_⟩
        exact hfr _ _ _ _ _ _ _ hJ2 (by omega) (Fr.refl _ _)
      · simp [hr1, put]
        refine ⟨(.tup [], r.2.1, r.2.2.1, r.2.2.2 + 64), ?_, hP _ _ (by omega) (Fr.refl _ _)⟩
        simp [endS, ed]
    · have : j = (h.ts[i]).ops.length := by omega
      subst this
      have hJ' := hnext i hlt _ _ _ hJ
      simp [h17, h18, h0, h8, h9, h10, hd, hfb, hsr]
      refine ⟨h.ts.length - (i + 1), by omega, i + 1, rfl, by omega, by omega, by rw [wrap64' (by omega) (by omega)]; simp, ?_⟩
      exact hfr _ _ _ _ _ _ _ hJ' (by omega) (Fr.refl _ _)
  · have : i = h.ts.length := by omega
    subst this
    simp [h9, h10]
    refine ⟨(.tup [], s.ob, s.tk, s.nx + 64), ?_, hend _ _ _ (hfr _ _ _ _ _ _ _ hJ (Nat.le_add_right _ _) (Fr.refl _ _))⟩
    simp [endS, hd]
theorem kS_callS {E : Env} {Yf : YF} {f : FuncId} {xs : List A} {st : St} {ub : Nat} {K : St → Nat → Prop} {d : Option Nat} {nm : Bool} {vs : List V} (hx : xs.map (eval E st.tm) = vs) (hs : E.sh nm f = true)
    (h : ∃ r, EvS E Yf.y f vs st.ob st.tk st.ro ((st.fb + d.getD 0 + 1) * 1024) ub r ∧ K { st with tm := put st.tm d r.1, ob := r.2.1, tk := r.2.2.1 } r.2.2.2) : wpStep E Yf ⟨d, .call f xs, none, nm⟩ st ub K := by
  have hsh : sharedCall E nm (eval E st.tm) (.call f xs) = some (f, vs) := by simp only [sharedCall, hs, hx, Bool.not_true, Bool.false_and, Bool.false_eq_true, if_false]
  simp only [wpStep, wanted, yieldCall, hsh]
  obtain ⟨r, hr, hK⟩ := h
  exact .inl ⟨hs, EvS.list ⟨r, hr, hK⟩⟩
theorem ev24 {Yf : YF} (h : Hist') (ob : Nat → Option Obj') (tk : Nat → Bool) (ro base ub : Nat) : ∃ r, EvS E Yf.y 24 [.agg (histC h)] ob tk ro base ub r ∧
    r.1 = .fn (.func 35) [] [.ptr (2 * ub + 1) ub 0] ∧ (∀ key, r.2.1 key = if key = 2 * ub + 1 then some ⟨ub, .cells (histC h)⟩ else ob key) ∧ r.2.2.1 = tk ∧ r.2.2.2 = ub + 256 := by
  refine EvS_wp (af := S24) rfl (by decide) ?_
  show wpC E Yf S24.body _ (kEndS S24.res _)
  simp [S24, histC]
  refine ⟨(.fn (.func 35) [] [.ptr (2 * ub + 1) ub 0], _, _, _), rfl, ?_⟩
  simp [app_tk0]
def opsOf (h : Hist') : List Op' := h.ts.flatMap (·.ops)
def goodTo (h : Hist') (i k : Nat) : Prop := ∀ i' (hi : i' < h.ts.length) k' (hk : k' < (h.ts[i']).ops.length), (i' < i ∨ i' = i ∧ k' < k) → opB h (h.ts[i']).ops[k'] = true
def AS70 : C := .region [
          ⟨(some 4), .alloc [(.bool false), (.int .i64 0), (.int .i64 0), (.int .i64 0)], none, false⟩,
          ⟨none, .store 4 (.t 4) (.t 17), none, false⟩]
def BD70 : C := .block 1 (.seq (.region [
            ⟨(some 18), .load (some 3) (.t 1), none, false⟩,
            ⟨(some 19), .load (some 4) (.t 4), none, false⟩,
            ⟨(some 20), .call 25 [(.t 18), (.t 19)], none, false⟩,
            ⟨(some 21), .un .not (.t 20), none, false⟩])
          (.cond (.t 21) (.seq (.region [
              ⟨none, .store 1 (.t 2) (.c (.int .i64 4)), none, false⟩])
            (.ret))
           (.skip)))
theorem goodTo_all {h : Hist'} (hg : goodTo h h.ts.length 0) : (opsOf h).all (opB h) = true := by
  rw [List.all_eq_true]
  intro o ho
  obtain ⟨t, ht, hot⟩ := List.mem_flatMap.1 ho
  obtain ⟨i, hi, rfl⟩ := List.getElem_of_mem ht
  obtain ⟨k, hk, rfl⟩ := List.getElem_of_mem hot
  exact hg i hi k hk (Or.inl hi)
theorem wpC_gen {E : Env} {Yf : YF} {c : C} {st : St} {Q : Ex → St → Prop} (h : ∀ s', s' = st → wpC E Yf c s' Q) : wpC E Yf c st Q := h st rfl
theorem away {l k : Nat} (ob : Nat → Option Obj') (h : k ≠ l) : (if Nat.beq l k then none else ob k) = ob k := by
  cases hb : Nat.beq l k with
  | false => rfl
  | true => exact absurd (Nat.eq_of_beq_eq_true hb).symm h
theorem range70 (h : Hist') (hn : h.ts.length ≤ 1000) (hm : ∀ t ∈ h.ts, t.ops.length ≤ 1000000) {st : St} {lh uh : Nat} (U : Nat) (hU : st.nx = U) (hU0 : 64 ≤ U) (h15 : st.tm 15 = .fn (.func 35) [] [.ptr lh uh 0]) (hl : ∃ m, lh = 2 * m + 1 ∧ m < U)
    (h1 : st.tm 1 = .ptr 2 0 0) (h2 : st.tm 2 = .ptr 4 64 0) (hro : st.ro = 0) (hfb : st.fb = 0) (o2 : st.ob 2 = some ⟨0, .cells (histC h)⟩) (o4 : st.ob 4 = some ⟨64, .cells [.int .i64 0]⟩) (oh : st.ob lh = some ⟨uh, .cells (histC h)⟩) {Q : Ex → St → Prop}
    (hQ : ∀ (e : Ex) (ob : Nat → Option Obj') (tk : Nat → Bool) (ub : Nat) (c : Int), ob 2 = some ⟨0, .cells (histC h)⟩ → ob 4 = some ⟨64, .cells [.int .i64 c]⟩ → ob (2 * U + 3) = some ⟨U + 1, .dfr⟩ → U + 64 ≤ ub →
      ((opsOf h).all (opB h) = true ∧ e = .nrm ∧ c = 0 ∨ (opsOf h).all (opB h) = false ∧ e = .ret ∧ c = 4) → Q e { st with ob := ob, tk := tk, nx := ub, df := (2 * U + 3, U + 1) :: st.df }) :
    wpC E noYF (.rangeFunc (.t 15) [16, 17] AS70 BD70) st Q := by
  obtain ⟨m, rfl, hmU⟩ := hl
  subst hU
  refine wpC_rangeFunc (g := 35) (first := []) (captured := [.ptr (2 * m + 1) uh 0]) (by simpa using h15) ?_
  have := run146 (Yf := roundF E noYF AS70 BD70 st [16, 17] (2 * st.nx + 1) st.nx) h hn hm (l := 2 * st.nx + 1) (u := st.nx) (lh := 2 * m + 1) (uh := uh)
    (ob0 := upd (upd st.ob (2 * st.nx + 3) (some ⟨st.nx + 1, .dfr⟩)) (2 * st.nx + 1) (some ⟨st.nx, .loop .ready none⟩)) (tk0 := st.tk) (ro := st.ro) (base := (st.fb + 1023) * 1024) (ub0 := st.nx + 64)
    (by have e1 : ¬ 2 * m + 1 = 2 * st.nx + 1 := by omega
        have e2 : ¬ 2 * m + 1 = 2 * st.nx + 3 := by omega
        simp only [upd_apply, e1, e2, if_false, oh]) (by omega)
    (fun i k ob tk ub => goodTo h i k ∧ ob (2 * st.nx + 1) = some ⟨st.nx, .loop .ready none⟩ ∧ ob (2 * st.nx + 3) = some ⟨st.nx + 1, .dfr⟩ ∧ ob 2 = some ⟨0, .cells (histC h)⟩ ∧ ob 4 = some ⟨64, .cells [.int .i64 0]⟩ ∧ st.nx + 64 ≤ ub)
    (fun r => ∃ s pend, r.2.1 (2 * st.nx + 1) = some ⟨st.nx, .loop s pend⟩ ∧ s ≠ .busy ∧ st.ro ≤ st.nx ∧ Q (pend.getD .nrm) { st with ob := fun k => if Nat.beq (2 * st.nx + 1) k then none else r.2.1 k, tk := r.2.2.1, nx := r.2.2.2, df := (2 * st.nx + 3, st.nx + 1) :: st.df })
    ?_ ?_ ?_ ?_ ?_
  · obtain ⟨r, hr, hP⟩ := this
    exact ⟨r, hr, hP⟩
  · -- what J says stands behind what is new
    rintro i k ob ob' tk ub ub' ⟨g1, g2, g3, g4, g5, g6⟩ hub hfr
    have f : ∀ key, (∀ m, ub ≤ m → key ≠ 2 * m + 1) → ob' key = ob key := hfr
    exact ⟨g1, by rw [f _ (fun m hm => by omega)]; exact g2, by rw [f _ (fun m hm => by omega)]; exact g3, by rw [f _ (fun m hm => by omega)]; exact g4, by rw [f _ (fun m hm => by omega)]; exact g5, by omega⟩
  · rintro i hi ob tk ub ⟨g1, g⟩
    refine ⟨fun i' hi' k' hk' hlt => ?_, g⟩
    rcases hlt with h' | ⟨_, h'⟩
    · rcases Nat.lt_succ_iff_lt_or_eq.1 h' with h'' | rfl
      · exact g1 i' hi' k' hk' (Or.inl h'')
      · exact g1 i' hi' k' hk' (Or.inr ⟨rfl, hk'⟩)
    · omega
  · rintro i hi k hk ob tk ub ⟨g1, g2, g3, g4, g5, g6⟩ hru
    refine EvY_round (as := AS70) (bd := BD70) (xs := [.agg [.int .i64 i, .int .i64 k], .agg (opC (h.ts[i]).ops[k])]) rfl (by omega) g2 (by decide) (by decide) ?_
    simp [AS70, setPs, objCells, hfb, opC, hro]
    refine ⟨by rw [if_neg (by omega), if_neg (by omega)]; exact g2, wpC_gen fun s' hs' => ?_⟩
    have f1 : s'.tm 1 = .ptr 2 0 0 := by rw [hs']; simp [upd_apply, h1]
    have f2 : s'.tm 2 = .ptr 4 64 0 := by rw [hs']; simp [upd_apply, h2]
    have f4 : s'.tm 4 = .ptr 8 ub 0 := by rw [hs']; simp
    have n2 : ¬ 2 = 2 * st.nx + 1 := by omega
    have n4 : ¬ 4 = 2 * st.nx + 1 := by omega
    have n8 : ¬ 8 = 2 * st.nx + 1 := by omega
    have n3 : ¬ 2 * st.nx + 3 = 2 * st.nx + 1 := by omega
    have n38 : ¬ 2 * st.nx + 3 = 8 := by omega
    have p2 : s'.ob 2 = some ⟨0, .cells (histC h)⟩ := by rw [hs']; simp only [upd_apply, n2, if_false, app_ob1]; simp [g4]
    have p4 : s'.ob 4 = some ⟨64, .cells [.int .i64 0]⟩ := by rw [hs']; simp only [upd_apply, n4, if_false, app_ob1]; simp [g5]
    have p8 : s'.ob 8 = some ⟨ub, .cells (opC (h.ts[i]).ops[k])⟩ := by rw [hs']; simp only [upd_apply, n8, if_false, app_ob1]; simp [opC]
    have p3 : s'.ob (2 * st.nx + 3) = some ⟨st.nx + 1, .dfr⟩ := by rw [hs']; simp only [upd_apply, n3, n38, if_false, app_ob1]; exact g3
    have p1 : s'.ob (2 * st.nx + 1) = some ⟨st.nx, .loop .busy none⟩ := by rw [hs']; simp
    have fr : s'.ro = 0 := by rw [hs']
    have fn : ub ≤ s'.nx := by rw [hs']; simp; omega
    clear hs'
    simp [BD70, f1, f4, p2, p8, objCells, opC, histC]
    refine kS_call (vs := [.agg (histC h), .agg (opC (h.ts[i]).ops[k])]) (by simp [histC, opC]) rfl (by simp [histC, opC]) (by simpa [histC, opC] using ev25 h (h.ts[i]).ops[k]) ?_
    have m1 : ¬ 2 * st.nx + 1 = 4 := by omega
    have m3 : ¬ 2 * st.nx + 3 = 4 := by omega
    cases hb : opB h (h.ts[i]).ops[k]
    · simp [f2, p4, objCells, fr, m1, p1, roundAns, splice]
      intro ob' ub' hle hfr
      have fk : ∀ key, (∀ m, s'.nx + 64 + 64 + 64 + 64 + 64 ≤ m → key ≠ 2 * m + 1) → ob' key = _ := hfr
      have hall : (opsOf h).all (opB h) = false := by
        rw [List.all_eq_false]
        exact ⟨_, List.mem_flatMap.2 ⟨_, List.getElem_mem hi, List.getElem_mem hk⟩, by rw [hb]; decide⟩
      have n1' : ∀ {k : Nat}, k ≠ 2 * st.nx + 1 → (if 2 * st.nx + 1 = k then none else ob' k) = ob' k := fun hk => if_neg fun e => hk e.symm
      refine ⟨.done, some .ret, ?_, by simp, ?_⟩
      · rw [fk _ (fun m hm => by omega)]
        simp
      · have := hQ .ret (fun k => if 2 * st.nx + 1 = k then none else ob' k) s'.tk ub' 4 (by rw [n1' n2, fk _ (fun m hm => by omega)]; simp only [upd_apply, n2, if_false, app_ob1]; simp [p2]) (by rw [n1' n4, fk _ (fun m hm => by omega)]; simp only [upd_apply, n4, if_false, app_ob1]; simp)
          (by rw [n1' n3, fk _ (fun m hm => by omega)]; simp only [upd_apply, n3, m3, if_false, app_ob1]; exact p3) (by omega) (Or.inr ⟨hall, rfl, rfl⟩)
        rw [hro, hfb] at this
        exact this
    · simp [p1, roundAns]
      refine ⟨fun i' hi' k' hk' hlt => ?_, ?_, ?_, ?_, by omega⟩
      · rcases hlt with h' | ⟨rfl, h'⟩
        · exact g1 i' hi' k' hk' (Or.inl h')
        · rcases Nat.lt_succ_iff_lt_or_eq.1 h' with h'' | rfl
          · exact g1 _ hi' k' hk' (Or.inr ⟨rfl, h''⟩)
          · exact hb
      · rw [upd_apply, if_neg n3]; exact p3
      · rw [upd_apply, if_neg n2]; exact p2
      · rw [upd_apply, if_neg n4]; exact p4
  · rintro ob tk ub ⟨g1, g2, g3, g4, g5, g6⟩
    refine ⟨.ready, none, g2, by simp, by omega, ?_⟩
    exact hQ .nrm _ _ _ 0 ((away ob (by omega)).trans g4) ((away ob (by omega)).trans g5) ((away ob (by omega)).trans g3) g6 (Or.inl ⟨goodTo_all g1, rfl, rfl⟩)
  · refine ⟨fun i' hi' k' hk' hlt => by omega, ?_, ?_, ?_, ?_, by omega⟩
    · simp
    · simp [upd_apply]
    · have e1 : ¬ 2 = 2 * st.nx + 1 := by omega
      have e2 : ¬ 2 = 2 * st.nx + 3 := by omega
      simp only [upd_apply, e1, e2, if_false, o2]
    · have e1 : ¬ 4 = 2 * st.nx + 1 := by omega
      have e2 : ¬ 4 = 2 * st.nx + 3 := by omega
      simp only [upd_apply, e1, e2, if_false, o4]
end Go.Pv.T
namespace Go.Pv.T
open Go Go.Pv
end Go.Pv.T
namespace Go.Pv.T
open Go Go.Pv
section
variable {E : Env} {Yf : YF} {st : St} {ub : Nat} {K : St → Nat → Prop} {d : Option Nat} {nm : Bool}
theorem kS_append_tok {sz bytes u n : Nat} {nl : Bool} {cs ys : List V} {s x : A} (hs : eval E st.tm s = .sl (some (u, sz)) nl n cs) (htk : st.tk u = true) (hx : slCells st.ob sz (eval E st.tm x) = some ys) (hne : ys ≠ []) (hlen : cs.length = n * sz) (h0 : 0 < sz)
    (hp : ys.all V.pureLeaf = true) (hb : (n + ys.length / sz) * bytes ≤ 140737488355328) (hb2 : n + ys.length / sz ≤ 140737488355328) (h : kApp K st d ub { v := .sl (some (ub, sz)) false (n + ys.length / sz) (cs ++ ys), del := some u, add := [ub] }) :
    wpStep E Yf ⟨d, .append false sz bytes s x, none, nm⟩ st ub K := by
  rw [wpStep_of _ rfl rfl]
  simp only [aop, hs, hx, Option.bind_some, if_neg hne, Bool.false_and, Bool.false_eq_true, if_false]
  rw [if_pos ⟨hlen, h0, hp, hb, hb2⟩, if_pos (by simp [htk]), wpD_some]
  exact h
theorem kS_append_nil {sz bytes : Nat} {ys : List V} {s x : A} (hs : eval E st.tm s = .sl none true 0 []) (hx : slCells st.ob sz (eval E st.tm x) = some ys) (hne : ys ≠ []) (h0 : 0 < sz)
    (hp : ys.all V.pureLeaf = true) (hb : (0 + ys.length / sz) * bytes ≤ 140737488355328) (hb2 : 0 + ys.length / sz ≤ 140737488355328) (h : kApp K st d ub { v := .sl (some (ub, sz)) false (0 + ys.length / sz) ([] ++ ys), add := [ub] }) :
    wpStep E Yf ⟨d, .append false sz bytes s x, none, nm⟩ st ub K := by
  rw [wpStep_of _ rfl rfl]
  simp only [aop, hs, hx, Option.bind_some, if_neg hne, Bool.false_and, Bool.false_eq_true, if_false]
  rw [if_pos ⟨by simp, h0, hp, hb, hb2⟩, if_pos trivial, wpD_some]
  exact h
theorem kS_buildSl {sz n : Nat} {zero : List V} {parts : List (Nat × Nat × A)} {cs : List V} (hf : fill zero (evalParts (eval E st.tm) parts) = some cs) (hl : cs.length = n * sz) (hp : (cs.map V.strip1).all V.pureLeaf = true)
    (h : kApp K st d ub { v := .sl (some (ub, sz)) false n (cs.map V.strip1), add := [ub] }) : wpStep E Yf ⟨d, .buildSl false sz zero parts n, none, nm⟩ st ub K := by
  rw [wpStep_of _ rfl rfl]
  simp only [aop, hf, Option.bind_some, Bool.false_eq_true, if_false]
  rw [if_pos ⟨hl, hp⟩, wpD_some]
  exact h
end
theorem fld_at {α : Type} {f : α → List V} {k : Nat} (hf : ∀ a, (f a).length = k) (l : List α) {i o : Nat} (h : i < l.length) (ho : o < k) : (l.flatMap f)[i * k + o]? = (f l[i])[o]? := by
  have := flatMap_at hf l i h
  rw [← this, List.getElem?_take, if_pos ho, List.getElem?_drop]
def numsTo (p : Txn' → Bool) (l : List Txn') : Nat → List Int
  | 0 => []
  | i + 1 => numsTo p l i ++ (match l[i]? with | some t => if p t then [(i : Int)] else [] | none => [])
theorem numsTo_len (p : Txn' → Bool) (l : List Txn') : ∀ i, (numsTo p l i).length ≤ i
  | 0 => by simp [numsTo]
  | i + 1 => by
    have := numsTo_len p l i
    simp only [numsTo, List.length_append]
    split
    · split <;> simp <;> omega
    · simp; omega
def intC (n : Int) : List V := [.int .i64 n]
theorem numsTo_succ {p : Txn' → Bool} {l : List Txn'} {i : Nat} (h : i < l.length) : numsTo p l (i + 1) = numsTo p l i ++ (if p l[i] then [(i : Int)] else []) := by
  simp [numsTo, List.getElem?_eq_getElem h]
@[simp] theorem intC_len (n : Int) : (intC n).length = 1 := rfl
theorem endV_tokG {n u m : Nat} {st : St} {cs : List V} (hd : st.df = []) (h : st.tm n = .sl (some (u, 1)) false m cs) (ht : st.tk u = true) : endV [.t n] (.ret, st) = some (.sl (some (0, 1)) false m cs) := by
  simp only [endV, dfOk_of hd, noDf_of hd, if_true, List.mapM_cons, List.mapM_nil, resOf, h]
  simp [outRes, outTops, outTop, outLeaf, V.toks, V.tok, nodup, ht]
def isInfo (t : Txn') : Bool := t.f == 3
def infosH (h : Hist') : List Int := numsTo isInfo h.ts h.ts.length
theorem ev15 (h : Hist') (hn : h.ts.length ≤ 1000) : Ev E 15 [.agg (histC h)] (.sl (some (0, 1)) false (infosH h).length ((infosH h).flatMap intC)) := by
  refine Ev_wpK (af := F15) rfl ?_
  simp [F15, histC]
  refine kS_buildSl (cs := []) rfl rfl rfl ?_
  simp
  refine wp_loopK (n := h.ts.length) (fun k s => ∃ i u, k = h.ts.length - i ∧ i ≤ h.ts.length ∧ s.df = [] ∧ s.fb = 0 ∧ s.ro = 0 ∧ s.tm 1 = .ptr 2 0 0 ∧ s.ob 2 = some ⟨0, .cells (histC h)⟩ ∧ s.tm 4 = .int .i64 i ∧ s.tk u = true ∧
      s.tm 3 = .sl (some (u, 1)) false (numsTo isInfo h.ts i).length ((numsTo isInfo h.ts i).flatMap intC))
    ⟨0, 128, by simp [numsTo, histC]⟩ ?_
  rintro k s ⟨i, u, rfl, hi, hd, hfb, hro, h1, o2, h4, hu, h3⟩
  by_cases hlt : i < h.ts.length
  · simp [h1, o2, h4, objCells, histC, hlt, idx_slOf txnC_len, fld_at txnC_len, txnC]
    have hl := numsTo_len isInfo h.ts i
    cases hf : h.ts[i].f == 3
    · simp [h4]
      refine ⟨h.ts.length - (i + 1), by omega, i + 1, ⟨rfl, by omega, hd, hfb, hro, h1, by simpa [histC] using o2, by rw [wrap64' (by omega) (by omega)]; simp, u, hu, ?_⟩⟩
      rw [h3, numsTo_succ hlt, isInfo, hf]
      simp
    · simp [h3, h4]
      refine kS_buildSl (cs := [.int .i64 i]) (by simp [splice]) rfl rfl ?_
      simp
      refine kS_append_tok (u := u) (nl := false) (n := (numsTo isInfo h.ts i).length) (cs := (numsTo isInfo h.ts i).flatMap intC) (ys := [.int .i64 i]) (by simp) (by simp [app_tk, hu]) (by simp [slCells]) (by simp) (by rw [flatMap_len intC_len]) (by decide) rfl (by simp; omega) (by simp; omega) ?_
      simp [h4, hd, hfb, hro, h1, o2, histC]
      refine ⟨h.ts.length - (i + 1), by omega, i + 1, rfl, by omega, by rw [wrap64' (by omega) (by omega)]; simp, Or.inl ?_⟩
      rw [numsTo_succ hlt, isInfo, hf]
      simp [intC]
  · have : i = h.ts.length := by omega
    subst this
    simp [h1, o2, h4, objCells, histC]
    exact endV_tokG (u := u) (by simpa using hd) (by simp [h3, infosH]) (by simpa using hu)
def digitB (r : Int) : Bool := decide (48 ≤ r) && decide (r ≤ 57)
theorem ev85 (r : Int) : Ev E 85 [.int .i32 r] (.bool (digitB r)) := by
  refine Ev_wpK (af := F85) rfl ?_
  unfold digitB
  by_cases h : 48 ≤ r
  · simp [F85, h]
    exact endV_1 rfl (by simp) rfl
  · simp [F85, h]
    exact endV_1 rfl (by simp) rfl
theorem ev180 (r : Int) : Ev E 180 [.int .i32 r] (.bool false) := by
  refine Ev_wpK (af := F180) rfl ?_
  simp [F180]
  exact endV_1 rfl (by simp) rfl
def cmpI (a b : Int) : Int := if a < b then -1 else if b < a then 1 else 0
theorem ev148 (a b : Int) : Ev E 148 [.int .i32 a, .int .i32 b] (.int .i64 (cmpI a b)) := by
  refine Ev_wpK (af := F148) rfl ?_
  simp [F148]
  refine kS_call (vs := [.int .i32 a]) (by simp) rfl rfl (ev180 a) ?_
  simp
  refine kS_call (vs := [.int .i32 b]) (by simp) rfl rfl (ev180 b) ?_
  unfold cmpI
  by_cases h : a < b
  · simp [h]
    exact endV_1 rfl (by simp) rfl
  · by_cases h2 : b < a
    · simp [h, h2]
      exact endV_1 rfl (by simp) rfl
    · simp [h, h2]
      exact endV_1 rfl (by simp) rfl
def runeC (r : Int) : List V := [.int .i32 r]
@[simp] theorem runeC_len (n : Int) : (runeC n).length = 1 := rfl
def cmpL : List Int → List Int → Int
  | [], [] => 0
  | [], _ :: _ => -1
  | _ :: _, [] => 1
  | a :: x, b :: y => if cmpI a b = 0 then cmpL x y else cmpI a b
theorem rune_at (l : List Int) {i : Nat} (h : i < l.length) : (l.flatMap runeC)[i]? = some (.int .i32 l[i]) := by
  have := fld_at (f := runeC) runeC_len l h (by decide : 0 < 1)
  rw [Nat.mul_one, Nat.add_zero] at this
  rw [this]
  rfl
theorem ev122 (nx ny : Bool) (x y : List Int) (hx : x.length ≤ 140737488355328) : Ev E 122 [slOf nx runeC x, slOf ny runeC y] (.int .i64 (cmpL x y)) := by
  refine Ev_wpK (af := F122) rfl ?_
  simp [F122]
  refine wp_loopK (n := x.length) (fun k s => ∃ i, k = x.length - i ∧ i ≤ x.length ∧ i ≤ y.length ∧ s.df = [] ∧ s.tm 0 = slOf nx runeC x ∧ s.tm 1 = slOf ny runeC y ∧ s.tm 9 = slOf nx runeC x ∧ s.tm 10 = .int .i64 x.length ∧ s.tm 11 = .int .i64 i ∧ cmpL (x.drop i) (y.drop i) = cmpL x y)
    ⟨0, by simp⟩ ?_
  rintro k s ⟨i, rfl, hi, hiy, hd, h0, h1, h9, h10, h11, hc⟩
  by_cases hlt : i < x.length
  · rw [List.drop_eq_getElem_cons hlt] at hc
    by_cases hly : i < y.length
    · rw [List.drop_eq_getElem_cons hly, cmpL] at hc
      have hny : ¬ (y.length : Int) ≤ i := by omega
      simp [h1, h9, h10, h11, hlt, hny, hly, idx_slOf runeC_len, rune_at x hlt, rune_at y hly]
      refine kS_call (vs := [.int .i32 x[i], .int .i32 y[i]]) (by simp) rfl rfl (ev148 x[i] y[i]) ?_
      by_cases hz : cmpI x[i] y[i] = 0
      · rw [if_pos hz] at hc
        simp [hz, h0, h1, h9, h10, h11, hd]
        exact ⟨x.length - (i + 1), by omega, i + 1, rfl, by omega, by omega, by rw [wrap64' (by omega) (by omega)]; simp, hc⟩
      · rw [if_neg hz] at hc
        have hz' : (cmpI x[i] y[i] != 0) = true := by simpa using hz
        simp [hz']
        exact endV_1 (by simpa using hd) (by simp [hc]) rfl
    · have hny : (y.length : Int) ≤ i := by omega
      have e : y.drop i = [] := List.drop_of_length_le (by omega)
      rw [e, cmpL] at hc
      simp [h1, h9, h10, h11, hlt, hny, idx_slOf runeC_len, rune_at x hlt]
      exact endV_1 (by simpa using hd) (by simp [hc]) rfl
  · have : i = x.length := by omega
    subst this
    rw [List.drop_length] at hc
    by_cases hly : x.length < y.length
    · rw [List.drop_eq_getElem_cons hly, cmpL] at hc
      simp [h0, h1, h10, h11, hly]
      exact endV_1 (by simpa using hd) (by simp [hc]) rfl
    · have e : y.drop x.length = [] := List.drop_of_length_le (by omega)
      rw [e, cmpL] at hc
      simp [h0, h1, h10, h11, hly]
      exact endV_1 (by simpa using hd) (by simp [hc]) rfl
def runesI (s : List UInt8) : List Int := (runesL s s.length 0).map fun r => ((r : Nat) : Int)
theorem kS_runes {E : Env} {Yf : YF} {st : St} {ub : Nat} {K : St → Nat → Prop} {d : Option Nat} {nm : Bool} {x : A} {s : List UInt8} (hs : eval E st.tm x = .str s) (hb : (runesI s).length ≤ 70368744177664)
    (h : kApp K st d ub { v := .sl (some (ub, 1)) false (runesI s).length ((runesI s).flatMap runeC), add := [ub] }) : wpStep E Yf ⟨d, .runesOfStr x, none, nm⟩ st ub K := by
  have e : (runesL s s.length 0).map (fun r => V.int .i32 (r : Nat)) = (runesI s).flatMap runeC := by
    rw [runesI, List.flatMap_map]
    generalize runesL s s.length 0 = l
    induction l with
    | nil => rfl
    | cons r l ih => simp only [List.map_cons, List.flatMap_cons, ih, runeC]; rfl
  have el : (runesI s).length = (runesL s s.length 0).length := by simp [runesI]
  rw [wpStep_of _ rfl rfl]
  simp only [aop, hs]
  rw [← el, if_pos hb, wpD_some, e]
  exact h
theorem ev86 (a b : List UInt8) (ha : (runesI a).length ≤ 1000000) (hb : (runesI b).length ≤ 1000000) : Ev E 86 [.str a, .str b] (.int .i64 (cmpL (runesI a) (runesI b))) := by
  refine Ev_wpK (af := F86) rfl ?_
  simp [F86]
  refine kS_runes (s := a) (by simp) (by omega) ?_
  simp
  refine kS_runes (s := b) (by simp) (by omega) ?_
  simp
  refine kS_call (vs := [.sl (some (128, 1)) false (runesI a).length ((runesI a).flatMap runeC), .sl (some (256, 1)) false (runesI b).length ((runesI b).flatMap runeC)]) (by simp) rfl rfl (ev122 false false _ _ (by omega)) ?_
  simp
  exact endV_1 rfl (by simp) rfl
theorem ev51 (a b : List UInt8) (ha : (runesI a).length ≤ 1000000) (hb : (runesI b).length ≤ 1000000) : Ev E 51 [.str a, .str b] (.bool (decide (cmpL (runesI a) (runesI b) < 0))) := by
  refine Ev_wpK (af := F51) rfl ?_
  simp [F51]
  refine kS_call (vs := [.str a, .str b]) (by simp) rfl rfl (ev86 a b ha hb) ?_
  simp
  exact endV_1 rfl (by simp) rfl
def resB (s : List UInt8) : Bool := s == [98, 101, 103, 105, 110] || s == [114, 101, 97, 100] || s == [119, 114, 105, 116, 101] || s == [111, 107] || s == [102, 97, 105, 108] || s == [105, 110, 102, 111] || s == [110, 105, 108]
theorem ev82 (s : List UInt8) : Ev E 82 [.str s] (.bool (resB s)) := by
  refine Ev_wpK (af := F82) rfl ?_
  unfold resB
  generalize h1 : (s == [98, 101, 103, 105, 110]) = b1
  generalize h2 : (s == [114, 101, 97, 100]) = b2
  generalize h3 : (s == [119, 114, 105, 116, 101]) = b3
  generalize h4 : (s == [111, 107]) = b4
  generalize h5 : (s == [102, 97, 105, 108]) = b5
  generalize h6 : (s == [105, 110, 102, 111]) = b6
  generalize h7 : (s == [110, 105, 108]) = b7
  cases b1
  · cases b2
    · cases b3
      · cases b4
        · cases b5
          · cases b6
            · cases b7
              all_goals (simp [F82, h1, h2, h3, h4, h5, h6, h7]; exact endV_1 rfl (by simp) rfl)
            · simp [F82, h1, h2, h3, h4, h5, h6]; exact endV_1 rfl (by simp) rfl
          · simp [F82, h1, h2, h3, h4, h5]; exact endV_1 rfl (by simp) rfl
        · simp [F82, h1, h2, h3, h4]; exact endV_1 rfl (by simp) rfl
      · simp [F82, h1, h2, h3]; exact endV_1 rfl (by simp) rfl
    · simp [F82, h1, h2]; exact endV_1 rfl (by simp) rfl
  · simp [F82, h1]; exact endV_1 rfl (by simp) rfl
theorem ev55 (s : List UInt8) : Ev E 55 [.str s] (.bool (resB s)) := by
  refine Ev_wpK (af := F55) rfl ?_
  unfold resB
  generalize h1 : (s == [98, 101, 103, 105, 110]) = b1
  generalize h2 : (s == [114, 101, 97, 100]) = b2
  generalize h3 : (s == [119, 114, 105, 116, 101]) = b3
  generalize h4 : (s == [111, 107]) = b4
  generalize h5 : (s == [102, 97, 105, 108]) = b5
  generalize h6 : (s == [105, 110, 102, 111]) = b6
  generalize h7 : (s == [110, 105, 108]) = b7
  cases b1
  · cases b2
    · cases b3
      · cases b4
        · cases b5
          · cases b6
            · cases b7
              all_goals (simp [F55, h1, h2, h3, h4, h5, h6, h7]; exact endV_1 rfl (by simp) rfl)
            · simp [F55, h1, h2, h3, h4, h5, h6]; exact endV_1 rfl (by simp) rfl
          · simp [F55, h1, h2, h3, h4, h5]; exact endV_1 rfl (by simp) rfl
        · simp [F55, h1, h2, h3, h4]; exact endV_1 rfl (by simp) rfl
      · simp [F55, h1, h2, h3]; exact endV_1 rfl (by simp) rfl
    · simp [F55, h1, h2]; exact endV_1 rfl (by simp) rfl
  · simp [F55, h1]; exact endV_1 rfl (by simp) rfl
def partB (r : Int) : Bool := decide (127 < r) || (r == 95) || digitB r || (decide (97 ≤ r) && decide (r ≤ 122)) || (decide (65 ≤ r) && decide (r ≤ 90))
theorem ev84 (r : Int) : Ev E 84 [.int .i32 r] (.bool (partB r)) := by
  refine Ev_wpK (af := F84) rfl ?_
  unfold partB
  by_cases h1 : 127 < r
  · simp [F84, h1]
    exact endV_1 rfl (by simp) rfl
  cases h2 : (r == 95)
  · simp [F84, h1, h2]
    refine kS_call (vs := [.int .i32 r]) (by simp) rfl rfl (ev85 r) ?_
    cases h3 : digitB r
    · by_cases h4 : 97 ≤ r
      · by_cases h5 : r ≤ 122
        · simp [h4, h5]
          exact endV_1 rfl (by simp) rfl
        · have h6 : 65 ≤ r := by omega
          have h7 : ¬ r ≤ 90 := by omega
          simp [h4, h5, h6, h7]
          exact endV_1 rfl (by simp) rfl
      · by_cases h6 : 65 ≤ r
        · simp [h4, h6]
          exact endV_1 rfl (by simp) rfl
        · simp [h4, h6]
          exact endV_1 rfl (by simp) rfl
    · simp
      exact endV_1 rfl (by simp) rfl
  · simp [F84, h1, h2]
    exact endV_1 rfl (by simp) rfl
end Go.Pv.T
namespace Go.Pv
open Go
def AOp.plainOp : AOp → Bool
  | .call .. | .callV .. | .entry _ | .nextMap _ => false
  | _ => true
/-- An operation that writes nothing. -/
def AOp.valOp : AOp → Bool
  | .mov _ | .pick .. | .bin .. | .eq .. | .un .. | .build .. | .load .. | .nilCheck _ | .fieldAddr .. | .idxSl .. | .idxArr .. | .part .. | .idxStr .. | .idxVal .. | .slStr .. | .slSl .. | .lenStr _ | .lenSl _ | .lenMap _ | .extract .. | .mkFn .. | .lookup .. | .iface .. | .assert .. | .conv .. | .minmax .. => true
  | _ => false
def kDr (E : Env) (r : List AOpr) (K : List FP → St → Prop) : St → Nat → Prop := fun st ub => wpDraw E r st ub K
def kFp (f : FP) (K : List FP → St → Prop) : List FP → St → Prop := fun fs s => K (f :: fs) s
def kDQ (free : List (Nat × Nat)) (Q : Ex → St → Prop) : List FP → St → Prop := fun fs s => drawOk free fs = true ∧ newOk fs = true ∧ Q .nrm s
def kDGd (E : Env) (o : AOpr) (r : List AOpr) (st : St) (ub : Nat) (K : List FP → St → Prop) : Bool → Prop
  | true => wpDraw E (o :: r) st ub K
  | false => wpDraw E r (st.setT o.dst none') (ub + 64) (kFp {} K)
def kDApp (E : Env) (r : List AOpr) (K : List FP → St → Prop) (ρ : A → V) (op : AOp) (st : St) (d : Option Nat) (ub : Nat) : Delta → Prop := fun δ => wpDraw E r (st.app d δ) (ub + 64) (kFp (fpOf ρ op δ) K)
theorem val_delta {call : FuncId → List V → Option V} {ρ : A → V} {ob : Nat → Option Obj'} {tk : Nat → Bool} {ro du ub : Nat} {op : AOp} {δ : Delta} (h : op.valOp = true) (ha : aop call ρ ob tk ro du ub op = some δ) : ∃ v, δ = { v := v } := by
  have key : ∀ {o : Option V}, o.bind one = some δ → ∃ v, δ = { v := v } := fun {o} hb => by
    cases o with
    | none => cases hb
    | some v => cases hb; exact ⟨v, rfl⟩
  cases op <;> first | (cases h; done) | skip
  all_goals simp only [aop] at ha
  all_goals first
    | exact key ha
    | exact key (o := some _) ha
    | (repeat' split at ha) <;> first | (cases ha; done) | exact key ha | exact key (o := some _) ha | skip
  all_goals (try simp only [Option.bind_eq_some_iff] at ha)
  all_goals first
    | (obtain ⟨_, _, hb⟩ := ha; exact key (o := some _) hb)
    | skip
  all_goals
    obtain ⟨_, _, x, _, hb⟩ := ha
    first | exact key (o := some _) hb | (rcases x with _ | ⟨_, _⟩ <;> exact key (o := some _) hb)
def kPin (E : Env) (fs : List AOpr) (st : St) (Q : Ex → St → Prop) : St → Nat → Prop := fun s ub => wpDraw E fs s ub fun _ s' => sameF fs st s' = true ∧ Q .nrm s'
def kPQ (fs : List AOpr) (st : St) (Q : Ex → St → Prop) : List FP → St → Prop := fun _ s' => sameF fs st s' = true ∧ Q .nrm s'
section
variable {E : Env} {Yf : YF} {st : St} {ub : Nat} {K : List FP → St → Prop} {d : Option Nat} {nm : Bool} {Q : Ex → St → Prop} {r : List AOpr}
theorem kC_pin {o : AOpr} {fs : List AOpr} : wpC E Yf (.pin o fs) st Q = wpStep E Yf o st st.nx (kPin E fs st Q) := propext Iff.rfl
theorem kPin_app {fs : List AOpr} {s : St} : kPin E fs st Q s ub = wpDraw E fs s ub (kPQ fs st Q) := propext Iff.rfl
theorem kPQ_app {fs : List AOpr} {f : List FP} {s : St} : kPQ fs st Q f s = (sameF fs st s = true ∧ Q .nrm s) := propext Iff.rfl
theorem sameF_nil {s s' : St} : sameF [] s s' = true := by simp [sameF]
theorem sameF_cons {op : AOp} {gd : Option (Nat × Bool)} {t : Nat} {fs : List AOpr} {s s' : St} : sameF (⟨some t, op, gd, nm⟩ :: fs) s s' = (V.eqb (s.tm t) (s'.tm t) && sameF fs s s') := by simp [sameF]
theorem eqb_same (v : V) : V.eqb v v = true := eqb_refl v
theorem kDr_app : kDr E r K st ub = wpDraw E r st ub K := propext Iff.rfl
theorem kFp_app {f : FP} {fs : List FP} : kFp f K fs st = K (f :: fs) st := propext Iff.rfl
theorem kDQ_app {free : List (Nat × Nat)} {fs : List FP} : kDQ free Q fs st = (drawOk free fs = true ∧ newOk fs = true ∧ Q .nrm st) := propext Iff.rfl
theorem kC_draw {ops : List AOpr} {free : List (Nat × Nat)} : wpC E Yf (.draw ops free) st Q = wpDraw E ops st st.nx (kDQ free Q) := propext Iff.rfl
theorem kDr_nil : wpDraw E [] st ub K = K [] (st.setN ub) := propext Iff.rfl
theorem kDGd_true {o : AOpr} : kDGd E o r st ub K true = wpDraw E (o :: r) st ub K := propext Iff.rfl
theorem kDGd_false {o : AOpr} : kDGd E o r st ub K false = wpDraw E r (st.setT o.dst none') (ub + 64) (kFp {} K) := propext Iff.rfl
theorem kDr_guard {op : AOp} {t : Nat} {b : Bool} : wpDraw E (⟨d, op, some (t, b), nm⟩ :: r) st ub K = gdK (st.tm t) b (kDGd E ⟨d, op, none, nm⟩ r st ub K) := by
  have hn : AOpr.name ⟨d, op, some (t, b), nm⟩ = AOpr.name ⟨d, op, none, nm⟩ := rfl
  have ht : ∀ c, st.tm t = .bool c → (wpDraw E (⟨d, op, some (t, b), nm⟩ :: r) st ub K = kDGd E ⟨d, op, none, nm⟩ r st ub K (c == b)) := fun c hc => by
    cases hcb : (c == b)
    · have : wanted ⟨d, op, some (t, b), nm⟩ st.tm = some false := by simp [wanted, hc, hcb]
      rw [wpDraw, this, kDGd_false, ← app_v]; rfl
    · have : wanted ⟨d, op, some (t, b), nm⟩ st.tm = some true := by simp [wanted, hc, hcb]
      rw [wpDraw, this, kDGd_true, wpDraw]; rfl
  cases h : st.tm t with
  | bool c => rw [ht c h]; rfl
  | tup l => cases l with
    | nil =>
      have : wanted ⟨d, op, some (t, b), nm⟩ st.tm = some false := by simp [wanted, h]
      rw [wpDraw, this]
      show _ = kDGd E ⟨d, op, none, nm⟩ r st ub K false
      rw [kDGd_false, ← app_v]; rfl
    | cons a l =>
      have : wanted ⟨d, op, some (t, b), nm⟩ st.tm = none := by simp [wanted, h]
      rw [wpDraw, this]; rfl
  | _ =>
    have : wanted ⟨d, op, some (t, b), nm⟩ st.tm = none := by simp [wanted, h]
    rw [wpDraw, this]; rfl
theorem wpDraw_of {op : AOp} (h : op.plainOp = true) : wpDraw E (⟨d, op, none, nm⟩ :: r) st ub K = wpD (aop (fun _ _ => none) (eval E st.tm) st.ob st.tk st.ro (AOpr.name ⟨d, op, none, nm⟩ st.fb ub) ub op) (kDApp E r K (eval E st.tm) op st d ub) := by
  cases op <;> first | cases h; done | (simp only [wpDraw, wanted, sharedCall, AOp.far, true_and]; rfl)
theorem kD_val {op : AOp} (h : op.valOp = true) : wpDraw E (⟨d, op, none, nm⟩ :: r) st ub K = wpStep E Yf ⟨d, op, none, nm⟩ st ub (kDr E r (kFp { ro := rdOb (eval E st.tm) op, rt := rdTk (eval E st.tm) op } K)) := by
  have h1 : op.plainOp = true := by cases op <;> first | rfl | cases h
  have h2 : op.isCall = false := by cases op <;> first | rfl | cases h
  have h3 : op.isNext = false := by cases op <;> first | rfl | cases h
  rw [wpDraw_of h1, wpStep_of _ h2 h3]
  refine propext ⟨?_, ?_⟩
  · rintro ⟨δ, hδ, hk⟩
    obtain ⟨v, rfl⟩ := val_delta h hδ
    exact ⟨_, hδ, hk⟩
  · rintro ⟨δ, hδ, hk⟩
    obtain ⟨v, rfl⟩ := val_delta h hδ
    exact ⟨_, hδ, hk⟩
theorem kD_store {sz : Nat} {p x : A} : wpDraw E (⟨d, .store sz p x, none, nm⟩ :: r) st ub K = wpStore st sz (eval E st.tm x) (kDApp E r K (eval E st.tm) (.store sz p x) st d ub) (eval E st.tm p) := by
  rw [wpDraw_of rfl]
  simp only [aop]
  generalize he : kDApp E r K (eval E st.tm) (.store sz p x) st d ub = k
  clear he
  generalize eval E st.tm p = vp
  cases vp <;> simp only [wpD_none, wpStore]
  rename_i l u off
  cases objCells st.ob l u with
  | none => simp [wpD]
  | some cs => simp only [Option.bind_some, wpD_ite, wpD_some, Option.some.injEq, exists_eq_left', Nat.ble_eq, and_assoc]
theorem kD_alloc {z : List V} : wpDraw E (⟨d, .alloc z, none, nm⟩ :: r) st ub K = kDApp E r K (eval E st.tm) (.alloc z) st d ub { v := .ptr (objName d nm st.fb ub) ub 0, obs := [(objName d nm st.fb ub, ⟨ub, .cells z⟩)] } := by
  rw [wpDraw_of rfl]; simp only [aop, mkObj, wpD_some, name_eq]
theorem kD_box {sz : Nat} {x : A} : wpDraw E (⟨d, .box sz x, none, nm⟩ :: r) st ub K = (((eval E st.tm x).cells.length = sz ∧ (eval E st.tm x).cells.all V.leaf = true) ∧ kDApp E r K (eval E st.tm) (.box sz x) st d ub { v := .ptr (objName d nm st.fb ub) ub 0, obs := [(objName d nm st.fb ub, ⟨ub, .cells (eval E st.tm x).cells⟩)] }) := by
  rw [wpDraw_of rfl]; simp only [aop, mkObj, wpD_ite, wpD_some, name_eq]
theorem kDApp_v {ρ : A → V} {op : AOp} {v : V} : kDApp E r K ρ op st d ub { v := v } = wpDraw E r (st.setT d v) (ub + 64) (kFp (fpOf ρ op { v := v }) K) := by rw [kDApp, app_v]
theorem kDApp_app {ρ : A → V} {op : AOp} {δ : Delta} : kDApp E r K ρ op st d ub δ = wpDraw E r (st.app d δ) (ub + 64) (kFp (fpOf ρ op δ) K) := propext Iff.rfl
theorem kD_ev {f : FuncId} {xs : List A} {args : List V} {v : V} (hev : Ev E f args v) (hx : (xs.map fun x => (eval E st.tm x).strip) = args) (hs : E.sh nm f = false) (hp : args.all V.pureTop = true) (h : wpD (retA ub v) (kDApp E r K (eval E st.tm) (.call f xs) st d ub)) :
    wpDraw E (⟨d, .call f xs, none, nm⟩ :: r) st ub K := by
  have hp' : (xs.all fun x => (eval E st.tm x).strip.pureTop) = true := by rw [← hx, List.all_map] at hp; exact hp
  have hsh : sharedCall E nm (eval E st.tm) (.call f xs) = none := by simp only [sharedCall, hs, hp', Bool.not_false, Bool.and_self, if_true]
  obtain ⟨δ, hδ, hk⟩ := h
  simp only [wpDraw, wanted, hsh, AOp.far, true_and]
  exact ⟨hp', v, hx ▸ hev, δ, hδ, hk⟩
theorem kS_ev {K : St → Nat → Prop} {f : FuncId} {xs : List A} {args : List V} {v : V} (hev : Ev E f args v) (hx : (xs.map fun x => (eval E st.tm x).strip) = args) (hs : E.sh nm f = false) (hp : args.all V.pureTop = true) (h : wpD (retA ub v) (kApp K st d ub)) :
    wpStep E Yf ⟨d, .call f xs, none, nm⟩ st ub K := by
  have hp' : (xs.all fun x => (eval E st.tm x).strip.pureTop) = true := by rw [← hx, List.all_map] at hp; exact hp
  have hsh : sharedCall E nm (eval E st.tm) (.call f xs) = none := by simp only [sharedCall, hs, hp', Bool.not_false, Bool.and_self, if_true]
  obtain ⟨δ, hδ, hk⟩ := h
  simp only [wpStep, wanted, yieldCall, hsh, wpCall]
  exact ⟨by rw [hx]; exact hp, v, hx ▸ hev, δ, hδ, hk⟩
end
/-! What a loop leaves alone. -/
def inR (t : Nat) : List (Nat × Nat) → Bool
  | [] => false
  | (a, b) :: l => (decide (a ≤ t) && decide (t ≤ b)) || inR t l
@[simp] theorem inR_nil (t : Nat) : inR t [] = false := rfl
@[simp] theorem inR_cons (t a b : Nat) (l : List (Nat × Nat)) : inR t ((a, b) :: l) = ((decide (a ≤ t) && decide (t ≤ b)) || inR t l) := rfl
def C.ws : C → List Nat
  | .region ops | .draw ops _ => ops.filterMap (·.dst)
  | .pin o fs => (o :: fs).filterMap (·.dst)
  | .seq a b | .cond _ a b => a.ws ++ b.ws
  | .block _ a | .loop a => a.ws
  | _ => []
def C.noRF : C → Bool
  | .rangeFunc .. => false
  | .seq a b | .cond _ a b => a.noRF && b.noRF
  | .block _ a | .loop a => a.noRF
  | _ => true
structure Keeps (p : Nat → Prop) (st s : St) : Prop where
  b : s.fb = st.fb
  r : s.ro = st.ro
  d : s.df = st.df
  t : ∀ t, ¬ p t → s.tm t = st.tm t
theorem Keeps.rfl' (p : Nat → Prop) (st : St) : Keeps p st st := ⟨rfl, rfl, rfl, fun _ _ => rfl⟩
theorem Keeps.trans {p q q' : Nat → Prop} {a b c : St} (h : Keeps p a b) (h' : Keeps q b c) (hp : ∀ t, p t → q' t) (hq : ∀ t, q t → q' t) : Keeps q' a c :=
  ⟨h'.b.trans h.b, h'.r.trans h.r, h'.d.trans h.d, fun t ht => (h'.t t fun h => ht (hq t h)).trans (h.t t fun h => ht (hp t h))⟩
theorem Keeps.weak {p q : Nat → Prop} {a b : St} (h : Keeps p a b) (hp : ∀ t, p t → q t) : Keeps q a b := ⟨h.b, h.r, h.d, fun t ht => h.t t fun h => ht (hp t h)⟩
theorem put_ne {tm : Nat → V} {d : Option Nat} {v : V} {t : Nat} (h : ¬ t ∈ d.toList) : put tm d v t = tm t := by
  cases d with
  | none => rfl
  | some d => exact upd_ne tm v (fun e => h (by simp [e]))
theorem Keeps.app {st : St} {d : Option Nat} {δ : Delta} : Keeps (· ∈ d.toList) st (st.app d δ) := ⟨rfl, rfl, rfl, fun _ ht => put_ne ht⟩
section
variable {E : Env} {Yf : YF}
theorem wpStep_keeps {o : AOpr} {st : St} {ub : Nat} {K : St → Nat → Prop} (hk : wpStep E Yf o st ub K) : wpStep E Yf o st ub fun s u => K s u ∧ Keeps (· ∈ o.dst.toList) st s := by
  have call : ∀ {f : FuncId} {xs : List V}, wpCall E f xs st o.dst ub K → wpCall E f xs st o.dst ub fun s u => K s u ∧ Keeps (· ∈ o.dst.toList) st s := by
    rintro f xs ⟨hp, v, hv, δ, hδ, hK⟩
    exact ⟨hp, v, hv, δ, hδ, hK, Keeps.app⟩
  unfold wpStep at hk ⊢
  cases hw : wanted o st.tm with
  | none => simp only [hw] at hk
  | some b =>
    cases b with
    | false => simp only [hw] at hk ⊢; exact ⟨hk, rfl, rfl, rfl, fun _ ht => put_ne ht⟩
    | true =>
      simp only [hw] at hk ⊢
      cases hy : yieldCall (eval E st.tm) o.op with
      | some x =>
       obtain ⟨l, u, xs⟩ := x
       simp only [hy] at hk ⊢
       obtain ⟨r, hr, hK⟩ := hk
       exact ⟨r, hr, hK, rfl, rfl, rfl, fun _ ht => put_ne ht⟩
      | none =>
      simp only [hy] at hk ⊢
      cases hsh : sharedCall E o.nm (eval E st.tm) o.op with
      | some fx =>
        simp only [hsh] at hk ⊢
        rcases hk with ⟨h1, n, l, hr, hne, hK⟩ | ⟨h1, v, hv, δ, hδ, hK⟩
        · exact .inl ⟨h1, n, l, hr, hne, fun r hm => ⟨hK r hm, rfl, rfl, rfl, fun _ ht => put_ne ht⟩⟩
        · exact .inr ⟨h1, v, hv, δ, hδ, hK, Keeps.app⟩
      | none =>
        simp only [hsh] at hk ⊢
        cases ho : o.op <;> simp only [ho] at hk ⊢
        case call f xs => exact call hk
        case callV q xs =>
          obtain ⟨f, first, captured, hev, hk⟩ := hk
          exact ⟨f, first, captured, hev, call hk⟩
        case nextMap x =>
          obtain ⟨l, hl, hK⟩ := hk
          exact ⟨l, hl, fun δ hδ => ⟨hK δ hδ, Keeps.app⟩⟩
        all_goals
          obtain ⟨δ, hδ, hK⟩ := hk
          exact ⟨δ, hδ, hK, Keeps.app⟩
theorem mem_ws_cons {o : AOpr} {r : List AOpr} {t : Nat} : t ∈ (o :: r).filterMap (·.dst) ↔ t ∈ o.dst.toList ∨ t ∈ r.filterMap (·.dst) := by
  cases h : o.dst with
  | none => simp [h]
  | some d => simp [h]
theorem wpOps_keeps : ∀ {ops : List AOpr} {st : St} {ub : Nat} {K : St → Prop}, wpOps' E Yf ops st ub K → wpOps' E Yf ops st ub fun s => K s ∧ Keeps (· ∈ ops.filterMap (·.dst)) st s
  | [], st, ub, K, hk => ⟨hk, rfl, rfl, rfl, fun _ _ => rfl⟩
  | o :: r, st, ub, K, hk => by
    refine wpStep_mono (fun s u h => ?_) (wpStep_keeps hk)
    refine wpOps_mono (fun s' h' => ?_) (wpOps_keeps h.1)
    exact ⟨h'.1, h.2.trans h'.2 (fun t ht => mem_ws_cons.2 (.inl ht)) (fun t ht => mem_ws_cons.2 (.inr ht))⟩
theorem wpDraw_keeps : ∀ {ops : List AOpr} {st : St} {ub : Nat} {K : List FP → St → Prop}, wpDraw E ops st ub K → wpDraw E ops st ub fun f s => K f s ∧ Keeps (· ∈ ops.filterMap (·.dst)) st s
  | [], st, ub, K, hk => ⟨hk, rfl, rfl, rfl, fun _ _ => rfl⟩
  | o :: r, st, ub, K, hk => by
    have key : ∀ {δ : Delta} {f : List FP → List FP} {ub : Nat}, wpDraw E r (st.app o.dst δ) ub (fun fs s => K (f fs) s) → wpDraw E r (st.app o.dst δ) ub fun fs s => K (f fs) s ∧ Keeps (· ∈ (o :: r).filterMap (·.dst)) st s := fun h =>
      wpDraw_mono (fun f s h' => ⟨h'.1, Keeps.app.trans h'.2 (fun t ht => mem_ws_cons.2 (.inl ht)) (fun t ht => mem_ws_cons.2 (.inr ht))⟩) (wpDraw_keeps h)
    unfold wpDraw at hk ⊢
    cases hw : wanted o st.tm with
    | none => simp only [hw] at hk
    | some b =>
      cases b with
      | false => simp only [hw] at hk ⊢; exact key (f := fun fs => {} :: fs) hk
      | true =>
        simp only [hw] at hk ⊢
        cases hsh : sharedCall E o.nm (eval E st.tm) o.op with
        | some fx =>
          simp only [hsh] at hk ⊢
          rcases hk with ⟨h1, v, hv, δ, hδ, hK⟩ | ⟨h1, h2, a', v, ha, hv, δ, hδ, hK⟩ | ⟨h1, h2, δ, hδ, hK⟩
          · exact .inl ⟨h1, v, hv, δ, hδ, key (f := fun fs => { wt := δ.wt, all := true, seen := fun l => (st.ob l).isSome } :: fs) hK⟩
          · exact .inr (.inl ⟨h1, h2, a', v, ha, hv, δ, hδ, key (f := fun fs => { wo := δ.wo, all := true, seen := fun l => (st.ob l).isSome, nw := true } :: fs) hK⟩)
          · exact .inr (.inr ⟨h1, h2, δ, hδ, key (f := fun fs => { wo := δ.wo, nw := true } :: fs) hK⟩)
        | none =>
          simp only [hsh] at hk ⊢
          refine ⟨hk.1, ?_⟩
          have hk := hk.2
          cases ho : o.op <;> simp only [ho] at hk ⊢
          case call f xs =>
            obtain ⟨h1, v, hv, δ, hδ, hK⟩ := hk
            exact ⟨h1, v, hv, δ, hδ, key (f := fun fs => fpOf (eval E st.tm) (.call f xs) δ :: fs) hK⟩
          case callV q xs =>
            obtain ⟨f, first, captured, hev, h1, v, hv, δ, hδ, hK⟩ := hk
            exact ⟨f, first, captured, hev, h1, v, hv, δ, hδ, key (f := fun fs => fpOf (eval E st.tm) (.callV q xs) δ :: fs) hK⟩
          all_goals
            obtain ⟨δ, hδ, hK⟩ := hk
            exact ⟨δ, hδ, key (f := fun fs => fpOf (eval E st.tm) _ δ :: fs) hK⟩
theorem wpC_keeps : ∀ {c : C}, c.noRF = true → ∀ {st : St} {Q : Ex → St → Prop}, wpC E Yf c st Q → wpC E Yf c st fun e s => Q e s ∧ Keeps (· ∈ c.ws) st s := by
  intro c
  induction c with
  | skip => intro _ st Q hk; exact ⟨hk, Keeps.rfl' _ _⟩
  | ret => intro _ st Q hk; exact ⟨hk, Keeps.rfl' _ _⟩
  | exit id => intro _ st Q hk; exact ⟨hk, Keeps.rfl' _ _⟩
  | stuck => intro _ st Q hk; exact hk
  | rangeFunc f ps a b => intro hn; cases hn
  | region ops => intro _ st Q hk; exact wpOps_keeps hk
  | draw ops free => intro _ st Q hk; exact wpDraw_mono (fun f s h => ⟨h.1.1, h.1.2.1, h.1.2.2, h.2⟩) (wpDraw_keeps hk)
  | pin o fs => intro _ st Q hk; exact wpStep_mono (fun s u h => wpDraw_mono (fun f s' h' => ⟨h'.1.1, h'.1.2, h.2.trans h'.2 (fun t ht => mem_ws_cons.2 (.inl ht)) (fun t ht => mem_ws_cons.2 (.inr ht))⟩) (wpDraw_keeps h.1)) (wpStep_keeps hk)
  | seq a b iha ihb =>
    intro hn st Q hk
    have hn := Bool.and_eq_true_iff.1 hn
    rw [kC_seq]
    refine wpC_mono (fun e s he => ?_) (iha hn.1 hk)
    obtain ⟨he, hf⟩ := he
    cases e
    · refine wpC_mono (fun e s' he' => ?_) (ihb hn.2 he)
      exact ⟨he'.1, hf.trans he'.2 (fun t ht => List.mem_append.2 (.inl ht)) (fun t ht => List.mem_append.2 (.inr ht))⟩
    · exact ⟨he, hf.weak (fun t ht => List.mem_append.2 (.inl ht))⟩
    · exact ⟨he, hf.weak (fun t ht => List.mem_append.2 (.inl ht))⟩
  | cond q a b iha ihb =>
    intro hn st Q hk
    have hn := Bool.and_eq_true_iff.1 hn
    obtain ⟨t, ht, h1, h2⟩ := hk
    exact ⟨t, ht, fun e => wpC_mono (fun e s he => ⟨he.1, he.2.weak (fun t ht => List.mem_append.2 (.inl ht))⟩) (iha hn.1 (h1 e)),
      fun e => wpC_mono (fun e s he => ⟨he.1, he.2.weak (fun t ht => List.mem_append.2 (.inr ht))⟩) (ihb hn.2 (h2 e))⟩
  | block id a ih =>
    intro hn st Q hk
    rw [kC_block]
    refine wpC_mono (fun e s he => ?_) (ih hn hk)
    obtain ⟨he, hf⟩ := he
    cases e
    · exact ⟨he, hf⟩
    · simp only [kBlk_exit] at he ⊢
      split at he
      · rename_i hi; simp only [hi, if_true]; exact ⟨he, hf⟩
      · rename_i hi; simp only [hi, if_false]; exact ⟨he, hf⟩
    · exact ⟨he, hf⟩
  | loop a ih =>
    intro hn st Q hk
    obtain ⟨N, hk⟩ := hk
    refine ⟨N, ?_⟩
    have key : ∀ (N : Nat) (st : St), wpLoop (wpC E Yf a) N st Q → wpLoop (wpC E Yf a) N st fun e s => Q e s ∧ Keeps (· ∈ a.ws) st s := by
      intro N
      induction N with
      | zero => intro st h; exact h
      | succ N ihN =>
        intro st h
        refine wpC_mono (fun e s he => ?_) (ih hn h)
        obtain ⟨he, hf⟩ := he
        cases e
        · exact wpLoop_mono (W := wpC E Yf a) (fun _ _ _ h hk => wpC_mono h hk) (fun e s' he' => ⟨he'.1, hf.trans he'.2 (fun _ h => h) (fun _ h => h)⟩) (ihN s he)
        · exact ⟨he, hf⟩
        · exact ⟨he, hf⟩
    exact key N st hk
/-- A loop: it leaves alone what it does not write. -/
theorem wp_loopF {a : C} {Q : Ex → St → Prop} {n : Nat} {st : St} (ws : List (Nat × Nat)) (I : Nat → St → Prop) (hn : a.noRF = true) (hw : (a.ws.all fun t => inR t ws) = true) (h0 : I n st)
    (hs : ∀ k s, I k s → Keeps (fun t => inR t ws = true) st s → wpC E Yf a s (kLoop I k Q)) : wpC E Yf (.loop a) st Q := by
  refine wp_loopK (fun k s => I k s ∧ Keeps (fun t => inR t ws = true) st s) (n := n) ⟨h0, Keeps.rfl' _ _⟩ fun k s ⟨hI, hf⟩ => ?_
  refine wpC_mono (fun e s' he => ?_) (wpC_keeps hn (hs k s hI hf))
  obtain ⟨he, hf'⟩ := he
  cases e
  · obtain ⟨j, hj, hI'⟩ := he
    exact ⟨j, hj, hI', hf.trans hf' (fun _ h => h) (fun t ht => List.all_eq_true.1 hw t ht)⟩
  · exact he
  · exact he
def kUp (I : Nat → St → Prop) (N i : Nat) (Q : Ex → St → Prop) : Ex → St → Prop := fun e s => match e with
  | .nrm => i < N ∧ I (i + 1) s
  | e => Q e s
/-- A loop that counts up. -/
theorem wp_loopUp {a : C} {Q : Ex → St → Prop} {st : St} (ws : List (Nat × Nat)) (N : Nat) (I : Nat → St → Prop) (hn : a.noRF = true) (hw : (a.ws.all fun t => inR t ws) = true) (h0 : I 0 st)
    (hs : ∀ i s, i ≤ N → I i s → Keeps (fun t => inR t ws = true) st s → wpC E Yf a s (kUp I N i Q)) : wpC E Yf (.loop a) st Q := by
  refine wp_loopF (n := N) ws (fun k s => ∃ i, k = N - i ∧ i ≤ N ∧ I i s) hn hw ⟨0, rfl, Nat.zero_le _, h0⟩ ?_
  rintro k s ⟨i, rfl, hi, hI⟩ hf
  refine wpC_mono (fun e s' he => ?_) (hs i s hi hI hf)
  cases e
  · obtain ⟨h1, h2⟩ := he
    exact ⟨N - (i + 1), by omega, i + 1, rfl, by omega, h2⟩
  · exact he
  · exact he
end
theorem kUp_nrm {I : Nat → St → Prop} {N i : Nat} {Q : Ex → St → Prop} {st : St} : kUp I N i Q .nrm st = (i < N ∧ I (i + 1) st) := propext Iff.rfl
theorem kUp_exit {I : Nat → St → Prop} {N i j : Nat} {Q : Ex → St → Prop} {st : St} : kUp I N i Q (.exit j) st = Q (.exit j) st := propext Iff.rfl
theorem kUp_ret {I : Nat → St → Prop} {N i : Nat} {Q : Ex → St → Prop} {st : St} : kUp I N i Q .ret st = Q .ret st := propext Iff.rfl
theorem noNew_nil : noNew [] = true := rfl
theorem noNew_cons (f : FP) (fs : List FP) : noNew (f :: fs) = (!f.nw && noNew fs) := rfl
theorem fpOf_nw (ρ : A → V) (o : AOp) (δ : Delta) : (fpOf ρ o δ).nw = false := rfl
theorem newOk_noNew {fs : List FP} (h : noNew fs = true) : newOk fs = true := by simp only [newOk, h, Bool.true_or]
theorem drawOk_nil (fs : List FP) : drawOk [] fs = true := rfl
section
variable {E : Env} {st : St} {ub : Nat} {K : List FP → St → Prop} {d : Option Nat} {nm : Bool} {r : List AOpr}
theorem kD_mov {x : A} : wpDraw E (⟨d, .mov x, none, nm⟩ :: r) st ub K = wpStep E noYF ⟨d, .mov x, none, nm⟩ st ub (kDr E r (kFp { ro := rdOb (eval E st.tm) (.mov x), rt := rdTk (eval E st.tm) (.mov x) } K)) := kD_val rfl
theorem kD_pick {c a b : A} : wpDraw E (⟨d, .pick c a b, none, nm⟩ :: r) st ub K = wpStep E noYF ⟨d, .pick c a b, none, nm⟩ st ub (kDr E r (kFp { ro := rdOb (eval E st.tm) (.pick c a b), rt := rdTk (eval E st.tm) (.pick c a b) } K)) := kD_val rfl
theorem kD_bin {op : BinOp} {x y : A} : wpDraw E (⟨d, .bin op x y, none, nm⟩ :: r) st ub K = wpStep E noYF ⟨d, .bin op x y, none, nm⟩ st ub (kDr E r (kFp { ro := rdOb (eval E st.tm) (.bin op x y), rt := rdTk (eval E st.tm) (.bin op x y) } K)) := kD_val rfl
theorem kD_eq {neg : Bool} {k : EqK} {x y : A} : wpDraw E (⟨d, .eq neg k x y, none, nm⟩ :: r) st ub K = wpStep E noYF ⟨d, .eq neg k x y, none, nm⟩ st ub (kDr E r (kFp { ro := rdOb (eval E st.tm) (.eq neg k x y), rt := rdTk (eval E st.tm) (.eq neg k x y) } K)) := kD_val rfl
theorem kD_un {op : UnOp} {x : A} : wpDraw E (⟨d, .un op x, none, nm⟩ :: r) st ub K = wpStep E noYF ⟨d, .un op x, none, nm⟩ st ub (kDr E r (kFp { ro := rdOb (eval E st.tm) (.un op x), rt := rdTk (eval E st.tm) (.un op x) } K)) := kD_val rfl
theorem kD_build {z : List V} {ps : List (Nat × Nat × A)} : wpDraw E (⟨d, .build z ps, none, nm⟩ :: r) st ub K = wpStep E noYF ⟨d, .build z ps, none, nm⟩ st ub (kDr E r (kFp { ro := rdOb (eval E st.tm) (.build z ps), rt := rdTk (eval E st.tm) (.build z ps) } K)) := kD_val rfl
theorem kD_load {g : Option Nat} {x : A} : wpDraw E (⟨d, .load g x, none, nm⟩ :: r) st ub K = wpStep E noYF ⟨d, .load g x, none, nm⟩ st ub (kDr E r (kFp { ro := rdOb (eval E st.tm) (.load g x), rt := rdTk (eval E st.tm) (.load g x) } K)) := kD_val rfl
theorem kD_nilCheck {x : A} : wpDraw E (⟨d, .nilCheck x, none, nm⟩ :: r) st ub K = wpStep E noYF ⟨d, .nilCheck x, none, nm⟩ st ub (kDr E r (kFp { ro := rdOb (eval E st.tm) (.nilCheck x), rt := rdTk (eval E st.tm) (.nilCheck x) } K)) := kD_val rfl
theorem kD_fieldAddr {o : Nat} {x : A} : wpDraw E (⟨d, .fieldAddr o x, none, nm⟩ :: r) st ub K = wpStep E noYF ⟨d, .fieldAddr o x, none, nm⟩ st ub (kDr E r (kFp { ro := rdOb (eval E st.tm) (.fieldAddr o x), rt := rdTk (eval E st.tm) (.fieldAddr o x) } K)) := kD_val rfl
theorem kD_idxSl {sz : Nat} {x i : A} : wpDraw E (⟨d, .idxSl sz x i, none, nm⟩ :: r) st ub K = wpStep E noYF ⟨d, .idxSl sz x i, none, nm⟩ st ub (kDr E r (kFp { ro := rdOb (eval E st.tm) (.idxSl sz x i), rt := rdTk (eval E st.tm) (.idxSl sz x i) } K)) := kD_val rfl
theorem kD_idxArr {len sz : Nat} {x i : A} : wpDraw E (⟨d, .idxArr len sz x i, none, nm⟩ :: r) st ub K = wpStep E noYF ⟨d, .idxArr len sz x i, none, nm⟩ st ub (kDr E r (kFp { ro := rdOb (eval E st.tm) (.idxArr len sz x i), rt := rdTk (eval E st.tm) (.idxArr len sz x i) } K)) := kD_val rfl
theorem kD_part {g : Option Nat} {o : Nat} {x : A} : wpDraw E (⟨d, .part g o x, none, nm⟩ :: r) st ub K = wpStep E noYF ⟨d, .part g o x, none, nm⟩ st ub (kDr E r (kFp { ro := rdOb (eval E st.tm) (.part g o x), rt := rdTk (eval E st.tm) (.part g o x) } K)) := kD_val rfl
theorem kD_idxStr {x i : A} : wpDraw E (⟨d, .idxStr x i, none, nm⟩ :: r) st ub K = wpStep E noYF ⟨d, .idxStr x i, none, nm⟩ st ub (kDr E r (kFp { ro := rdOb (eval E st.tm) (.idxStr x i), rt := rdTk (eval E st.tm) (.idxStr x i) } K)) := kD_val rfl
theorem kD_slStr {x : A} {lo hi : Option A} : wpDraw E (⟨d, .slStr x lo hi, none, nm⟩ :: r) st ub K = wpStep E noYF ⟨d, .slStr x lo hi, none, nm⟩ st ub (kDr E r (kFp { ro := rdOb (eval E st.tm) (.slStr x lo hi), rt := rdTk (eval E st.tm) (.slStr x lo hi) } K)) := kD_val rfl
theorem kD_slSl {sz : Nat} {x : A} {lo hi : Option A} : wpDraw E (⟨d, .slSl sz x lo hi, none, nm⟩ :: r) st ub K = wpStep E noYF ⟨d, .slSl sz x lo hi, none, nm⟩ st ub (kDr E r (kFp { ro := rdOb (eval E st.tm) (.slSl sz x lo hi), rt := rdTk (eval E st.tm) (.slSl sz x lo hi) } K)) := kD_val rfl
theorem kD_lenStr {x : A} : wpDraw E (⟨d, .lenStr x, none, nm⟩ :: r) st ub K = wpStep E noYF ⟨d, .lenStr x, none, nm⟩ st ub (kDr E r (kFp { ro := rdOb (eval E st.tm) (.lenStr x), rt := rdTk (eval E st.tm) (.lenStr x) } K)) := kD_val rfl
theorem kD_lenSl {x : A} : wpDraw E (⟨d, .lenSl x, none, nm⟩ :: r) st ub K = wpStep E noYF ⟨d, .lenSl x, none, nm⟩ st ub (kDr E r (kFp { ro := rdOb (eval E st.tm) (.lenSl x), rt := rdTk (eval E st.tm) (.lenSl x) } K)) := kD_val rfl
theorem kD_lenMap {x : A} : wpDraw E (⟨d, .lenMap x, none, nm⟩ :: r) st ub K = wpStep E noYF ⟨d, .lenMap x, none, nm⟩ st ub (kDr E r (kFp { ro := rdOb (eval E st.tm) (.lenMap x), rt := rdTk (eval E st.tm) (.lenMap x) } K)) := kD_val rfl
theorem kD_extract {x : A} {i : Nat} : wpDraw E (⟨d, .extract x i, none, nm⟩ :: r) st ub K = wpStep E noYF ⟨d, .extract x i, none, nm⟩ st ub (kDr E r (kFp { ro := rdOb (eval E st.tm) (.extract x i), rt := rdTk (eval E st.tm) (.extract x i) } K)) := kD_val rfl
theorem kD_mkFn {f : Fn} {a b : List A} : wpDraw E (⟨d, .mkFn f a b, none, nm⟩ :: r) st ub K = wpStep E noYF ⟨d, .mkFn f a b, none, nm⟩ st ub (kDr E r (kFp { ro := rdOb (eval E st.tm) (.mkFn f a b), rt := rdTk (eval E st.tm) (.mkFn f a b) } K)) := kD_val rfl
theorem kD_lookup {q : LK} {z : V} {ok : Bool} {m k : A} : wpDraw E (⟨d, .lookup q z ok m k, none, nm⟩ :: r) st ub K = wpStep E noYF ⟨d, .lookup q z ok m k, none, nm⟩ st ub (kDr E r (kFp { ro := rdOb (eval E st.tm) (.lookup q z ok m k), rt := rdTk (eval E st.tm) (.lookup q z ok m k) } K)) := kD_val rfl
theorem kD_conv {k : IntKind} {x : A} : wpDraw E (⟨d, .conv k x, none, nm⟩ :: r) st ub K = wpStep E noYF ⟨d, .conv k x, none, nm⟩ st ub (kDr E r (kFp { ro := rdOb (eval E st.tm) (.conv k x), rt := rdTk (eval E st.tm) (.conv k x) } K)) := kD_val rfl
theorem kD_minmax {b : Bool} {xs : List A} : wpDraw E (⟨d, .minmax b xs, none, nm⟩ :: r) st ub K = wpStep E noYF ⟨d, .minmax b xs, none, nm⟩ st ub (kDr E r (kFp { ro := rdOb (eval E st.tm) (.minmax b xs), rt := rdTk (eval E st.tm) (.minmax b xs) } K)) := kD_val rfl
end
attribute [simp ↓] kC_pin kPin_app kPQ_app kC_draw kDr_nil kDr_guard kD_store kD_alloc kD_box kD_mov kD_pick kD_bin kD_eq kD_un kD_build kD_load kD_nilCheck kD_fieldAddr kD_idxSl kD_idxArr kD_part kD_idxStr kD_slStr kD_slSl kD_lenStr kD_lenSl kD_lenMap kD_extract kD_mkFn kD_lookup kD_conv kD_minmax
attribute [simp ↓] kDr_app kFp_app kDQ_app kDGd_true kDGd_false kDApp_v kDApp_app kUp_nrm kUp_exit kUp_ret
attribute [simp] sameF_nil sameF_cons eqb_same drawOk_nil noNew_nil noNew_cons fpOf_nw newOk_noNew
def kL (E : Env) (Yf : YF) (a : C) (n : Nat) (Q : Ex → St → Prop) : Ex → St → Prop := fun e s => match e with
  | .nrm => wpLoop (wpC E Yf a) n s Q
  | e => Q e s
section
variable {E : Env} {Yf : YF} {a : C} {Q : Ex → St → Prop} {s : St} {n : Nat}
theorem kL_nrm : kL E Yf a n Q .nrm s = wpLoop (wpC E Yf a) n s Q := propext Iff.rfl
theorem kL_exit {i : Nat} : kL E Yf a n Q (.exit i) s = Q (.exit i) s := propext Iff.rfl
theorem kL_ret : kL E Yf a n Q .ret s = Q .ret s := propext Iff.rfl
theorem wpLoop_1 : wpLoop (wpC E Yf a) 1 s Q = wpC E Yf a s (kL E Yf a 0 Q) := propext Iff.rfl
theorem wpLoop_2 : wpLoop (wpC E Yf a) 2 s Q = wpC E Yf a s (kL E Yf a 1 Q) := propext Iff.rfl
theorem wpLoop_3 : wpLoop (wpC E Yf a) 3 s Q = wpC E Yf a s (kL E Yf a 2 Q) := propext Iff.rfl
theorem wpLoop_4 : wpLoop (wpC E Yf a) 4 s Q = wpC E Yf a s (kL E Yf a 3 Q) := propext Iff.rfl
/-- So many rounds at most, one by one. -/
theorem wp_unroll (n : Nat) (h : wpLoop (wpC E Yf a) n s Q) : wpC E Yf (.loop a) s Q := ⟨n, h⟩
end
def wpStr (k : List UInt8 → Prop) : V → Prop
  | .str s => k s
  | _ => False
@[simp] theorem wpStr_str (k : List UInt8 → Prop) (s : List UInt8) : wpStr k (.str s) = k s := rfl
/-- A number's entries in a map. -/
def MP {α : Type} (f : α → V) (m : List (Int × α)) : List (V × V) := m.map fun p => (.int .i64 p.1, f p.2)
def mfind {α : Type} : List (Int × α) → Int → Option (Nat × α)
  | [], _ => none
  | (k', a) :: m, k => if k = k' then some (0, a) else (mfind m k).map fun p => (p.1 + 1, p.2)
def mset {α : Type} (m : List (Int × α)) (k : Int) (a : α) : List (Int × α) := match mfind m k with
  | some (i, _) => m.set i (k, a)
  | none => m ++ [(k, a)]
theorem findKey_MP {α : Type} (f : α → V) (k : Int) : ∀ m : List (Int × α), findKey .int (.int .i64 k) (MP f m) = some ((mfind m k).map fun p => (p.1, f p.2))
  | [] => rfl
  | (k', a) :: m => by
    have ih := findKey_MP f k m
    unfold MP at ih ⊢
    simp only [List.map_cons, findKey, eqLeaf, if_true, mfind]
    by_cases h : k = k'
    · simp [h]
    · rw [if_neg h, show (k == k') = false by simpa using h]
      simp only [ih, Option.map_some, Option.map_map]
      rfl
@[simp] theorem MP_length {α : Type} (f : α → V) (m : List (Int × α)) : (MP f m).length = m.length := by simp [MP]
def intV (n : Int) : V := .int .i64 n
def mcnt (m : List (Int × Int)) (k : Int) : Int := ((mfind m k).map (·.2)).getD 0
theorem lookupV_MP {α : Type} {f : α → V} {ob : Nat → Option Obj'} {l u : Nat} {z : V} {ok : Bool} {k : Int} (m : List (Int × α)) (h : objMap ob l u = some (MP f m)) :
    lookupV ob .int z ok (.map l u) (.int .i64 k) = some (match mfind m k with | some p => if ok then .tup [f p.2, .bool true] else f p.2 | none => if ok then .tup [z, .bool false] else z) := by
  simp only [lookupV, isKey, if_true, h, Option.bind_some, findKey_MP, Option.map_some]
  cases mfind m k <;> rfl
theorem lookupV_MI {ob : Nat → Option Obj'} {l u : Nat} {k : Int} (m : List (Int × Int)) (h : objMap ob l u = some (MP intV m)) : lookupV ob .int (.int .i64 0) false (.map l u) (.int .i64 k) = some (.int .i64 (mcnt m k)) := by
  rw [lookupV_MP m h, mcnt]
  cases mfind m k <;> rfl
section
variable {E : Env} {Yf : YF} {st : St} {ub : Nat} {K : St → Nat → Prop} {d : Option Nat} {nm : Bool}
theorem kS_rangeStr {x : A} : wpStep E Yf ⟨d, .range true x, none, nm⟩ st ub K = wpStr (fun s => kApp K st d ub { v := .iter (objName d nm st.fb ub) ub, obs := [(objName d nm st.fb ub, ⟨ub, .siter s 0⟩)] }) (eval E st.tm x) := by
  rw [wpStep_of _ rfl rfl]
  simp only [aop, name_eq]
  cases eval E st.tm x <;> simp only [wpD_none, wpStr, mkObj, wpD_some]
  rfl
theorem kS_nextStr {x : A} {l u pos : Nat} {s : List UInt8} (hx : eval E st.tm x = .iter l u) (ho : st.ob l = some ⟨u, .siter s pos⟩) (hro : st.ro ≤ u)
    (h1 : pos < s.length → kApp K st d ub { v := .tup [.bool true, .int .i64 pos, .int .i32 ((Utf8.decode ⟨s.toArray⟩ pos).1 : Nat)], obs := [(l, ⟨u, .siter s (pos + (Utf8.decode ⟨s.toArray⟩ pos).2)⟩)] })
    (h2 : ¬ pos < s.length → kSet K st d ub (.tup [.bool false])) : wpStep E Yf ⟨d, .nextStr x, none, nm⟩ st ub K := by
  rw [wpStep_of _ rfl rfl]
  simp only [aop, hx, ho]
  rw [if_pos (by simpa using hro)]
  by_cases h : pos < s.length
  · rw [if_pos h, wpD_some]; exact h1 h
  · rw [if_neg h, wpD_one, app_v]; exact h2 h
theorem kS_mkMap : wpStep E Yf ⟨d, .mkMap, none, nm⟩ st ub K = kApp K st d ub { v := .map (objName d nm st.fb ub) ub, obs := [(objName d nm st.fb ub, ⟨ub, .mp 0 []⟩)] } := by
  rw [wpStep_of _ rfl rfl]
  simp only [aop, mkObj, wpD_some, name_eq]
  rfl
theorem kS_mapSet {α : Type} {f : α → V} {x y z : A} {l u ver : Nat} {k : Int} {a : α} (m : List (Int × α)) (hm : eval E st.tm x = .map l u) (hk : eval E st.tm y = .int .i64 k) (hv : (eval E st.tm z).strip = f a)
    (ho : st.ob l = some ⟨u, .mp ver (MP f m)⟩) (hro : st.ro ≤ u) (h : kApp K st d ub { v := none', obs := [(l, ⟨u, .mp (ver + 1) (MP f (mset m k a))⟩)] }) : wpStep E Yf ⟨d, .mapSet .int x y z, none, nm⟩ st ub K := by
  have hob : objMap st.ob l u = some (MP f m) := by simp [objMap, ho]
  have hver : objVer st.ob l = ver := by simp [objVer, ho]
  rw [wpStep_of _ rfl rfl]
  simp only [aop, hm, hk, isKey, if_true, hob, Option.bind_some, findKey_MP, hver, hv]
  rw [if_pos (by simpa using hro)]
  unfold mset at h
  cases hf : mfind m k with
  | none =>
    rw [hf] at h
    simp only [Option.map_none, wpD_some]
    simpa [MP] using h
  | some p =>
    rw [hf] at h
    simp only [Option.map_some, wpD_some]
    have e : (MP f m).set p.1 (V.int .i64 k, f a) = MP f (m.set p.1 (k, a)) := by simp [MP, List.map_set]
    rw [e]
    exact h
end
attribute [simp ↓] kL_nrm kL_exit kL_ret wpLoop_1 wpLoop_2 wpLoop_3 wpLoop_4 kS_rangeStr kS_mkMap
@[simp] theorem lenMapV_map (ob : Nat → Option Obj') (l u : Nat) : lenMapV ob (.map l u) = (objMap ob l u).map fun es => .int .i64 es.length := rfl
/-- The keys of a map, in the order in which they came. -/
def ddAdd (l : List Int) (k : Int) : List Int := if k ∈ l then l else l ++ [k]
def dd (l : List Int) : List Int := l.foldl ddAdd []
theorem dd_snoc (l : List Int) (k : Int) : dd (l ++ [k]) = ddAdd (dd l) k := by simp [dd]
theorem mfind_none {α : Type} {m : List (Int × α)} {k : Int} : mfind m k = none ↔ k ∉ m.map (·.1) := by
  induction m with
  | nil => simp [mfind]
  | cons p m ih =>
    obtain ⟨k', a⟩ := p
    by_cases h : k = k'
    · simp [mfind, h]
    · simp [mfind, h, ih]
theorem mfind_some {α : Type} {m : List (Int × α)} {k : Int} {i : Nat} {a : α} (h : mfind m k = some (i, a)) : ∃ hi : i < m.length, m[i] = (k, a) := by
  induction m generalizing i with
  | nil => cases h
  | cons p m ih =>
    obtain ⟨k', a'⟩ := p
    by_cases hk : k = k'
    · simp only [mfind, hk, if_true, Option.some.injEq, Prod.mk.injEq] at h
      obtain ⟨rfl, rfl⟩ := h
      exact ⟨by simp, by simp [hk]⟩
    · simp only [mfind, hk, if_false, Option.map_eq_some_iff, Prod.mk.injEq] at h
      obtain ⟨⟨j, b⟩, hj, rfl, rfl⟩ := h
      obtain ⟨h1, h2⟩ := ih hj
      exact ⟨by simpa using h1, by simpa using h2⟩
theorem mset_keys {α : Type} (m : List (Int × α)) (k : Int) (a : α) : (mset m k a).map (·.1) = ddAdd (m.map (·.1)) k := by
  unfold mset ddAdd
  cases h : mfind m k with
  | none => rw [if_neg (mfind_none.1 h)]; simp
  | some p =>
    obtain ⟨i, b⟩ := p
    obtain ⟨hi, hb⟩ := mfind_some h
    have hmem : k ∈ m.map (·.1) := List.mem_map.2 ⟨_, List.getElem_mem hi, by rw [hb]⟩
    rw [if_pos hmem, List.map_set]
    apply List.ext_getElem (by simp)
    intro j h1 h2
    simp only [List.getElem_set, List.getElem_map]
    split
    · rename_i hij; subst hij; rw [hb]
    · rfl
theorem mem_ddAdd {l : List Int} {k x : Int} : x ∈ ddAdd l k ↔ x ∈ l ∨ x = k := by
  unfold ddAdd
  split
  · constructor
    · exact .inl
    · rintro (h | rfl) <;> assumption
  · simp
theorem mem_dd {l : List Int} {x : Int} : x ∈ dd l ↔ x ∈ l := by
  have key : ∀ (l acc : List Int), x ∈ l.foldl ddAdd acc ↔ x ∈ acc ∨ x ∈ l := by
    intro l
    induction l with
    | nil => intro acc; simp
    | cons a l ih => intro acc; simp only [List.foldl_cons, ih, mem_ddAdd, List.mem_cons, or_assoc]
  simpa [dd] using key l []
theorem nodup_ddAdd {l : List Int} {k : Int} (h : l.Nodup) : (ddAdd l k).Nodup := by
  unfold ddAdd
  split
  · exact h
  · rename_i hk
    rw [List.nodup_append]
    refine ⟨h, by simp, ?_⟩
    intro a ha b hb e
    simp only [List.mem_singleton] at hb
    subst hb
    subst e
    exact hk ha
theorem nodup_dd (l : List Int) : (dd l).Nodup := by
  have key : ∀ (l acc : List Int), acc.Nodup → (l.foldl ddAdd acc).Nodup := by
    intro l
    induction l with
    | nil => intro acc h; exact h
    | cons a l ih => intro acc h; exact ih _ (nodup_ddAdd h)
  exact key l [] List.nodup_nil
/-- As many as there may be: then each is there. -/
theorem pigeon : ∀ (n : Nat) (l : List Int), l.Nodup → (∀ x ∈ l, 0 ≤ x ∧ x < n) → l.length ≤ n ∧ (l.length = n ↔ ∀ k : Nat, k < n → (k : Int) ∈ l)
  | 0, l, hn, hb => by
    have : l = [] := by
      cases l with
      | nil => rfl
      | cons a l => have := hb a (by simp); omega
    subst this
    simp
  | n + 1, l, hn, hb => by
    have hn' : (l.erase (n : Int)).Nodup := hn.erase _
    have hb' : ∀ x ∈ l.erase (n : Int), 0 ≤ x ∧ x < n := fun x hx => by
      have h1 := hb x (List.mem_of_mem_erase hx)
      have h2 : x ≠ n := fun e => by subst e; exact (List.Nodup.not_mem_erase hn) hx
      omega
    obtain ⟨h1, h2⟩ := pigeon n _ hn' hb'
    by_cases hm : (n : Int) ∈ l
    · have hl := List.length_erase_of_mem hm
      have hp : 0 < l.length := List.length_pos_of_mem hm
      refine ⟨by omega, ?_⟩
      constructor
      · intro e k hk
        rcases Nat.lt_succ_iff_lt_or_eq.1 hk with h | rfl
        · exact List.mem_of_mem_erase (h2.1 (by omega) k h)
        · exact hm
      · intro hall
        have := h2.2 (fun k hk => (List.Nodup.mem_erase_iff hn).2 ⟨by omega, hall k (by omega)⟩)
        omega
    · rw [List.erase_of_not_mem hm] at h1 h2
      refine ⟨by omega, ?_⟩
      constructor
      · intro e; omega
      · intro hall; exact absurd (hall n (by omega)) hm
end Go.Pv
