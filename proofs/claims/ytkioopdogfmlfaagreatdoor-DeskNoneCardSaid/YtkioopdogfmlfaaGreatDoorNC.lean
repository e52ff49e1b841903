/- Part of the proof. -/
import Derived.Test.YtkioopdogfmlfaaGreatDoorNB
import Derived.Laws.RangeString
import Derived.Laws.MakeOwn
import Derived.Lib.Bytealg
import Derived.Laws.IdiomStrings
set_option maxRecDepth 100000
set_option maxHeartbeats 8000000
set_option linter.all false
namespace Go.Pv
open Go
section
variable {P : Program} {E : Env} {w0 w : World} {I0 : IMap} {nt : Nat} {γ : Nat → Option Place} {I : IMap} {st : St} {a : Act} {o : Oper} {ub : Nat} {δ : Delta}
theorem RepP.stripL {x : Value} {v : V} (h : RepP I x v) : RepP I x v.strip1 := h.strip1
theorem Rep.strip1 {x : Value} {v : V} (h : Rep γ I x v) : Rep γ I x v.strip1 := by
  cases v with
  | sl t nl n cs =>
    rcases inv_sl h with ⟨rfl, rfl, rfl, rfl, rfl⟩ | ⟨ad, cap, xs, rfl, rfl, h1, h2, h3, h4, h5, h6, _⟩
    · exact .pure _ _ .slnil
    · exact .pure _ _ (.sl _ _ _ _ _ h1 h2 h3 h4 h5 h6)
  | _ => exact h
theorem rep_list_strip {xs : Array Value} {cs : List V} (f : V → V) (hf : ∀ x v, Rep γ I x v → Rep γ I x (f v)) (h : ∀ (j : Nat) (x : Value) (v : V), xs[j]? = some x → cs[j]? = some v → Rep γ I x v) :
    ∀ (j : Nat) (x : Value) (v : V), xs[j]? = some x → (cs.map f)[j]? = some v → Rep γ I x v := by
  intro j x v hx hv
  simp only [List.getElem?_map, Option.map_eq_some_iff] at hv
  obtain ⟨u, hu, rfl⟩ := hv
  exact hf _ _ (h j x u hx hu)
theorem Rep.stripAgg {x : Value} {cs : List V} (h : Rep γ I x (.agg cs)) : Rep γ I x (.agg (cs.map V.strip1)) := by
  obtain ⟨xs, rfl, h1, h2, h3⟩ := inv_agg h
  refine .agg _ _ (by simpa using h1) (fun j v hv => ?_) (rep_list_strip _ (fun _ _ => Rep.strip1) h3)
  simp only [List.getElem?_map, Option.map_eq_some_iff] at hv
  obtain ⟨u, hu, rfl⟩ := hv
  rw [strip1_leaf]
  exact h2 j u hu
theorem Rep.strip {x : Value} {v : V} (h : Rep γ I x v) : Rep γ I x v.strip := by
  cases v with
  | sl t nl n cs => exact h.strip1
  | agg cs => exact h.stripAgg
  | fn f as bs =>
    obtain ⟨xs, ys, rfl, h1, h2, h3, h4⟩ := inv_fn h
    have hf : ∀ x v, Rep γ I x v → Rep γ I x (match v with | .agg cs => V.agg (cs.map V.strip1) | c => c.strip1) := by
      intro x v h
      split
      · exact h.stripAgg
      · exact h.strip1
    exact .fn _ _ _ _ _ (by simpa using h1) (by simpa using h2) (rep_list_strip _ hf h3) (rep_list_strip _ hf h4)
  | _ => exact h
def LKT : LK → TypeDesc → Prop
  | .bool, d => d = .bool
  | .int, d => ∃ k, d = .int k
  | .str, d => d = .string
theorem lkOf_inv {t : TypeId} {q : LK} (h : lkOf P t = some q) : ∃ d, P.underlying t = some d ∧ LKT q d := by
  unfold lkOf at h
  split at h <;> cases h
  · exact ⟨_, by assumption, rfl⟩
  · exact ⟨_, by assumption, _, rfl⟩
  · exact ⟨_, by assumption, rfl⟩
theorem bytes_ext {s s' : ByteArray} (h : s.data.toList = s'.data.toList) : s = s' := by
  cases s; cases s'
  simp only [Array.toList_inj] at h
  rw [h]
theorem sameNow_rep {q : LK} {d : TypeDesc} (hd : LKT q d) {x y : Value} {vx vy : V} {b : Bool} (hx : Rep γ I x vx) (hy : Rep γ I y vy) (h : eqLeaf q vx vy = some b) : Instr.sameNow d x y = some b := by
  unfold eqLeaf at h
  split at h
  · have := inv_bool hx; subst this
    have := inv_bool hy; subst this
    cases hd
    exact h
  · have := inv_int hx; subst this
    have := inv_int hy; subst this
    obtain ⟨k, rfl⟩ := hd
    exact h
  · obtain ⟨s, rfl, rfl⟩ := inv_str hx
    obtain ⟨s', rfl, rfl⟩ := inv_str hy
    cases hd
    simp only [Option.some.injEq] at h
    simp only [Instr.sameNow, Option.some.injEq]
    rw [← h, beq_toListBytes, toList_data, toList_data]
  · cases h
theorem findNow_rep {q : LK} {d : TypeDesc} (hd : LKT q d) {k : Value} {vk : V} (hk : Rep γ I k vk) : ∀ (m : List MapEntry) (es : List (V × V)) (i : Nat) (r : Option (Nat × V)), m.length = es.length →
    (∀ (j : Nat) (e : MapEntry) (k v : V), m[j]? = some e → es[j]? = some (k, v) → RepP I e.key k ∧ Rep γ I e.val v) → findKey q vk es = some r →
    (r = none ∧ Instr.findNow d k m i = some none) ∨ ∃ j v e, r = some (j, v) ∧ m[j]? = some e ∧ (∃ k', es[j]? = some (k', v) ∧ eqLeaf q vk k' = some true) ∧ Instr.findNow d k m i = some (some (i + j, e.val))
  | [], [], i, r, _, _, h => by
    simp only [findKey, Option.some.injEq] at h
    exact .inl ⟨h.symm, rfl⟩
  | [], _ :: _, _, _, hl, _, _ => by simp at hl
  | _ :: _, [], _, _, hl, _, _ => by simp at hl
  | e :: m, (k', v) :: es, i, r, hl, hr, h => by
    obtain ⟨r1, r2⟩ := hr 0 e k' v rfl rfl
    simp only [findKey] at h
    split at h
    · rename_i he
      simp only [Option.some.injEq] at h
      subst h
      refine .inr ⟨0, v, e, rfl, rfl, ⟨k', rfl, he⟩, ?_⟩
      simp only [Instr.findNow, sameNow_rep hd hk (.pure _ _ r1) he, Nat.add_zero]
    · rename_i he
      obtain ⟨r', h1, rfl⟩ := map_some h
      rcases findNow_rep hd hk m es (i + 1) r' (by simpa using hl) (fun j e k v h1 h2 => hr (j + 1) e k v (by simpa using h1) (by simpa using h2)) h1 with ⟨rfl, h2⟩ | ⟨j, v', e', rfl, h2, ⟨k'', h3, h4⟩, h5⟩
      · exact .inl ⟨rfl, by simp only [Instr.findNow, sameNow_rep hd hk (.pure _ _ r1) he, h2]⟩
      · refine .inr ⟨j + 1, v', e', rfl, by simpa using h2, ⟨k'', by simpa using h3, h4⟩, ?_⟩
        simp only [Instr.findNow, sameNow_rep hd hk (.pure _ _ r1) he, h5]
        rw [show i + 1 + j = i + (j + 1) by omega]
    · cases h
theorem run_checkKey {t : TypeId} {d : TypeDesc} {q : LK} (hu : P.underlying t = some d) (hd : LKT q d) (b : Bool) (k : Value) (n : Nat) : (Instr.checkKey b (n + 1) t k).run P w = .ok () w := by
  unfold Instr.checkKey
  simp only [Sem.run_bind, run_underlying hu, Result.andThen_ok]
  cases q
  · cases hd; rfl
  · obtain ⟨_, rfl⟩ := hd; rfl
  · cases hd; rfl
theorem run_findKey {t : TypeId} {d : TypeDesc} (hu : P.underlying t = some d) {k : Value} {m : List MapEntry} {r : Option (Nat × Value)} (h : Instr.findNow d k m 0 = some r) : (Instr.findKey t k m).run P w = .ok r w := by
  unfold Instr.findKey
  simp only [Sem.run_bind, run_underlying hu, Result.andThen_ok, h, Sem.run_pure]
/-- An object that is a map. -/
theorem obj_mapD (hR : R E w0 I0 nt γ I st a w) {l u b ver : Nat} {k : Kd} {es : List (V × V)} (h : st.ob l = some ⟨u, .mp ver es⟩) (hu : γ u = some (.obj b k)) :
    ∃ (m : Array MapEntry) (clock : Nat), w.heap[b]? = some (.map m clock) ∧ m.size = es.length ∧ (∀ (j : Nat) (e : MapEntry) (k v : V), m[j]? = some e → es[j]? = some (k, v) → RepP I e.key k ∧ Rep γ I e.val v) ∧
      (m.toList.map (·.born)).Nodup ∧ (∀ e ∈ m, e.born < clock) ∧ (ver < mapK → clock = m.size ∧ ∀ (i : Nat) (e : MapEntry), m[i]? = some e → e.born = i) := by
  obtain ⟨Ω, hown⟩ := hR.own
  obtain ⟨b', kb', k1, k2, k3, k4, k5⟩ := hown.ob l _ h
  rw [hu] at k1
  cases k1
  obtain ⟨m, clock, h1, h2, h3, h4, h5⟩ := k4
  exact ⟨m, clock, h1, by rw [← h2.1, Array.length_toList], fun j e k v he hk => h2.2 j e k v (by rw [Array.getElem?_toList]; exact he) hk, h3, h4, h5⟩
theorem obj_map (hR : R E w0 I0 nt γ I st a w) {l u b ver : Nat} {k : Kd} {es : List (V × V)} (h : st.ob l = some ⟨u, .mp ver es⟩) (hu : γ u = some (.obj b k)) :
    ∃ (m : Array MapEntry) (clock : Nat), w.heap[b]? = some (.map m clock) ∧ m.size = es.length ∧ (∀ (j : Nat) (e : MapEntry) (k v : V), m[j]? = some e → es[j]? = some (k, v) → RepP I e.key k ∧ Rep γ I e.val v) ∧
      (m.toList.map (·.born)).Nodup ∧ ∀ e ∈ m, e.born < clock := by
  obtain ⟨m, clock, h1, h2, h3, h4, h5, _⟩ := obj_mapD hR h hu
  exact ⟨m, clock, h1, h2, h3, h4, h5⟩
theorem run_getMap {b : Nat} {m : Array MapEntry} {clock : Nat} (h : w.heap[b]? = some (.map m clock)) : (getObj b).run P w = .ok (.map m clock) w := by simp [getObj, Sem.run, h]
theorem run_setMap {b : Nat} {m m' : Array MapEntry} {clock c' : Nat} (h : w.heap[b]? = some (.map m clock)) : (setObj b (.map m' c')).run P w = .ok () { w with heap := w.heap.setIfInBounds b (.map m' c') } := by simp [setObj, Sem.run, h]
theorem ofConst_rep {x : Value} {z : V} (h : ofConst x = some z) : RepP I x z := by
  unfold ofConst at h
  split at h
  · rename_i cs
    obtain ⟨l, hl, rfl⟩ := map_some h
    obtain ⟨h1, h2⟩ := leafs_ok (I := I) hl
    refine .agg _ _ h1.symm (fun j v hv => ?_) (fun j x v hx hv => (h2 j x v (by rw [Array.getElem?_toList]; exact hx) hv).2)
    have hj : j < cs.toList.length := by rw [← h1]; exact (List.getElem?_eq_some_iff.1 hv).1
    exact (h2 j _ v (List.getElem?_eq_getElem hj) hv).1
  · exact (leafOk h).1
theorem ok_lookup (hR : R E w0 I0 nt γ I st a w) (hd : ∀ d, o.dst = some d → d < nt) {t kt e : TypeId} {m k : Operand} {m' k' : A} {q : LK} {i : TypeInfo} {z : Value} {zv : V} {ok : Bool} (ho : o.op = .lookup t m k ok) (hm : opd m = some m') (hk : opd k = some k')
    (hu : P.underlying t = some (.map kt e)) (hq : lkOf P kt = some q) (hi : P.info? e = some i) (hz : i.zero = some z) (hzv : ofConst z = some zv)
    (ha : (if isKey q (eval E st.tm k') then match eval E st.tm m' with
      | .nilmap => one (if ok then .tup [zv, .bool false] else zv)
      | .map l u => (objMap st.ob l u).bind fun es => (findKey q (eval E st.tm k') es).bind fun r => match r with
        | some (_, v) => one (if ok then .tup [v, .bool true] else v)
        | none => one (if ok then .tup [zv, .bool false] else zv)
      | _ => none else none) = some δ) : OpOk P E w0 I0 nt γ I st a w o ub δ := by
  obtain ⟨d, hud, hdd⟩ := lkOf_inv hq
  have hrm := eval_rep hR hm
  have hrk := eval_rep hR hk
  have hzr : Rep γ I z zv := .pure _ _ (ofConst_rep hzv)
  have pair : ∀ (x : Value) (v : V) (b : Bool), Rep γ I x v → Rep γ I (if ok then .tuple #[x, .bool b] else x) (if ok then .tup [v, .bool b] else v) := by
    intro x v b h
    cases ok
    · exact h
    · refine .tup _ _ rfl (fun j y u hy hu => ?_)
      match j with
      | 0 => simp at hy hu; subst hy; subst hu; exact h
      | 1 => simp at hy hu; subst hy; subst hu; exact .pure _ _ (.bool b)
      | j + 2 => simp at hu
  split at ha
  · split at ha
    · rename_i he
      rw [he] at hrm
      have hm' := inv_nilmap hrm
      refine val_ok hR hd (x := if ok then .tuple #[z, .bool false] else z) ?_ (pair _ _ _ hzr) ha
      have hfk : (Instr.findKey kt (a.eval k) ([] : List MapEntry)).run P w = .ok none w := run_findKey hud rfl
      simp only [execOp, ho, hm', Instr.lookup, Sem.run_bind, run_underlying hu, Result.andThen_ok, Sem.run_pure, run_checkKey hud hdd, hfk, run_zeroValue hi hz]
    · rename_i l u he
      rw [he] at hrm
      obtain ⟨b, kb, hγ, hm'⟩ := inv_map hrm
      obtain ⟨es, hes, ha⟩ := bind_some ha
      obtain ⟨r, hr, ha⟩ := bind_some ha
      obtain ⟨M, clock, h1, h2, h3, _⟩ := obj_map hR (objMap_inv hes) hγ
      have hfn := findNow_rep hdd hrk M.toList es 0 r (by simpa using h2) (fun j e k v he hk => h3 j e k v (by simpa using he) hk) hr
      rcases hfn with ⟨rfl, hf⟩ | ⟨j, v, en, rfl, hen, ⟨k'', hk'', _⟩, hf⟩
      · refine val_ok hR hd (x := if ok then .tuple #[z, .bool false] else z) ?_ (pair _ _ _ hzr) ha
        simp only [execOp, ho, hm', Instr.lookup, Sem.run_bind, run_underlying hu, Result.andThen_ok, Sem.run_pure, run_getMap h1, run_checkKey hud hdd, run_findKey hud hf, run_zeroValue hi hz]
      · refine val_ok hR hd (x := if ok then .tuple #[en.val, .bool true] else en.val) ?_ (pair _ _ _ (h3 j en k'' v (by simpa using hen) hk'').2) ha
        simp only [execOp, ho, hm', Instr.lookup, Sem.run_bind, run_underlying hu, Result.andThen_ok, Sem.run_pure, run_getMap h1, run_checkKey hud hdd, run_findKey hud hf]
    · cases ha
  · cases ha
end
section
variable {P : Program} {E : Env} {w0 w : World} {I0 : IMap} {nt : Nat} {γ : Nat → Option Place} {I : IMap} {st : St} {a : Act} {o : Oper} {ub : Nat} {δ : Delta}
theorem heap_set_same (w : World) (b : Nat) (x : Obj) (h : b < w.heap.size) : (w.heap.setIfInBounds b x)[b]? = some x := by simp [h]
theorem heap_set_ne (w : World) (b k : Nat) (x : Obj) (h : k ≠ b) : (w.heap.setIfInBounds b x)[k]? = w.heap[k]? := Array.getElem?_setIfInBounds_ne (fun e => h e.symm)
theorem ents_of {M : Array MapEntry} {es : List (V × V)} (h : M.size = es.length) (h2 : ∀ (j : Nat) (e : MapEntry) (k v : V), M[j]? = some e → es[j]? = some (k, v) → RepP I e.key k ∧ Rep γ I e.val v) : EntsOk γ I M.toList es :=
  ⟨by simpa using h, fun j e k v he hk => h2 j e k v (by rw [← Array.getElem?_toList]; exact he) hk⟩
theorem born_modify (M : Array MapEntry) (j : Nat) (k v : Value) : (M.modify j fun e => { e with key := k, val := v }).toList.map (·.born) = M.toList.map (·.born) := by
  refine List.ext_getElem? fun i => ?_
  simp only [List.getElem?_map, Array.getElem?_toList, Array.getElem?_modify]
  split
  · cases M[i]? <;> rfl
  · rfl
theorem ok_mkMap (hR : R E w0 I0 nt γ I st a w) (hd : ∀ d, o.dst = some d → d < nt) (hf : γ ub = none) {t : TypeId} {d : Nat} (ho : o.op = .makeMap t none) (ha : mkObj d ub (.mp 0 []) (.map d ub) = some δ) : OpOk P E w0 I0 nt γ I st a w o ub δ := by
  refine alloc_ok hR hd hf (x := .map (some w.heap.size)) (obj := .map #[] 0) (k := .n 0) ?_ rfl (fun γ' h => .map _ _ _ _ h) ?_ ha
  · simp [execOp, ho, Instr.makeMap]
  · exact ⟨#[], 0, rfl, ⟨rfl, fun j e k v he => by simp at he⟩, by simp, by simp, fun _ => ⟨rfl, by simp⟩⟩
theorem keyStays {q : LK} {x y : Value} {vx vy : V} (hx : Rep γ I x vx) (hy : Rep γ I y vy) (h : eqLeaf q vx vy = some true) : (Instr.keyThatStays y x).run P w = .ok x w := by
  have hs : Instr.sameBits 10000 y x = true := by
    unfold eqLeaf at h
    split at h
    · have := inv_bool hx; subst this
      have := inv_bool hy; subst this
      simp only [Option.some.injEq, beq_iff_eq] at h
      subst h
      simp [Instr.sameBits]
    · have := inv_int hx; subst this
      have := inv_int hy; subst this
      split at h
      · rename_i hk
        simp only [Option.some.injEq, beq_iff_eq] at h
        subst hk; subst h
        simp [Instr.sameBits]
      · cases h
    · obtain ⟨s, rfl, rfl⟩ := inv_str hx
      obtain ⟨s', rfl, rfl⟩ := inv_str hy
      simp only [Option.some.injEq, beq_iff_eq] at h
      have := bytes_ext h
      subst this
      simp [Instr.sameBits, beq_toListBytes]
    · cases h
  simp [Instr.keyThatStays, hs]
theorem keyPure {q : LK} {x : Value} {v : V} (h : Rep γ I x v) (hk : isKey q v = true) : RepP I x v := by
  unfold isKey at hk
  split at hk <;> first | (cases hk; done) | (cases h; assumption)
theorem dense_push {M : Array MapEntry} {clock : Nat} {k v : Value} (h : clock = M.size ∧ ∀ (i : Nat) (e : MapEntry), M[i]? = some e → e.born = i) :
    clock + 1 = (M.push { key := k, val := v, born := clock }).size ∧ ∀ (i : Nat) (e : MapEntry), (M.push { key := k, val := v, born := clock })[i]? = some e → e.born = i := by
  refine ⟨by simp [h.1], fun i e he => ?_⟩
  rw [Array.getElem?_push] at he
  split at he
  · rename_i hj
    cases he
    exact h.1.trans hj.symm
  · exact h.2 i e he
theorem dense_modify {M : Array MapEntry} {clock j : Nat} {f : MapEntry → MapEntry} (hf : ∀ e, (f e).born = e.born) (h : clock = M.size ∧ ∀ (i : Nat) (e : MapEntry), M[i]? = some e → e.born = i) :
    clock = (M.modify j f).size ∧ ∀ (i : Nat) (e : MapEntry), (M.modify j f)[i]? = some e → e.born = i := by
  refine ⟨by simp [h.1], fun i e he => ?_⟩
  rw [Array.getElem?_modify] at he
  by_cases hij : j = i
  · rw [if_pos hij] at he
    obtain ⟨e0, h0, rfl⟩ := Option.map_eq_some_iff.1 he
    rw [hf]
    exact h.2 i e0 h0
  · rw [if_neg hij] at he
    exact h.2 i e he
theorem ok_mapSet (hR : R E w0 I0 nt γ I st a w) (hd : ∀ d, o.dst = some d → d < nt) {t kt e : TypeId} {m k v : Operand} {m' k' v' : A} {q : LK} (ho : o.op = .mapUpdate t m k v ∨ o.op = .insert t m k v) (hm : opd m = some m') (hk : opd k = some k') (hv : opd v = some v')
    (hu : P.underlying t = some (.map kt e)) (hq : lkOf P kt = some q)
    (ha : (if isKey q (eval E st.tm k') then match eval E st.tm m' with
      | .map l u => if Nat.ble st.ro u then (objMap st.ob l u).bind fun es => (findKey q (eval E st.tm k') es).bind fun r => match r with
        | some (i, _) => some { v := none', obs := [(l, ⟨u, .mp (objVer st.ob l + 1) (es.set i (eval E st.tm k', (eval E st.tm v').strip))⟩)] }
        | none => some { v := none', obs := [(l, ⟨u, .mp (objVer st.ob l + 1) (es ++ [(eval E st.tm k', (eval E st.tm v').strip)])⟩)] }
        else none
      | _ => none else none) = some δ) : OpOk P E w0 I0 nt γ I st a w o ub δ := by
  obtain ⟨d, hud, hdd⟩ := lkOf_inv hq
  have hrm := eval_rep hR hm
  have hrk := eval_rep hR hk
  have hrv := (eval_rep hR hv).strip
  split at ha
  · rename_i hkey
    have hkp := keyPure hrk hkey
    split at ha
    · rename_i l u he
      rw [he] at hrm
      obtain ⟨b, kb, hγ, hm'⟩ := inv_map hrm
      split at ha
      case isFalse => cases ha
      rename_i hro
      obtain ⟨es, hes, ha⟩ := bind_some ha
      obtain ⟨r, hr, ha⟩ := bind_some ha
      have hob := objMap_inv hes
      obtain ⟨M, clock, h1, h2, h3, hnd, hlt, hdn⟩ := obj_mapD hR hob hγ
      have hblt : b < w.heap.size := (Array.getElem?_eq_some_iff.1 h1).1
      have hfn := findNow_rep hdd hrk M.toList es 0 r (by simpa using h2) (fun j e k v he hk => h3 j e k v (by simpa using he) hk) hr
      rcases hfn with ⟨rfl, hf⟩ | ⟨j, v0, en, rfl, hen, ⟨k'', hk'', heq⟩, hf⟩
      · refine set_ok hR hd hob hro (body' := .mp _ _) (x := undef) (v := none') (w' := { w with heap := w.heap.setIfInBounds b (.map (M.push { key := a.eval k, val := a.eval v, born := clock }) (clock + 1)) }) (.inr ⟨?_, rfl⟩) (.tup _ _ rfl (by simp)) (fun v es h => by cases h; exact ⟨_, _, rfl, Nat.lt_succ_self _⟩) ?_ ha
        · rcases ho with ho | ho <;> simp only [execOp, ho, hm', Instr.mapUpdate, Sem.run_bind, run_underlying hu, Result.andThen_ok, Sem.run_pure, run_getMap h1, run_checkKey hud hdd, run_findKey hud hf, run_setMap h1]
        · intro b' k0 hb' hlt'
          rw [hγ] at hb'
          cases hb'
          refine ⟨rfl, rfl, rfl, by simp, fun k hk => heap_set_ne w b k _ hk, ?_⟩
          rw [heap_set_same w b _ hlt']
          refine ⟨_, _, rfl, ents_of (by simp [h2]) (fun j en kk vv he hk => ?_), ?_, fun e he => ?_, fun hv => dense_push (hdn (Nat.lt_of_succ_lt hv))⟩
          case refine_2 =>
            rw [Array.toList_push, List.map_append, List.map_cons, List.map_nil]
            refine List.nodup_append.2 ⟨hnd, by simp, fun x hx y hy => ?_⟩
            simp only [List.mem_singleton] at hy
            subst hy
            obtain ⟨e, he, rfl⟩ := List.mem_map.1 hx
            exact Nat.ne_of_lt (hlt e (by simpa using he))
          case refine_3 =>
            rcases Array.mem_push.1 he with he | rfl
            · exact Nat.lt_succ_of_lt (hlt e he)
            · exact Nat.lt_succ_self _
          rw [Array.getElem?_push] at he
          split at he
          · rename_i hj
            cases he
            subst hj
            rw [List.getElem?_append_right (by omega), h2] at hk
            simp at hk
            obtain ⟨rfl, rfl⟩ := hk
            exact ⟨hkp, hrv⟩
          · rename_i hj
            have hj2 : j < es.length := by have := (Array.getElem?_eq_some_iff.1 he).1; omega
            rw [List.getElem?_append_left hj2] at hk
            exact h3 j en kk vv he hk
      · have hen' : M[j]? = some en := by simpa using hen
        have hjlt : j < M.size := (Array.getElem?_eq_some_iff.1 hen').1
        refine set_ok hR hd hob hro (body' := .mp _ _) (x := undef) (v := none') (w' := { w with heap := w.heap.setIfInBounds b (.map (M.modify j fun e => { e with key := a.eval k, val := a.eval v }) clock) }) (.inr ⟨?_, rfl⟩) (.tup _ _ rfl (by simp)) (fun v es h => by cases h; exact ⟨_, _, rfl, Nat.lt_succ_self _⟩) ?_ ha
        · have hks : (Instr.keyThatStays en.key (a.eval k)).run P w = .ok (a.eval k) w := keyStays (γ := γ) (I := I) hrk (.pure _ _ (h3 j en k'' v0 hen' hk'').1) heq
          simp only [Nat.zero_add] at hf
          rcases ho with ho | ho <;> simp only [execOp, ho, hm', Instr.mapUpdate, Sem.run_bind, run_underlying hu, Result.andThen_ok, Sem.run_pure, run_getMap h1, run_checkKey hud hdd, run_findKey hud hf, hen', Option.map_some, Option.getD_some, hks, run_setMap h1]
        · intro b' k0 hb' hlt'
          rw [hγ] at hb'
          cases hb'
          refine ⟨rfl, rfl, rfl, by simp, fun k hk => heap_set_ne w b k _ hk, ?_⟩
          rw [heap_set_same w b _ hlt']
          refine ⟨_, _, rfl, ents_of (by simp [h2]) (fun i en' kk vv he hk => ?_), by rw [born_modify]; exact hnd, fun e he => ?_, fun hv => dense_modify (fun _ => rfl) (hdn (Nat.lt_of_succ_lt hv))⟩
          case refine_2 =>
            have : e.born ∈ (M.modify j fun e => { e with key := a.eval k, val := a.eval v }).toList.map (·.born) := List.mem_map.2 ⟨e, Array.mem_toList_iff.2 he, rfl⟩
            rw [born_modify] at this
            obtain ⟨e2, he2, hb2⟩ := List.mem_map.1 this
            rw [← hb2]
            exact hlt e2 (by simpa using he2)
          rw [Array.getElem?_modify] at he
          by_cases hij : j = i
          · subst hij
            simp only [if_true, hen', Option.map_some, Option.some.injEq] at he
            subst he
            rw [List.getElem?_set_self (by omega)] at hk
            cases hk
            exact ⟨hkp, hrv⟩
          · rw [if_neg hij] at he
            rw [List.getElem?_set_ne hij] at hk
            exact h3 i en' kk vv he hk
    · cases ha
  · cases ha
theorem eraseIdx_get {α : Type} (l : List α) (i j : Nat) : (l.eraseIdx i)[j]? = if j < i then l[j]? else l[j + 1]? := by
  rw [List.getElem?_eraseIdx]
theorem ok_mapDel (hR : R E w0 I0 nt γ I st a w) (hd : ∀ d, o.dst = some d → d < nt) {t kt e : TypeId} {m k : Operand} {m' k' : A} {q : LK} {ats : Array TypeId} (ho : o.op = .call { callee := .builtin .delete, args := #[m, k], argTypes := ats }) (ht : ats[0]? = some t) (hm : opd m = some m') (hk : opd k = some k')
    (hu : P.underlying t = some (.map kt e)) (hq : lkOf P kt = some q)
    (ha : (if isKey q (eval E st.tm k') then match eval E st.tm m' with
      | .nilmap => one none'
      | .map l u => if Nat.ble st.ro u then (objMap st.ob l u).bind fun es => (findKey q (eval E st.tm k') es).bind fun r => match r with
        | some (i, _) => some { v := none', obs := [(l, ⟨u, .mp (objVer st.ob l + mapK) (es.eraseIdx i)⟩)] }
        | none => some { v := none', obs := [(l, ⟨u, .mp (objVer st.ob l + 1) es⟩)] }
        else none
      | _ => none else none) = some δ) : OpOk P E w0 I0 nt γ I st a w o ub δ := by
  obtain ⟨d, hud, hdd⟩ := lkOf_inv hq
  have hrm := eval_rep hR hm
  have hrk := eval_rep hR hk
  have hexec : ∀ (w' : World), (Builtin.delete_ ats o.type #[a.eval m, a.eval k]).run P w = .ok (.tuple #[]) w' → (execOp a.eval o).run P w = .ok (.value (.tuple #[])) w' := by
    intro w' h
    simp only [execOp, ho, resolve, Sem.run_bind, Sem.run_pure, Result.andThen_ok, invoke, builtin, List.map_toArray, List.map_cons, List.map_nil, h]
  split at ha
  · split at ha
    · rename_i he
      rw [he] at hrm
      have hm' := inv_nilmap hrm
      refine val_ok hR hd (x := .tuple #[]) (hexec _ ?_) (.tup _ _ rfl (by simp)) ha
      rw [hm']
      simp [Builtin.delete_, ht, run_underlying hu, run_checkKey hud hdd]
    · rename_i l u he
      rw [he] at hrm
      obtain ⟨b, kb, hγ, hm'⟩ := inv_map hrm
      split at ha
      case isFalse => cases ha
      rename_i hro
      obtain ⟨es, hes, ha⟩ := bind_some ha
      obtain ⟨r, hr, ha⟩ := bind_some ha
      have hob := objMap_inv hes
      obtain ⟨M, clock, h1, h2, h3, hnd, hltc, hdn⟩ := obj_mapD hR hob hγ
      have hfn := findNow_rep hdd hrk M.toList es 0 r (by simpa using h2) (fun j e k v he hk => h3 j e k v (by simpa using he) hk) hr
      rcases hfn with ⟨rfl, hf⟩ | ⟨j, v0, en, rfl, hen, ⟨k'', hk'', heq⟩, hf⟩
      · refine set_ok hR hd hob hro (body' := .mp _ _) (x := .tuple #[]) (v := none') (w' := { w with heap := w.heap.setIfInBounds b (.map M clock) }) (.inl (hexec _ ?_)) (.tup _ _ rfl (by simp)) (fun v es h => by cases h; exact ⟨_, _, rfl, Nat.lt_succ_self _⟩) ?_ ha
        · rw [hm']
          simp only [Builtin.delete_, ht, Sem.run_bind, run_underlying hu, Result.andThen_ok, Sem.run_pure, run_getMap h1, run_checkKey hud hdd, run_findKey hud hf, run_setMap h1, List.getElem?_toArray, List.getElem?_cons_zero, List.getElem?_cons_succ]
        · intro b' k0 hb' hlt
          rw [hγ] at hb'
          cases hb'
          refine ⟨rfl, rfl, rfl, by simp, fun k hk => heap_set_ne w b k _ hk, ?_⟩
          rw [heap_set_same w b _ hlt]
          exact ⟨_, _, rfl, ents_of h2 h3, hnd, hltc, fun hv => hdn (Nat.lt_of_succ_lt hv)⟩
      · have hen' : M[j]? = some en := by simpa using hen
        have hjlt : j < M.size := (Array.getElem?_eq_some_iff.1 hen').1
        refine set_ok hR hd hob hro (body' := .mp _ _) (x := .tuple #[]) (v := none') (w' := { w with heap := w.heap.setIfInBounds b (.map (M.eraseIdxIfInBounds j) clock) }) (.inl (hexec _ ?_)) (.tup _ _ rfl (by simp)) (fun v es h => by cases h; exact ⟨_, _, rfl, Nat.lt_add_of_pos_right (by decide)⟩) ?_ ha
        · rw [hm']
          simp only [Nat.zero_add] at hf
          simp only [Builtin.delete_, ht, Sem.run_bind, run_underlying hu, Result.andThen_ok, Sem.run_pure, run_getMap h1, run_checkKey hud hdd, run_findKey hud hf, run_setMap h1, List.getElem?_toArray, List.getElem?_cons_zero, List.getElem?_cons_succ]
        · intro b' k0 hb' hlt
          rw [hγ] at hb'
          cases hb'
          have hM : M.eraseIdxIfInBounds j = M.eraseIdx j hjlt := by simp [Array.eraseIdxIfInBounds, hjlt]
          refine ⟨rfl, rfl, rfl, by simp, fun k hk => heap_set_ne w b k _ hk, ?_⟩
          rw [heap_set_same w b _ hlt]
          refine ⟨_, _, rfl, ents_of (by rw [hM]; simp [List.length_eraseIdx, h2]; omega) (fun i en' kk vv he hk => ?_), ?_, fun e he => ?_, fun hv => absurd hv (Nat.not_lt.2 (Nat.le_add_left _ _))⟩
          case refine_2 =>
            rw [hM, Array.toList_eraseIdx]
            exact ((List.eraseIdx_sublist M.toList j).map _).nodup hnd
          case refine_3 =>
            rw [hM] at he
            have : e ∈ (M.eraseIdx j hjlt).toList := Array.mem_toList_iff.2 he
            rw [Array.toList_eraseIdx] at this
            exact hltc e (Array.mem_toList_iff.1 (List.mem_of_mem_eraseIdx this))
          rw [hM, ← Array.getElem?_toList, Array.toList_eraseIdx, eraseIdx_get] at he
          rw [eraseIdx_get] at hk
          split at he
          · rename_i hlt'
            rw [if_pos hlt'] at hk
            exact h3 i en' kk vv (by simpa using he) hk
          · rename_i hlt'
            rw [if_neg hlt'] at hk
            exact h3 (i + 1) en' kk vv (by simpa using he) hk
    · cases ha
  · cases ha
theorem ok_rangeStr (hR : R E w0 I0 nt γ I st a w) (hd : ∀ d, o.dst = some d → d < nt) (hf : γ ub = none) {t : TypeId} {x : Operand} {x' : A} {d : Nat} (ho : o.op = .range t x) (hx : opd x = some x') (hu : P.underlying t = some .string)
    (ha : (match eval E st.tm x' with
      | .str s => mkObj d ub (.siter s 0) (.iter d ub)
      | _ => none) = some δ) : OpOk P E w0 I0 nt γ I st a w o ub δ := by
  have hr := eval_rep hR hx
  split at ha
  · rename_i s he
    rw [he] at hr
    obtain ⟨bs, hx', rfl⟩ := inv_str hr
    refine alloc_ok hR hd hf (x := .pointer (some ⟨w.heap.size, 0, none⟩)) (obj := .stringIter bs 0) (k := .n 0) ?_ rfl (fun γ' h => .iter _ _ _ _ h) ?_ ha
    · simp [execOp, ho, hx', Instr.range, run_underlying hu]
    · exact ⟨bs, rfl, rfl⟩
  · cases ha
theorem ok_nextStr (hR : R E w0 I0 nt γ I st a w) (hd : ∀ d, o.dst = some d → d < nt) {x : Operand} {x' : A} (ho : o.op = .next x true) (hx : opd x = some x')
    (ha : (match eval E st.tm x' with
      | .iter l u => match st.ob l with
        | some ⟨u', .siter s pos⟩ => if Nat.ble st.ro u ∧ u' = u then
          (if pos < s.length then some { v := .tup [.bool true, .int .i64 pos, .int .i32 ((Utf8.decode ⟨s.toArray⟩ pos).1 : Nat)], obs := [(l, ⟨u, .siter s (pos + (Utf8.decode ⟨s.toArray⟩ pos).2)⟩)] }
           else one (.tup [.bool false])) else none
        | _ => none
      | _ => none) = some δ) : OpOk P E w0 I0 nt γ I st a w o ub δ := by
  have hr := eval_rep hR hx
  split at ha
  · rename_i l u he
    rw [he] at hr
    obtain ⟨b, kb, hγ, hx'⟩ := inv_iter hr
    split at ha
    · rename_i u' s pos hob
      split at ha
      · rename_i huu
        obtain ⟨hro, huu⟩ := huu
        subst huu
        obtain ⟨Ω, hown⟩ := hR.own
        obtain ⟨b', kb', k1, k2, k3, ⟨bs, hbs, hs⟩, k5⟩ := hown.ob l _ hob
        rw [hγ] at k1
        cases k1
        have hbs' : (⟨s.toArray⟩ : ByteArray) = bs := by
          rw [← hs]
        have hlen : s.length = bs.size := by rw [← hs]; simp
        rw [hbs'] at ha
        split at ha
        · rename_i hpos
          have hpos' : pos < bs.size := by omega
          refine set_ok hR hd hob hro (body' := .siter s (pos + (Utf8.decode bs pos).2)) (x := .tuple #[.bool true, .int .i64 pos, .int .i32 ((Utf8.decode bs pos).1 : Nat)])
            (w' := { w with heap := w.heap.setIfInBounds b (.stringIter bs (pos + (Utf8.decode bs pos).2)) }) (.inl ?_) ?_ (fun v es h => by cases h) ?_ ha
          · have hg : (getObj b).run P w = .ok (.stringIter bs pos) w := by simp [getObj, Sem.run, hbs]
            have hs2 : ∀ x, (setObj b x).run P w = .ok () { w with heap := w.heap.setIfInBounds b x } := by intro x; simp [setObj, Sem.run, hbs]
            simp only [execOp, ho, hx', Instr.next, Sem.run_bind, hg, Result.andThen_ok, hpos', if_true, hs2, Sem.run_pure, goInt]
          · refine .tup _ _ rfl (fun j y v hy hv => ?_)
            match j with
            | 0 => simp at hy hv; subst hy; subst hv; exact .pure _ _ (.bool _)
            | 1 => simp at hy hv; subst hy; subst hv; exact .pure _ _ (.int _ _)
            | 2 => simp at hy hv; subst hy; subst hv; exact .pure _ _ (.int _ _)
            | j + 3 => simp at hv
          · intro b' k0 hb' hlt
            rw [hγ] at hb'
            cases hb'
            exact ⟨rfl, rfl, rfl, by simp, fun k hk => heap_set_ne w b k _ hk, by rw [heap_set_same w b _ hlt]; exact ⟨bs, rfl, hs⟩⟩
        · rename_i hpos
          have hpos' : ¬ pos < bs.size := by omega
          refine val_ok hR hd (x := .tuple #[.bool false]) ?_ ?_ ha
          · have hg : (getObj b).run P w = .ok (.stringIter bs pos) w := by simp [getObj, Sem.run, hbs]
            simp only [execOp, ho, hx', Instr.next, Sem.run_bind, hg, Result.andThen_ok, hpos', if_false, Sem.run_pure]
          · refine .tup _ _ rfl (fun j y v hy hv => ?_)
            match j with
            | 0 => simp at hy hv; subst hy; subst hv; exact .pure _ _ (.bool _)
            | j + 1 => simp at hv
      · cases ha
    · cases ha
  · cases ha
theorem run_minmaxL (isMax : Bool) : ∀ (xs : List Value) (vs : List V) (x : Value) (v r : V), xs.length = vs.length → (∀ (j : Nat) (y : Value) (u : V), xs[j]? = some y → vs[j]? = some u → Rep γ I y u) → Rep γ I x v → minmaxL isMax v vs = some r →
    ∃ z, (xs.foldlM (if isMax then Builtin.max2 else Builtin.min2) x).run P w = .ok z w ∧ Rep γ I z r
  | [], [], x, v, r, _, _, hx, h => by
    simp only [minmaxL, Option.some.injEq] at h
    subst h
    exact ⟨x, by simp, hx⟩
  | [], _ :: _, _, _, _, hl, _, _, _ => by simp at hl
  | _ :: _, [], _, _, _, hl, _, _, _ => by simp at hl
  | y :: xs, u :: vs, x, v, r, hl, hr, hx, h => by
    simp only [minmaxL] at h
    obtain ⟨z, hz, h2⟩ := bind_some h
    have hy := hr 0 y u rfl rfl
    unfold minmax2 at hz
    split at hz
    · rename_i k p k' q
      have := inv_int hx; subst this
      have := inv_int hy; subst this
      split at hz
      · rename_i hk
        subst hk
        simp only [Option.some.injEq] at hz
        have hrun : ((if isMax then Builtin.max2 else Builtin.min2) (.int k p) (.int k q)).run P w = .ok (.int k (if isMax then (if q > p then q else p) else (if q < p then q else p))) w := by
          cases isMax <;> simp [Builtin.max2, Builtin.min2]
        obtain ⟨z', h3, h4⟩ := run_minmaxL isMax xs vs _ z r (by simpa using hl) (fun j y u h1 h2 => hr (j + 1) y u (by simpa using h1) (by simpa using h2)) (by rw [← hz]; exact .pure _ _ (.int _ _)) h2
        refine ⟨z', ?_, h4⟩
        rw [List.foldlM_cons, Sem.run_bind, hrun, Result.andThen_ok]
        exact h3
      · cases hz
    · cases hz
theorem ok_minmax (hR : R E w0 I0 nt γ I st a w) (hd : ∀ d, o.dst = some d → d < nt) {isMax : Bool} {xs : Array Operand} {xs' : List A} {ats : Array TypeId} (ho : o.op = .call { callee := .builtin (if isMax then .max else .min), args := xs, argTypes := ats }) (hx : opds xs = some xs')
    (ha : (match xs'.map (eval E st.tm) with
      | [] => none
      | x :: r => (minmaxL isMax x r).bind one) = some δ) : OpOk P E w0 I0 nt γ I st a w o ub δ := by
  obtain ⟨h1, h2⟩ := opds_rep hR hx
  split at ha
  · cases ha
  · rename_i v vs hvs
    obtain ⟨r, hr, hδ⟩ := bind_some ha
    rw [hvs] at h1 h2
    cases hxs : (xs.map a.eval).toList with
    | nil =>
      have : (xs.map a.eval).size = 0 := by rw [← Array.length_toList, hxs]; rfl
      simp only [List.length_cons] at h1
      omega
    | cons x ys =>
      have hget : ∀ (j : Nat), (xs.map a.eval)[j]? = (x :: ys)[j]? := fun j => by rw [← hxs, Array.getElem?_toList]
      have hlen : ys.length = vs.length := by
        have : (xs.map a.eval).size = (x :: ys).length := by rw [← Array.length_toList, hxs]
        simp only [List.length_cons] at this h1
        omega
      obtain ⟨z, hz, hrep⟩ := run_minmaxL (P := P) (w := w) (γ := γ) (I := I) isMax ys vs x v r hlen (fun j y u hy hu => h2 (j + 1) y u (by rw [hget]; simpa using hy) (by simpa using hu)) (h2 0 x v (by rw [hget]; rfl) rfl) hr
      refine val_ok hR hd (x := z) ?_ hrep hδ
      cases isMax
      · simp only [Bool.false_eq_true, if_false] at hz ho
        simp only [execOp, ho, resolve, Sem.run_bind, Sem.run_pure, Result.andThen_ok, invoke, builtin, Builtin.min_, hxs, hz]
      · simp only [if_true] at hz ho
        simp only [execOp, ho, resolve, Sem.run_bind, Sem.run_pure, Result.andThen_ok, invoke, builtin, Builtin.max_, hxs, hz]
end
section
variable {P : Program} {E : Env} {w0 w : World} {I0 : IMap} {nt : Nat} {γ : Nat → Option Place} {I : IMap} {st : St} {a : Act} {o : Oper} {ub : Nat} {δ : Delta}
theorem ok_mapEnt (hR : R E w0 I0 nt γ I st a w) (hd : ∀ d, o.dst = some d → d < nt) {t kt e : TypeId} {m k : Operand} {m' k' : A} {q : LK} {i : TypeInfo} {z : Value} {zv : V} (ho : o.op = .mapEntry t m k) (hm : opd m = some m') (hk : opd k = some k')
    (hu : P.underlying t = some (.map kt e)) (hq : lkOf P kt = some q) (hi : P.info? e = some i) (hz : i.zero = some z) (hzv : ofConst z = some zv)
    (ha : (if isKey q (eval E st.tm k') then match eval E st.tm m' with
      | .map l u => if Nat.ble st.ro u && Nat.blt (objVer st.ob l) mapK then (objMap st.ob l u).bind fun es => (findKey q (eval E st.tm k') es).bind fun r => match r with
        | some (i, v) => some { v := .tup [v, .int .i64 i], obs := [(l, ⟨u, .mp (objVer st.ob l + 1) (es.set i (eval E st.tm k', v))⟩)] }
        | none => some { v := .tup [zv, .int .i64 es.length], obs := [(l, ⟨u, .mp (objVer st.ob l + 1) (es ++ [(eval E st.tm k', zv)])⟩)] }
        else none
      | _ => none else none) = some δ) : OpOk P E w0 I0 nt γ I st a w o ub δ := by
  obtain ⟨d, hud, hdd⟩ := lkOf_inv hq
  have hrm := eval_rep hR hm
  have hrk := eval_rep hR hk
  have hzr : Rep γ I z zv := .pure _ _ (ofConst_rep hzv)
  have pair : ∀ (x : Value) (v : V) (n : Nat), Rep γ I x v → Rep γ I (.tuple #[x, goInt n]) (.tup [v, .int .i64 n]) := by
    intro x v n h
    refine .tup _ _ rfl (fun j y u hy hu => ?_)
    match j with
    | 0 => simp at hy hu; subst hy; subst hu; exact h
    | 1 => simp at hy hu; subst hy; subst hu; exact .pure _ _ (.int _ _)
    | j + 2 => simp at hu
  split at ha
  · rename_i hkey
    have hkp := keyPure hrk hkey
    split at ha
    · rename_i l u he
      rw [he] at hrm
      obtain ⟨b, kb, hγ, hm'⟩ := inv_map hrm
      split at ha
      case isFalse => cases ha
      rename_i hro
      rw [Bool.and_eq_true] at hro
      obtain ⟨hro, hvk⟩ := hro
      have hvk : objVer st.ob l < mapK := by simpa using hvk
      obtain ⟨es, hes, ha⟩ := bind_some ha
      obtain ⟨r, hr, ha⟩ := bind_some ha
      have hob := objMap_inv hes
      obtain ⟨M, clock, h1, h2, h3, hnd, hlt, hdn⟩ := obj_mapD hR hob hγ
      have hD := hdn hvk
      have hblt : b < w.heap.size := (Array.getElem?_eq_some_iff.1 h1).1
      have hfn := findNow_rep hdd hrk M.toList es 0 r (by simpa using h2) (fun j e k v he hk => h3 j e k v (by simpa using he) hk) hr
      rcases hfn with ⟨rfl, hf⟩ | ⟨j, v0, en, rfl, hen, ⟨k'', hk'', heq⟩, hf⟩
      · refine set_ok hR hd hob hro (body' := .mp _ _) (x := .tuple #[z, goInt clock]) (v := .tup [zv, .int .i64 es.length]) (w' := { w with heap := w.heap.setIfInBounds b (.map (M.push { key := a.eval k, val := z, born := clock }) (clock + 1)) }) (.inl ?_) ?_ (fun v es h => by cases h; exact ⟨_, _, rfl, Nat.lt_succ_self _⟩) ?_ ha
        · simp only [execOp, ho, hm', Instr.mapEntry, Sem.run_bind, run_underlying hu, Result.andThen_ok, Sem.run_pure, run_getMap h1, run_checkKey hud hdd, run_findKey hud hf, run_zeroValue hi hz, run_setMap h1]
        · have : clock = es.length := hD.1.trans h2
          rw [this]
          exact pair _ _ _ hzr
        · intro b' k0 hb' hlt'
          rw [hγ] at hb'
          cases hb'
          refine ⟨rfl, rfl, rfl, by simp, fun k hk => heap_set_ne w b k _ hk, ?_⟩
          rw [heap_set_same w b _ hlt']
          refine ⟨_, _, rfl, ents_of (by simp [h2]) (fun j en kk vv he hk => ?_), ?_, fun e he => ?_, fun _ => dense_push hD⟩
          case refine_2 =>
            rw [Array.toList_push, List.map_append, List.map_cons, List.map_nil]
            refine List.nodup_append.2 ⟨hnd, by simp, fun x hx y hy => ?_⟩
            simp only [List.mem_singleton] at hy
            subst hy
            obtain ⟨e, he, rfl⟩ := List.mem_map.1 hx
            exact Nat.ne_of_lt (hlt e (by simpa using he))
          case refine_3 =>
            rcases Array.mem_push.1 he with he | rfl
            · exact Nat.lt_succ_of_lt (hlt e he)
            · exact Nat.lt_succ_self _
          rw [Array.getElem?_push] at he
          split at he
          · rename_i hj
            cases he
            subst hj
            rw [List.getElem?_append_right (by omega), h2] at hk
            simp at hk
            obtain ⟨rfl, rfl⟩ := hk
            exact ⟨hkp, hzr⟩
          · rename_i hj
            have hj2 : j < es.length := by have := (Array.getElem?_eq_some_iff.1 he).1; omega
            rw [List.getElem?_append_left hj2] at hk
            exact h3 j en kk vv he hk
      · have hen' : M[j]? = some en := by simpa using hen
        have hjlt : j < M.size := (Array.getElem?_eq_some_iff.1 hen').1
        have hv0 := (h3 j en k'' v0 hen' hk'').2
        have hborn : en.born = j := hD.2 j en hen'
        refine set_ok hR hd hob hro (body' := .mp _ _) (x := .tuple #[en.val, goInt j]) (v := .tup [v0, .int .i64 j]) (w' := { w with heap := w.heap.setIfInBounds b (.map (M.modify j fun e => { e with key := a.eval k }) clock) }) (.inl ?_) (pair _ _ _ hv0) (fun v es h => by cases h; exact ⟨_, _, rfl, Nat.lt_succ_self _⟩) ?_ (by simpa using ha)
        · have hks : (Instr.keyThatStays en.key (a.eval k)).run P w = .ok (a.eval k) w := keyStays (γ := γ) (I := I) hrk (.pure _ _ (h3 j en k'' v0 hen' hk'').1) heq
          simp only [Nat.zero_add] at hf
          simp only [execOp, ho, hm', Instr.mapEntry, Sem.run_bind, run_underlying hu, Result.andThen_ok, Sem.run_pure, run_getMap h1, run_checkKey hud hdd, run_findKey hud hf, hen', Option.map_some, Option.getD_some, hks, run_setMap h1, hborn]
        · intro b' k0 hb' hlt'
          rw [hγ] at hb'
          cases hb'
          refine ⟨rfl, rfl, rfl, by simp, fun k hk => heap_set_ne w b k _ hk, ?_⟩
          rw [heap_set_same w b _ hlt']
          have hbm : (M.modify j fun e => { e with key := a.eval k }).toList.map (·.born) = M.toList.map (·.born) := by
            apply List.ext_getElem?
            intro i
            simp only [List.getElem?_map, Array.getElem?_toList, Array.getElem?_modify]
            by_cases hij : j = i
            · subst hij; simp [hen']
            · simp [hij]
          refine ⟨_, _, rfl, ents_of (by simp [h2]) (fun i en' kk vv he hk => ?_), by rw [hbm]; exact hnd, fun e he => ?_, fun _ => dense_modify (fun _ => rfl) hD⟩
          case refine_2 =>
            have : e.born ∈ (M.modify j fun e => { e with key := a.eval k }).toList.map (·.born) := List.mem_map.2 ⟨e, Array.mem_toList_iff.2 he, rfl⟩
            rw [hbm] at this
            obtain ⟨e2, he2, hb2⟩ := List.mem_map.1 this
            rw [← hb2]
            exact hlt e2 (by simpa using he2)
          rw [Array.getElem?_modify] at he
          by_cases hij : j = i
          · subst hij
            simp only [if_true, hen', Option.map_some, Option.some.injEq] at he
            subst he
            rw [List.getElem?_set_self (by omega)] at hk
            cases hk
            exact ⟨hkp, hv0⟩
          · rw [if_neg hij] at he
            rw [List.getElem?_set_ne hij] at hk
            exact h3 i en' kk vv he hk
    · cases ha
  · cases ha
theorem ok_entSt (hR : R E w0 I0 nt γ I st a w) (hd : ∀ d, o.dst = some d → d < nt) {t : TypeId} {m s x : Operand} {m' s' x' : A} (ho : o.op = .entryStore t m s x) (hm : opd m = some m') (hs : opd s = some s') (hx : opd x = some x')
    (ha : (match eval E st.tm m', eval E st.tm s' with
      | .map l u, .int .i64 (.ofNat n) => if Nat.ble st.ro u && Nat.blt (objVer st.ob l) mapK then (objMap st.ob l u).bind fun es => match es[n]? with
        | some (k, _) => some { v := none', obs := [(l, ⟨u, .mp (objVer st.ob l + 1) (es.set n (k, (eval E st.tm x').strip))⟩)] }
        | none => none
        else none
      | _, _ => none) = some δ) : OpOk P E w0 I0 nt γ I st a w o ub δ := by
  have hrm := eval_rep hR hm
  have hrs := eval_rep hR hs
  have hrx := (eval_rep hR hx).strip
  split at ha
  · rename_i l u n he hes
    rw [he] at hrm
    rw [hes] at hrs
    obtain ⟨b, kb, hγ, hm'⟩ := inv_map hrm
    have hs' := inv_int hrs
    split at ha
    case isFalse => cases ha
    rename_i hro
    rw [Bool.and_eq_true] at hro
    obtain ⟨hro, hvk⟩ := hro
    have hvk : objVer st.ob l < mapK := by simpa using hvk
    obtain ⟨es, hes, ha⟩ := bind_some ha
    have hob := objMap_inv hes
    obtain ⟨M, clock, h1, h2, h3, hnd, hlt, hdn⟩ := obj_mapD hR hob hγ
    have hD := hdn hvk
    split at ha
    case h_2 => cases ha
    rename_i k0 v0 hk0
    have hnlt : n < M.size := by rw [h2]; exact (List.getElem?_eq_some_iff.1 hk0).1
    have hen : M[n]? = some M[n] := Array.getElem?_eq_getElem hnlt
    have hfi : M.findIdx? (fun e => (e.born : Int) == (n : Int)) = some n := by
      rw [Array.findIdx?_eq_some_iff_getElem]
      refine ⟨hnlt, by rw [hD.2 n _ hen]; simp, fun j hj => ?_⟩
      have := hD.2 j _ (Array.getElem?_eq_getElem (Nat.lt_trans hj hnlt))
      simp only [this, Bool.not_eq_true, beq_eq_false_iff_ne, ne_eq]
      omega
    have hfi' : M.findIdx? (fun e => (e.born : Int) == (Int.ofNat n)) = some n := hfi
    refine set_ok hR hd hob hro (body' := .mp _ _) (x := undef) (v := none') (w' := { w with heap := w.heap.setIfInBounds b (.map (M.modify n fun e => { e with val := a.eval x }) clock) }) (.inr ⟨?_, rfl⟩) (.tup _ _ rfl (by simp)) (fun v es h => by cases h; exact ⟨_, _, rfl, Nat.lt_succ_self _⟩) ?_ ha
    · simp only [execOp, ho, hm', hs', Instr.entryStore, asInt, asIntOf, Sem.run_bind, Result.andThen_ok, Sem.run_pure, run_getMap h1, hfi', run_setMap h1]
    · intro b' k1 hb' hlt'
      rw [hγ] at hb'
      cases hb'
      refine ⟨rfl, rfl, rfl, by simp, fun k hk => heap_set_ne w b k _ hk, ?_⟩
      rw [heap_set_same w b _ hlt']
      have hbm : (M.modify n fun e => { e with val := a.eval x }).toList.map (·.born) = M.toList.map (·.born) := by
        apply List.ext_getElem?
        intro i
        simp only [List.getElem?_map, Array.getElem?_toList, Array.getElem?_modify]
        by_cases hij : n = i
        · subst hij; simp [hen]
        · simp [hij]
      refine ⟨_, _, rfl, ents_of (by simp [h2]) (fun i en' kk vv he hk => ?_), by rw [hbm]; exact hnd, fun e he => ?_, fun _ => dense_modify (fun _ => rfl) hD⟩
      case refine_2 =>
        have : e.born ∈ (M.modify n fun e => { e with val := a.eval x }).toList.map (·.born) := List.mem_map.2 ⟨e, Array.mem_toList_iff.2 he, rfl⟩
        rw [hbm] at this
        obtain ⟨e2, he2, hb2⟩ := List.mem_map.1 this
        rw [← hb2]
        exact hlt e2 (by simpa using he2)
      rw [Array.getElem?_modify] at he
      by_cases hij : n = i
      · subst hij
        simp only [if_true, hen, Option.map_some, Option.some.injEq] at he
        subst he
        rw [List.getElem?_set_self (by omega)] at hk
        cases hk
        exact ⟨(h3 n _ _ _ hen hk0).1, hrx⟩
      · rw [if_neg hij] at he
        rw [List.getElem?_set_ne hij] at hk
        exact h3 i en' kk vv he hk
  · cases ha
end
section
variable {P : Program} {E : Env} {w0 w : World} {I0 : IMap} {nt : Nat} {γ : Nat → Option Place} {I : IMap} {st : St} {a : Act} {o : Oper} {ub : Nat} {δ : Delta}
/-- Two pointers to objects that live. -/
theorem ok_eqPtr (hR : R E w0 I0 nt γ I st a w) (hd : ∀ d, o.dst = some d → d < nt) {neg : Bool} {t t' : TypeId} {x y : Operand} {x' y' : A} (ho : o.op = .binOp (if neg then .neq else .eql) t x y t') (hx : opd x = some x') (hy : opd y = some y')
    (hk : eqK P t x y = some .ptr) {l u off l' u' off' : Nat} (h1 : eval E st.tm x' = .ptr l u off) (h2 : eval E st.tm y' = .ptr l' u' off')
    (ha : (if (objCells st.ob l u).isSome && (objCells st.ob l' u').isSome then one (.bool (xor neg (Nat.beq l l' && Nat.beq off off'))) else none) = some δ) : OpOk P E w0 I0 nt γ I st a w o ub δ := by
  have hrx := eval_rep hR hx
  have hry := eval_rep hR hy
  rw [h1] at hrx
  rw [h2] at hry
  obtain ⟨b, k, hu, hX⟩ := inv_ptr hrx
  obtain ⟨b', k', hu', hY⟩ := inv_ptr hry
  simp only [Option.ite_none_right_eq_some, Bool.and_eq_true, Option.isSome_iff_exists] at ha
  obtain ⟨⟨⟨cs, hc⟩, ⟨cs', hc'⟩⟩, hδ⟩ := ha
  obtain ⟨Ω, hown⟩ := hR.own
  obtain ⟨B1, e1, hB1⟩ := objCells_inv hc
  obtain ⟨B2, e2, hB2⟩ := objCells_inv hc'
  obtain ⟨c, kc, k1, k2, _⟩ := hown.ob l _ e1
  obtain ⟨c', kc', q1, q2, _⟩ := hown.ob l' _ e2
  rw [hu] at k1
  rw [hu'] at q1
  cases k1
  cases q1
  have hbl : (b = b') ↔ l = l' := by
    constructor
    · intro e
      subst e
      rw [k2] at q2
      cases q2
      rfl
    · intro e
      subst e
      rw [e1] at e2
      simp only [Option.some.injEq, Obj'.mk.injEq] at e2
      obtain ⟨rfl, _⟩ := e2
      rw [hu] at hu'
      cases hu'
      rfl
  have heq : (Nat.beq l l' && Nat.beq off off') = decide ((⟨b, off, none⟩ : Addr) = ⟨b', off', none⟩) := by
    rw [Bool.eq_iff_iff]
    have e1 : ∀ m n : Nat, (Nat.beq m n = true) ↔ m = n := fun m n => ⟨Nat.eq_of_beq_eq_true, fun h => h ▸ Nat.beq_refl m⟩
    simp only [Bool.and_eq_true, e1, decide_eq_true_eq, Addr.mk.injEq, and_true, hbl]
  obtain ⟨e, hue, n, hn, hn0⟩ := eqK_inv hk
  obtain ⟨arr, _, m1, _⟩ := obj_row hR e1 hB1 hu
  obtain ⟨arr', _, m2, _⟩ := obj_row hR e2 hB2 hu'
  have hsa : (sameAddr ⟨b, off, none⟩ ⟨b', off', none⟩).run P w = .ok (decide ((⟨b, off, none⟩ : Addr) = ⟨b', off', none⟩)) w := by
    by_cases hb : b = b'
    · subst hb
      have : ((⟨b, off, none⟩ : Addr) == ⟨b, off', none⟩) = decide ((⟨b, off, none⟩ : Addr) = ⟨b, off', none⟩) := by
        rw [Bool.eq_iff_iff]; simp
      simp only [sameAddr, beq_self_eq_true, if_true, this, Sem.run_pure]
    · have hne : (b == b') = false := by simpa using hb
      simp [sameAddr, hne, hb, noView, viewAt, mayBeOne, stringish, World.shape?, m1, m2, World.frozen?]
  have hequal : (Op.equal t (a.eval x) (a.eval y)).run P w = .ok (Nat.beq l l' && Nat.beq off off') w := by
    rw [hX, hY, heq]
    unfold Op.equal
    show (Op.equalIn (9999 + 1) t _ _).run P w = _
    unfold Op.equalIn
    simp only [Sem.run_bind, run_underlying hue, Result.andThen_ok, run_sizeOf hn, hn0, ne_eq, not_false_eq_true, if_true, hsa]
  obtain ⟨e1, e2⟩ := run_binOp_eq t (a.eval x) (a.eval y) _ (by rw [hX]; simp) (by rw [hX]; simp) (by rw [hX]; simp) (by rw [hX]; simp) hequal
  have h0 : (eqGuard (if neg then .neq else .eql) t x y (a.eval x) (a.eval y)).run P w = .ok () w := run_eqGuard_other _ _ _ _ _ _ (by rw [hX]; simp) (by rw [hX]; simp)
  refine val_ok hR hd (x := .bool (xor neg (Nat.beq l l' && Nat.beq off off'))) ?_ (.pure _ _ (.bool _)) hδ
  simp only [execOp, ho, Sem.run_bind, h0, Result.andThen_ok]
  cases neg
  · simp only [Bool.false_eq_true, if_false, e1, Result.andThen_ok, Sem.run_pure, Bool.false_xor]
  · simp only [if_true, e2, Result.andThen_ok, Sem.run_pure, Bool.true_xor]
end
section
variable {P : Program} {E : Env} {w0 w : World} {I0 : IMap} {nt : Nat} {γ : Nat → Option Place} {I : IMap} {st : St} {a : Act} {o : Oper} {ub : Nat} {δ : Delta}
theorem ok_assert (hR : R E w0 I0 nt γ I st a w) (hd : ∀ d, o.dst = some d → d < nt) {x : Operand} {xt t : TypeId} {x' : A} {ok : Bool} {d : TypeDesc} {i : TypeInfo} {z : Value} {zv : V} (ho : o.op = .typeAssert x xt t ok) (hx : opd x = some x')
    (hu : P.underlying t = some d) (hni : ∀ m, d ≠ .interface m) (hi : P.info? t = some i) (hz : i.zero = some z) (hzv : ofConst z = some zv)
    (ha : (match eval E st.tm x' with
      | .iface t' v => if t' = t then one (if ok then .tup [v, .bool true] else v) else if ok then one (.tup [zv, .bool false]) else none
      | .nilif => if ok then one (.tup [zv, .bool false]) else none
      | _ => none) = some δ) : OpOk P E w0 I0 nt γ I st a w o ub δ := by
  have hr := eval_rep hR hx
  have hzr : Rep γ I z zv := .pure _ _ (ofConst_rep hzv)
  have pair : ∀ (x : Value) (v : V) (b : Bool), Rep γ I x v → Rep γ I (.tuple #[x, .bool b]) (.tup [v, .bool b]) := by
    intro x v b h
    refine .tup _ _ rfl (fun j y u hy hu => ?_)
    match j with
    | 0 => simp at hy hu; subst hy; subst hu; exact h
    | 1 => simp at hy hu; subst hy; subst hu; exact .pure _ _ (.bool b)
    | j + 2 => simp at hu
  split at ha
  · rename_i t' v he
    rw [he] at hr
    obtain ⟨y, hx', hy⟩ := inv_iface hr
    split at ha
    · rename_i htt
      subst htt
      cases ok
      · refine val_ok hR hd (x := y) ?_ hy ha
        simp only [execOp, ho, hx', Instr.typeAssert, Sem.run_bind, run_underlying hu, Result.andThen_ok]
        cases d <;> first | exact absurd rfl (hni _) | simp
      · refine val_ok hR hd (x := .tuple #[y, .bool true]) ?_ (pair _ _ _ hy) ha
        simp only [execOp, ho, hx', Instr.typeAssert, Sem.run_bind, run_underlying hu, Result.andThen_ok]
        cases d <;> first | exact absurd rfl (hni _) | simp
    · rename_i htt
      cases ok
      · cases ha
      · refine val_ok hR hd (x := .tuple #[z, .bool false]) ?_ (pair _ _ _ hzr) ha
        simp only [execOp, ho, hx', Instr.typeAssert, Sem.run_bind, run_underlying hu, Result.andThen_ok]
        cases d <;> first | exact absurd rfl (hni _) | simp [htt, run_zeroValue hi hz]
  · rename_i he
    rw [he] at hr
    have hx' := inv_nilif hr
    cases ok
    · cases ha
    · refine val_ok hR hd (x := .tuple #[z, .bool false]) ?_ (pair _ _ _ hzr) ha
      simp only [execOp, ho, hx', Instr.typeAssert, Sem.run_bind, run_underlying hu, Result.andThen_ok]
      cases d <;> first | exact absurd rfl (hni _) | simp [run_zeroValue hi hz]
  · cases ha
theorem ok_buildSlO (hR : R E w0 I0 nt γ I st a w) (hd : ∀ d, o.dst = some d → d < nt) (hf : γ ub = none) {t e : TypeId} {ps : Array (Nat × Operand)} {l : List (Nat × Nat × A)} {zs : List V} {n s : Nat} {d : Nat} (ho : o.op = .buildSlice t n ps)
    (hu : P.underlying t = some (.slice e)) (hs : szOf P e = some s) (hz : zeroOf P e = some zs) (hzs : zs.length = s) (hs0 : 0 < s) (hns : n * s ≤ 16777216) (hl : compParts (fun i => some (i * s, s)) ps = some l)
    (ha : ((fill (repl n zs) (evalParts (eval E st.tm) l)).bind fun cs =>
      if cs.length = n * s ∧ cs.all V.leaf = true then mkObj d ub (.cells cs) (.osl d ub 0 n s) else none) = some δ) : OpOk P E w0 I0 nt γ I st a w o ub δ := by
  obtain ⟨cs, hcs, ha'⟩ := bind_some ha
  split at ha'
  · rename_i hc
    obtain ⟨i, z, hi, hz1, hlen, hcells⟩ := zeroOf_inv (I := I) hz
    subst hzs
    obtain ⟨cells', h1, h2⟩ := fill_rep hR (compParts_inv hl) (repl_rep (γ := γ) (I := I) hlen hcells n (.inr hs0)) hcs
    have hcap : n ≤ maxLen := by
      have : n ≤ n * zs.length := Nat.le_mul_of_pos_right n hs0
      simp only [maxLen]; omega
    refine alloc_ok hR hd hf (x := .slice (some ⟨w.heap.size, 0, none⟩) n n) (obj := .cells cells' e) (k := .n cells'.size) (body := .cells cs) ?_ rfl (fun γ' h => .osl _ _ _ _ _ _ _ _ _ h (fun _ => ⟨rfl, by rw [h2.1, hc.1, Nat.zero_add]; exact Nat.le_refl _⟩) (Nat.le_refl _) hcap)
      ⟨cells', e, rfl, rfl, Nat.le_of_eq h2.1.symm, h2.2⟩ ha'
    · have hsz : i.size = zs.length := by unfold szOf at hs; rw [hi] at hs; exact Option.some.inj hs
      have hbig : ¬ (n * zs.length > 16777216) := by omega
      have h1' : Instr.fill (fun i => some (i * zs.length, zs.length)) ((Array.range (n * zs.length)).map (z.cells[· % z.cells.size]!)) ((ps.map fun (p : Nat × Operand) => (p.1, a.eval p.2)).toList) = some cells' := by
        rw [Array.toList_map]; exact h1
      have hrun : (Instr.buildSlice t n (ps.map fun (p : Nat × Operand) => (p.1, a.eval p.2))).run P w = .ok (.slice (some ⟨w.heap.size, 0, none⟩) n n) (w.alloc (.cells cells' e)) := by
        unfold Instr.buildSlice
        simp only [Sem.run_bind, run_underlying hu, Result.andThen_ok, run_sizeOf hs, Nat.reducePow, hbig, if_false]
        by_cases h0 : n * zs.length = 0
        · have hnz : n = 0 := by rcases Nat.mul_eq_zero.1 h0 with h | h <;> omega
          subst hnz
          have hm : ∀ f : Nat → Value, (Array.range 0).map f = #[] := fun f => by simp [Array.range]
          simp only [Nat.zero_mul, hm] at h1'
          simp only [Nat.zero_mul, if_true, hm, h1']
          simp [newRow]
        · simp only [h0, if_false, Sem.run_bind, run_zeroValue hi hz1, Result.andThen_ok, Sem.run_pure, h1']
          simp [newRow]
      simp only [execOp, ho, Sem.run_bind, hrun, Result.andThen_ok, Sem.run_pure]
  · cases ha'
end
section
variable {P : Program} {E : Env} {w0 w : World} {I0 : IMap} {nt : Nat} {γ : Nat → Option Place} {I : IMap} {st : St} {a : Act} {o : Oper} {ub : Nat} {δ : Delta}
theorem repl_get {zs : List V} {n m j : Nat} {v : V} (hn : n ≤ m) (h : (repl n zs)[j]? = some v) : (repl m zs)[j]? = some v := by
  have hlt : j < n * zs.length := by have := (List.getElem?_eq_some_iff.1 h).1; simpa [repl] using this
  have hle : n * zs.length ≤ m * zs.length := Nat.mul_le_mul_right _ hn
  simp only [repl, List.getElem?_map] at h ⊢
  rw [List.getElem?_range hlt] at h
  rw [List.getElem?_range (by omega)]
  exact h
theorem ok_mkSl (hR : R E w0 I0 nt γ I st a w) (hd : ∀ d, o.dst = some d → d < nt) (hf : γ ub = none) {t e : TypeId} {x y : Operand} {x' y' : A} {i : TypeInfo} {zs : List V} {d : Nat} {m : Bool} (ho : o.op = .makeSlice t x y) (hx : opd x = some x') (hy : opd y = some y')
    (hu : P.underlying t = some (.slice e)) (hi : P.info? e = some i) (hz : zeroOf P e = some zs)
    (ha : (match eval E st.tm x', eval E st.tm y' with
      | .int .i64 l, .int .i64 c => if 0 ≤ l ∧ l ≤ c ∧ c * i.bytes ≤ 140737488355328 ∧ c ≤ 140737488355328 ∧ zs.length = i.size ∧ 0 < i.size then
        (if !m ∧ l = 0 then some { v := V.sl (some (ub, i.size)) false 0 [], add := [ub] } else mkObj d ub (.cells (repl l.toNat zs)) (.osl d ub 0 l.toNat i.size)) else none
      | _, _ => none) = some δ) : OpOk P E w0 I0 nt γ I st a w o ub δ := by
  have hrx := eval_rep hR hx
  have hry := eval_rep hR hy
  split at ha
  · rename_i l c hl hc
    rw [hl] at hrx
    rw [hc] at hry
    have hX := inv_int hrx
    have hY := inv_int hry
    split at ha
    · rename_i hcond
      obtain ⟨h0, hlc, hb, hcm, hzl, hs0⟩ := hcond
      obtain ⟨i', z, hi', hz1, hlen, hcells⟩ := zeroOf_inv (I := I) hz
      rw [hi] at hi'
      cases hi'
      have hb' : (i.bytes : Int) * c ≤ 281474976710656 := by rw [Int.mul_comm]; omega
      have hrun := run_make (P := P) w t e i z hu hi hz1 .i64 .i64 l c h0 hlc hb' (by omega)
      have hexec : (execOp a.eval o).run P w = .ok (.value (.slice (some ⟨w.heap.size, 0, none⟩) l.toNat c.toNat)) (w.alloc (.cells (madeCells z.cells (c.toNat * i.size)) e)) := by
        simp only [execOp, ho, Sem.run_bind, hX, hY, hrun, Result.andThen_ok, Sem.run_pure]
      have hmx : c.toNat ≤ maxLen := by simp only [maxLen]; omega
      split at ha
      · rename_i hl0
        obtain ⟨_, rfl⟩ := hl0
        refine tok_ok hR hd hf (b := w.heap.size) (n := 0) (cap := c.toNat) (sz := i.size) (cs := []) (w' := w.alloc _) (del := none) (arr := madeCells z.cells (c.toNat * i.size)) (e := e)
          hexec (.inl ⟨rfl, by simp⟩) ⟨rfl, rfl, rfl⟩ (fun k hk _ => heap_alloc_old _ _ _ hk) (heap_alloc_new _ _) (size_madeCells _ _) (Nat.zero_le _) hmx (fun j y hy => ?_) (by simp) (fun j v hv => by simp at hv) ha
        exact absurd (World.block_lt_of_cell? _ _ (hR.imm _ _ _ hy)) (Nat.lt_irrefl _)
      · have hrow := repl_rep (γ := γ) (I := I) hlen hcells c.toNat (.inr (by omega))
        have hnat : l.toNat ≤ c.toNat := by omega
        refine alloc_ok hR hd hf (x := .slice (some ⟨w.heap.size, 0, none⟩) l.toNat c.toNat) (k := .n (c.toNat * i.size)) (body := .cells (repl l.toNat zs)) hexec rfl
          (fun γ' h => .osl _ _ _ _ _ _ _ _ _ h (fun _ => ⟨rfl, by show 0 + c.toNat * i.size ≤ c.toNat * i.size; omega⟩) hnat hmx) ⟨_, e, rfl, size_madeCells _ _, ?_, fun j x v hx hv => ?_⟩ ha
        · simp only [repl, List.length_map, List.length_range, hzl]
          exact Nat.mul_le_mul_right _ hnat
        · refine hrow.2 j x v ?_ (repl_get hnat hv)
          rw [← hzl] at hx
          exact hx
    · cases ha
  · cases ha
end
theorem idxByte_eq : ∀ (l : List UInt8) (c : UInt8), idxByte l c = Lib.indexByte l c
  | [], _ => rfl
  | b :: l, c => by simp only [idxByte, Lib.indexByte, idxByte_eq l c]
section
variable {P : Program} {E : Env} {w0 w : World} {I0 : IMap} {nt : Nat} {γ : Nat → Option Place} {I : IMap} {st : St} {a : Act} {o : Oper} {ub : Nat} {δ : Delta}
theorem ext_find {fn : Func} {k : ExtK} (ho : fn.origin = "") (hn : (fn.name = "internal/bytealg.CountString" ∧ k = .count) ∨ (fn.name = "internal/bytealg.IndexByteString" ∧ k = .indexByte) ∨ (fn.name = "internal/abi.NoEscape" ∧ k = .same)) :
    Extern.findNext fn = none ∧ Extern.find fn = some (match k with | .count => Extern.BytealgCount.count | .indexByte => Extern.BytealgIndexByte.indexByte | .same => Extern.AbiNoEscape.same) := by
  rcases hn with ⟨h, rfl⟩ | ⟨h, rfl⟩ | ⟨h, rfl⟩
  · constructor
    · unfold Extern.findNext
      simp only [ho, h]
      rfl
    · unfold Extern.find
      simp only [ho, h]
      rfl
  · constructor
    · unfold Extern.findNext
      simp only [ho, h]
      rfl
    · unfold Extern.find
      simp only [ho, h]
      rfl
  · constructor
    · unfold Extern.findNext
      simp only [ho, h]
      rfl
    · unfold Extern.find
      simp only [ho, h]
      rfl
end
section
variable {P : Program} {E : Env} {w0 w : World} {I0 : IMap} {nt : Nat} {γ : Nat → Option Place} {I : IMap} {st : St} {a : Act} {o : Oper} {ub : Nat} {δ : Delta}
theorem any_beq {l : List Nat} {k : Nat} : l.any (Nat.beq k) = true ↔ k ∈ l := by
  rw [List.any_eq_true]
  constructor
  · rintro ⟨x, hx, h⟩; exact (Nat.eq_of_beq_eq_true h) ▸ hx
  · intro h; exact ⟨k, h, Nat.beq_refl k⟩
/-- An object in block b: a new one, or that of an object that is no more. -/
theorem obj_okB (hR : R E w0 I0 nt γ I st a w) (hd : ∀ d, o.dst = some d → d < nt) (hf : γ ub = none) {b d : Nat} {k : Kd} {body : OBody} {x : Value} {v : V} {w' : World} {kill : List Nat}
    (hrun : (execOp a.eval o).run P w = .ok (.value x) w')
    (hb : (b = w.heap.size ∧ w'.heap.size = w.heap.size + 1) ∨ (∃ l0 u0 B0 k0, st.ob l0 = some ⟨u0, B0⟩ ∧ γ u0 = some (.obj b k0) ∧ l0 ∈ kill ∧ Nat.ble st.ro u0 = true ∧ w'.heap.size = w.heap.size))
    (hos : w'.os = w.os ∧ w'.tape = w.tape ∧ w'.output = w.output) (hk : ∀ k, k < w.heap.size → k ≠ b → w'.heap[k]? = w.heap[k]?)
    (hx : ∀ γ' : Nat → Option Place, γ' ub = some (.obj b k) → Rep γ' I x v) (hlt : b < w'.heap.size) (hnm : ∀ v es, body ≠ .mp v es) (hbody : ObjOk γ I st.ob w.heap k w'.heap[b]? body)
    (hδ : some { v := v, obs := [(d, ⟨ub, body⟩)], kill := kill } = some δ) : OpOk P E w0 I0 nt γ I st a w o ub δ := by
  simp only [Option.some.injEq] at hδ
  subst hδ
  obtain ⟨Ω, ho⟩ := hR.own
  have hmγ := upd_mono (f := γ) (k := ub) (v := Place.obj b k) hf
  have hob : (st.app o.dst { v := v, obs := [(d, ⟨ub, body⟩)], kill := kill }).ob = upd (fun k => if kill.any (Nat.beq k) then none else st.ob k) d (some ⟨ub, body⟩) := by
    simp only [St.app, setObs]
  have hlive : ∀ l x, l ≠ d → (upd (fun k => if kill.any (Nat.beq k) then none else st.ob k) d (some ⟨ub, body⟩)) l = some x → st.ob l = some x ∧ l ∉ kill := by
    intro l x hld hl
    rw [upd_ne _ _ hld] at hl
    split at hl
    · cases hl
    · rename_i h; exact ⟨hl, fun hm => h (any_beq.2 hm)⟩
  have hB : w0.heap.size ≤ b := by
    rcases hb with ⟨h, _⟩ | ⟨l0, u0, cs0, k0, h1, h2, _, h4, _⟩
    · rw [h]; exact hR.fr.size
    · obtain ⟨b', k', q1, q2, q3, _⟩ := ho.ob l0 _ h1
      rw [h2] at q1
      cases q1
      exact q3 (by simpa [Nat.ble_eq] using h4)
  have hle : w.heap.size ≤ w'.heap.size := by rcases hb with ⟨_, h⟩ | ⟨_, _, _, _, _, _, _, _, h⟩ <;> omega
  have hIb : ∀ j, I b j = none := by
    intro j
    rcases hb with ⟨h, _⟩ | ⟨l0, u0, cs0, k0, h1, h2, _, h4, _⟩
    · cases hj : I b j with
      | none => rfl
      | some y => exact absurd (World.block_lt_of_cell? _ _ (hR.imm _ _ _ hj)) (by rw [h]; exact Nat.lt_irrefl _)
    · obtain ⟨b', k', q1, _, _, _, q5⟩ := ho.ob l0 _ h1
      rw [h2] at q1
      cases q1
      exact q5 j
  have hneb : ∀ b' ow, Ω b' = some ow → (∀ l, ow = .ob l → l ∉ kill) → b' ≠ b := by
    intro b' ow h1 h2 e
    subst e
    rcases hb with ⟨h, _⟩ | ⟨l0, u0, cs0, k0, q1, q2, q3, _, _⟩
    · have := ho.lt _ _ h1; omega
    · obtain ⟨b', k', r1, r2, _⟩ := ho.ob l0 _ q1
      rw [q2] at r1
      cases r1
      rw [h1] at r2
      cases r2
      exact h2 l0 rfl q3
  have hkeep : MapsKeep γ st.ob (upd (fun k => if kill.any (Nat.beq k) then none else st.ob k) d (some ⟨ub, body⟩)) w.heap w'.heap := by
    intro l2 u2 ver' es' mb mk hu2 hl2
    by_cases hld : l2 = d
    · subst hld
      simp only [upd_same, Option.some.injEq, Obj'.mk.injEq] at hl2
      exact absurd hl2.2 (hnm _ _)
    · obtain ⟨hl2, hnk⟩ := hlive l2 _ hld hl2
      refine .inl ⟨hl2, fun m c hm2 => ?_⟩
      obtain ⟨b2, k2', q1, q2, _⟩ := ho.ob l2 _ hl2
      rw [hu2] at q1
      cases q1
      rw [hk mb (ho.lt _ _ q2) (hneb mb _ q2 (fun l h => by cases h; exact hnk))]
      exact hm2
  refine ⟨x, w', upd γ ub (some (.obj b k)), I, .inl hrun, ⟨(put_size _ _ _).trans hR.sz, df_put hR hmγ _ _, ?_, ⟨?_, hR.gl, ⟨upd Ω b (some (.ob d)), ⟨?_, ?_, ?_⟩⟩, ?_, hR.old⟩⟩, ?_, hmγ, fun _ _ _ h => h⟩
  · exact rep_put (by rw [hR.sz]; exact hd) (fun t => (hR.tm t).mono hmγ (fun _ _ _ h => h)) (hx _ (by simp))
  · intro b' j y hy
    have hne : b' ≠ b := fun h => by rw [h, hIb] at hy; cases hy
    have hc := hR.imm _ _ _ hy
    rw [World.cell?_of_block (w := w) (w' := w') (a := ⟨b', j, none⟩) (hk b' (World.block_lt_of_cell? _ _ hc) hne)]
    exact hc
  · intro l ob hl
    rw [hob] at hl ⊢
    by_cases hld : l = d
    · subst hld
      simp only [upd_same, Option.some.injEq] at hl
      subst hl
      exact ⟨b, k, by simp, by simp, fun _ => hB, (ObjOk.keep hbody hkeep).mono hmγ (fun _ _ _ h => h), hIb⟩
    · obtain ⟨hl, hnk⟩ := hlive l _ hld hl
      obtain ⟨b', k', k1, k2, k3, k4, k5⟩ := ho.ob l ob hl
      have hne := hneb b' _ k2 (fun l h => by cases h; exact hnk)
      refine ⟨b', k', hmγ _ _ k1, by rw [upd_ne _ _ hne]; exact k2, k3, ?_, k5⟩
      rw [hk b' (ho.lt _ _ k2) hne]
      exact (k4.keep hkeep).mono hmγ (fun _ _ _ h => h)
  · intro u hu
    have hu' : st.tk u = true := by simpa [St.app, setToks] using hu
    obtain ⟨b', n', c', s', k1, k2, k3, k4, k5⟩ := ho.tk u hu'
    have hne := hneb b' _ k2 (fun l h => by cases h)
    refine ⟨b', n', c', s', hmγ _ _ k1, by rw [upd_ne _ _ hne]; exact k2, k3, ?_, k5⟩
    rw [hk b' (ho.lt _ _ k2) hne]
    exact k4
  · intro b' ow hb'
    rw [upd_apply] at hb'
    split at hb'
    · rename_i h; subst h; exact hlt
    · have := ho.lt b' _ hb'; omega
  · exact Grow.frame hR.fr (T := fun k => k = b) ⟨hos.1, hos.2.1, hos.2.2, hle, fun k hk' hne => hk k hk' hne, fun k hk' => hk' ▸ hB⟩
  · intro u hu
    exact upd_ne _ _ (fun e => hu ⟨by omega, by omega⟩)
theorem obj_ok (hR : R E w0 I0 nt γ I st a w) (hd : ∀ d, o.dst = some d → d < nt) (hf : γ ub = none) {b d : Nat} {k : Kd} {cs : List V} {x : Value} {v : V} {w' : World} {kill : List Nat}
    (hrun : (execOp a.eval o).run P w = .ok (.value x) w')
    (hb : (b = w.heap.size ∧ w'.heap.size = w.heap.size + 1) ∨ (∃ l0 u0 B0 k0, st.ob l0 = some ⟨u0, B0⟩ ∧ γ u0 = some (.obj b k0) ∧ l0 ∈ kill ∧ Nat.ble st.ro u0 = true ∧ w'.heap.size = w.heap.size))
    (hos : w'.os = w.os ∧ w'.tape = w.tape ∧ w'.output = w.output) (hk : ∀ k, k < w.heap.size → k ≠ b → w'.heap[k]? = w.heap[k]?)
    (hx : ∀ γ' : Nat → Option Place, γ' ub = some (.obj b k) → Rep γ' I x v) (hbody : ObjOk γ I st.ob w.heap k w'.heap[b]? (.cells cs))
    (hδ : some { v := v, obs := [(d, ⟨ub, .cells cs⟩)], kill := kill } = some δ) : OpOk P E w0 I0 nt γ I st a w o ub δ := by
  have hbody' := hbody
  obtain ⟨arr, e, hblk, _, _, _⟩ := hbody'
  exact obj_okB hR hd hf hrun hb hos hk hx (Array.getElem?_eq_some_iff.1 hblk).1 (fun _ _ h => by cases h) hbody hδ
/-- A row of cells behind another one. -/
theorem append_cellsL {cs ys : List V} {arr : Array Value} {k : Nat} (hk : cs.length = k) (h1 : ∀ (j : Nat) (x : Value) (v : V), arr[j]? = some x → cs[j]? = some v → v.leaf = true ∧ Rep γ I x v)
    (h2 : ∀ (j : Nat) (x : Value) (v : V), arr[k + j]? = some x → ys[j]? = some v → v.leaf = true ∧ Rep γ I x v) :
    ∀ (j : Nat) (x : Value) (v : V), arr[j]? = some x → (cs ++ ys)[j]? = some v → v.leaf = true ∧ Rep γ I x v := by
  intro j x v hx hv
  by_cases hj : j < k
  · rw [List.getElem?_append_left (by omega)] at hv
    exact h1 j x v hx hv
  · rw [List.getElem?_append_right (by omega)] at hv
    refine h2 (j - cs.length) x v ?_ hv
    rw [hk, show k + (j - k) = j by omega]
    exact hx
theorem ok_appendO (hR : R E w0 I0 nt γ I st a w) (hd : ∀ d, o.dst = some d → d < nt) (hf : γ ub = none) {t e : TypeId} {s x : Operand} {s' x' : A} {i : TypeInfo} {z : Value} {d : Nat} (ho : o.op = .call { callee := .builtin .append, args := #[s, x], argTypes := #[t, t] })
    (hs : opd s = some s') (hx : opd x = some x') (hu : P.underlying t = some (.slice e)) (hi : P.info? e = some i) (hz : i.zero = some z) (hs0 : 0 < i.size) (hzs : z.cells.size = i.size)
    {ys : List V} (hys : slCells st.ob i.size (eval E st.tm x') = some ys)
    (ha : (∃ t0 n cs, eval E st.tm s' = .sl t0 true n cs ∧ ys ≠ [] ∧ ys.all V.leaf = true ∧ (ys.length / i.size) * i.bytes ≤ 140737488355328 ∧ ys.length / i.size ≤ 140737488355328 ∧
        mkObj d ub (.cells ys) (.osl d ub 0 (ys.length / i.size) i.size) = some δ) ∨
      ∃ l u off n sz' cs, eval E st.tm s' = .osl l u off n sz' ∧ objCells st.ob l u = some cs ∧
        (if ys = [] then one (.osl l u off n sz') else
        if Nat.ble st.ro u = true ∧ sz' = i.size ∧ off = 0 ∧ n * i.size ≤ cs.length ∧ 0 < i.size ∧ ys.all V.leaf = true ∧ (n + ys.length / i.size) * i.bytes ≤ 140737488355328 ∧ n + ys.length / i.size ≤ 140737488355328 then
          some { v := V.osl d ub 0 (n + ys.length / i.size) i.size, obs := [(d, ⟨ub, .cells (cs.take (n * i.size) ++ ys)⟩)], kill := [l] } else none) = some δ) : OpOk P E w0 I0 nt γ I st a w o ub δ := by
  have hrs := eval_rep hR hs
  have hrx := eval_rep hR hx
  have hexec : ∀ (v : Value) (w' : World), (Builtin.append_ #[t, t] o.type #[a.eval s, a.eval x]).run P w = .ok v w' → (execOp a.eval o).run P w = .ok (.value v) w' := by
    intro v w' h
    simp only [execOp, ho, resolve, Sem.run_bind, Sem.run_pure, Result.andThen_ok, invoke, builtin, List.map_toArray, List.map_cons, List.map_nil, h]
  -- what is appended
  have rowX : ys ≠ [] → ys.all V.leaf = true → ∃ (ad : Addr) (m c : Nat) (news : List Value), a.eval x = .slice (some ad) m c ∧ m ≤ c ∧ ys.length = m * i.size ∧ 0 < m ∧ ys.length / i.size = m ∧ news.length = m * i.size ∧
      (∀ (j : Nat) (u : Value), news[j]? = some u → w.cell? (ad.add j) = some u) ∧ (∀ (j : Nat) (x : Value) (v : V), news[j]? = some x → ys[j]? = some v → v.leaf = true ∧ Rep γ I x v) ∧ (∀ u ∈ news, u.oneCell' = true) := by
    intro hne hp
    rcases sl_rowL hR hrx hys hp hs0 with ⟨_, h⟩ | ⟨ad, m, c, news, hX, hmc, hyl, hnl, hnews, hnr, hn1⟩
    · exact absurd h hne
    · have hm0 : 0 < m := by
        rcases Nat.eq_zero_or_pos m with h | h
        · subst h
          simp only [Nat.zero_mul] at hyl
          exact absurd (List.eq_nil_of_length_eq_zero hyl) hne
        · exact h
      exact ⟨ad, m, c, news, hX, hmc, hyl, hm0, by rw [hyl]; exact Nat.mul_div_cancel _ hs0, by omega, hnews, fun j x v hx hv => ⟨List.all_eq_true.1 hp v (List.mem_of_getElem? hv), hnr j x v hx hv⟩, hn1⟩
  -- a new row
  have grown : ∀ (olds : List Value) (cs : List V) (n m old : Nat) (news : List Value) (kill : List Nat), olds.length = n * i.size → cs.length = n * i.size → news.length = m * i.size → ys.length = m * i.size → ys.length / i.size = m → n + m ≤ 140737488355328 →
      (∀ (j : Nat) (x : Value) (v : V), olds[j]? = some x → cs[j]? = some v → v.leaf = true ∧ Rep γ I x v) → (∀ (j : Nat) (x : Value) (v : V), news[j]? = some x → ys[j]? = some v → v.leaf = true ∧ Rep γ I x v) →
      (Builtin.append_ #[t, t] o.type #[a.eval s, a.eval x]).run P w = .ok (.slice (some ⟨w.heap.size, 0, none⟩) (n + m) (grownCap w (n + m) old e)) (w.drew.alloc (.cells (olds.toArray ++ news.toArray ++ Builtin.zeroCells z.cells (grownCap w (n + m) old e - (n + m))) e)) →
      some { v := V.osl d ub 0 (n + ys.length / i.size) i.size, obs := [(d, ⟨ub, .cells (cs ++ ys)⟩)], kill := kill } = some δ → OpOk P E w0 I0 nt γ I st a w o ub δ := by
    intro olds cs n m old news kill holdl hcl hnl hyl hm hmx holds hnews hrun hδ
    have hge := grownCap_ge w (n + m) old e
    have hcm := grownCap_le_maxLen w (n + m) old e (by simp only [maxLen]; omega)
    rw [hm] at hδ
    have hsz : (olds.toArray ++ news.toArray ++ Builtin.zeroCells z.cells (grownCap w (n + m) old e - (n + m))).size = grownCap w (n + m) old e * i.size := by
      simp only [Array.size_append, List.size_toArray, size_zeroCells, hzs, holdl, hnl, ← Nat.add_mul]
      congr 1
      omega
    refine obj_ok hR hd hf (b := w.heap.size) (k := .n (grownCap w (n + m) old e * i.size)) (hexec _ _ hrun) (.inl ⟨rfl, by simp⟩) ⟨rfl, rfl, rfl⟩ (fun k hk _ => heap_alloc_old w.drew _ k hk)
      (fun γ' h => .osl _ _ _ _ _ _ _ _ _ h (fun _ => ⟨rfl, by rw [Nat.zero_add]; exact Nat.le_refl _⟩) hge hcm) ?_ hδ
    refine ⟨_, e, heap_alloc_new w.drew _, hsz, ?_, ?_⟩
    · show (cs ++ ys).length ≤ grownCap w (n + m) old e * i.size
      rw [List.length_append, hcl, hyl, ← Nat.add_mul]
      exact Nat.mul_le_mul_right _ hge
    · refine append_cellsL hcl (fun j x v hx hv => ?_) (fun j x v hx hv => ?_)
      · have hj : j < olds.length := by have := (List.getElem?_eq_some_iff.1 hv).1; omega
        rw [Array.getElem?_append_left (by simp; omega), Array.getElem?_append_left (by simpa using hj)] at hx
        exact holds j x v (by simpa using hx) hv
      · have hj : j < news.length := by have := (List.getElem?_eq_some_iff.1 hv).1; omega
        rw [Array.getElem?_append_left (by simp; omega), Array.getElem?_append_right (by simp; omega)] at hx
        simp only [List.size_toArray, holdl, Nat.add_sub_cancel_left] at hx
        exact hnews j x v (by simpa using hx) hv
  rcases ha with ⟨t0, n, cs, hev, hne, hp, hby, hmx, hδ⟩ | ⟨l, u, off, n, sz', cs, hev, hcs, ha⟩
  · obtain ⟨ad, m, c, news, hX, hmc, hyl, hm0, hm, hnl, hnews, hnr, hn1⟩ := rowX hne hp
    rw [hev] at hrs
    rw [hm] at hby hmx
    have hS : a.eval s = .slice none 0 0 := by
      rcases inv_sl hrs with ⟨h, _⟩ | ⟨_, _, _, _, h, _⟩
      · exact h
      · cases h
    have h48 : m * i.bytes ≤ 281474976710656 := by omega
    have hrun := run_append_nil (P := P) w t o.type e i z hu hi hz ad m c news hnl hnews hm0 (by omega) h48
    refine grown [] [] 0 m 0 news [] (by simp) (by simp) hnl hyl hm (by omega) (fun j x v hx => by simp at hx) hnr ?_ ?_
    · rw [hS, hX, Nat.zero_add, hrun]; simp
    · rw [← hδ]
      simp [mkObj]
  · rw [hev] at hrs
    have hrs' := hrs
    obtain ⟨b, kb, ad0, cap, hγ, hS, had, hc, hcm⟩ := inv_osl hrs
    split at ha
    · rename_i hnil
      subst hnil
      have hX : a.eval x = .slice none 0 0 ∨ ∃ ad c, a.eval x = .slice (some ad) 0 c := by
        rcases sl_rowL hR hrx hys rfl hs0 with ⟨h, _⟩ | ⟨ad, m, c, news, h, _, hl, _⟩
        · exact .inl h
        · have : m = 0 := by
            simp only [List.length_nil] at hl
            rcases Nat.mul_eq_zero.1 hl.symm with h | h <;> omega
          subst this
          exact .inr ⟨ad, c, h⟩
      refine val_ok hR hd (x := a.eval s) (hexec _ _ ?_) hrs' ha
      rw [hS]
      exact run_append_none t o.type e i hu hi (some ad0) n cap hc _ hX
    · rename_i hne
      split at ha
      case isFalse => cases ha
      rename_i hcond
      obtain ⟨hro, hsz, hoff, hle, _, hp, hby, hmx⟩ := hcond
      subst hsz
      subst hoff
      obtain ⟨ad, m, c, news, hX, hmc, hyl, hm0, hm, hnl, hnews, hnr, hn1⟩ := rowX hne hp
      have hmx' := hmx
      have hby' := hby
      rw [hm] at hby' hmx'
      obtain ⟨B, hob, hB⟩ := objCells_inv hcs
      obtain ⟨arr, e', g1, g2, g3, g4⟩ := obj_row hR hob hB hγ
      have htl : (cs.take (n * i.size)).length = n * i.size := by rw [List.length_take]; omega
      have hget : ∀ j, j < n * i.size → arr[j]? = some (arr.getD j undef) := by
        intro j hj
        have : j < arr.size := by omega
        simp [this]
      have had' : 0 < n * i.size → ad0 = ⟨b, 0, none⟩ := fun h => (had (by
        rcases Nat.eq_zero_or_pos n with h0 | h0
        · subst h0; simp at h
        · omega)).1
      by_cases hroom : n + m ≤ cap
      · have hcap0 : 0 < cap := by omega
        obtain ⟨hada, hfitk⟩ := had hcap0
        rw [Nat.zero_add] at hfitk
        have hfit : n * i.size + news.length ≤ arr.size := by rw [hnl, g2, ← Nat.add_mul]; exact Nat.le_trans (Nat.mul_le_mul_right _ hroom) hfitk
        have haR := ha
        rw [hm] at haR
        have hrun := run_append_room' (P := P) (w := w) t o.type e e' i hu hi b n cap arr g1 ad m c news hnl hnews hn1 hroom hfit
        refine obj_ok hR hd hf (b := b) (k := kb) (w' := w.setRow b _) (hexec _ _ (by rw [hS, hX, hada]; exact hrun)) (.inr ⟨l, u, B, kb, hob, hγ, List.mem_singleton.2 rfl, hro, by simp⟩) ⟨rfl, rfl, rfl⟩
          (fun k _ hk => setRow_other w _ k _ hk) (fun γ' h => .osl _ _ _ _ _ _ _ _ _ h (fun _ => ⟨rfl, by rw [Nat.zero_add]; exact hfitk⟩) hroom hcm) ?_ haR
        refine ⟨_, e', setRow_heap w _ arr _ e' _ g1, ?_, ?_, ?_⟩
        · rw [← g2]
          simp only [List.size_toArray, List.length_append, List.length_take, List.length_drop, Array.length_toList]
          omega
        · rw [List.length_append, htl, hyl, ← Nat.add_mul]
          exact Nat.le_trans (Nat.mul_le_mul_right _ hroom) hfitk
        · refine append_cellsL htl (fun j x v hx hv => ?_) (fun j x v hx hv => ?_)
          · have hj : j < n * i.size := by have := (List.getElem?_eq_some_iff.1 hv).1; omega
            simp only [List.getElem?_toArray] at hx
            rw [List.append_assoc, List.getElem?_append_left (by simp only [List.length_take, Array.length_toList]; omega), List.getElem?_take_of_lt hj] at hx
            rw [List.getElem?_take_of_lt hj] at hv
            exact g4 j x v (by simpa using hx) hv
          · have hj : j < news.length := by have := (List.getElem?_eq_some_iff.1 hv).1; omega
            simp only [List.getElem?_toArray] at hx
            rw [List.getElem?_append_left (by simp only [List.length_append, List.length_take, Array.length_toList]; omega), List.getElem?_append_right (by simp only [List.length_take, Array.length_toList]; omega)] at hx
            have hq : n * i.size + j - (List.take (n * i.size) arr.toList).length = j := by simp only [List.length_take, Array.length_toList]; omega
            rw [hq] at hx
            exact hnr j x v hx hv
      · have holds : ∀ (j : Nat) (v : Value), ((List.range (n * i.size)).map fun j => arr.getD j undef)[j]? = some v → w.cell? (ad0.add j) = some v := by
          intro j v hv
          simp only [List.getElem?_map, Option.map_eq_some_iff] at hv
          obtain ⟨k, hk, rfl⟩ := hv
          have hj : j < n * i.size := by have := (List.getElem?_eq_some_iff.1 hk).1; simpa using this
          rw [List.getElem?_range hj] at hk
          cases hk
          rw [had' (by omega), add_none, Nat.zero_add]
          simp only [World.cell?, g1, Option.isSome_none, Bool.false_eq_true, if_false]
          exact hget j hj
        have hol : ((List.range (n * i.size)).map fun j => arr.getD j undef).length = n * i.size := by simp
        have hrun := run_append_grow (P := P) w t o.type e i z hu hi hz ad0 n cap _ hol holds ad m c news hnl hnews (by omega) (by omega) (growslice_fits (by omega) hby')
        refine grown _ _ n m cap news [l] hol htl hnl hyl hm (by omega) (fun j x v hx hv => ?_) hnr (by rw [hS, hX]; exact hrun) ha
        have hj : j < n * i.size := by have := (List.getElem?_eq_some_iff.1 hv).1; omega
        rw [List.getElem?_take_of_lt hj] at hv
        simp only [List.getElem?_map, List.getElem?_range hj, Option.map_some, Option.some.injEq] at hx
        subst hx
        exact g4 j _ v (hget j hj) hv
end
section
variable {P : Program} {E : Env} {w0 w : World} {I0 : IMap} {nt : Nat} {γ : Nat → Option Place} {I : IMap} {st : St} {a : Act} {o : Oper} {ub : Nat} {δ : Delta}
/-- A row that is written into. -/
theorem splice_obj {ob : Nat → Option Obj'} {hp : Array Obj} {k : Kd} {arr : Array Value} {e : TypeId} {cs vs : List V} {vals : List Value} {off : Nat} (m2 : arr.size = k.size) (m4 : cs.length ≤ k.size)
    (m3 : ∀ (j : Nat) (x : Value) (v : V), arr[j]? = some x → cs[j]? = some v → v.leaf = true ∧ Rep γ I x v) (hl : vals.length = vs.length) (hfit : off + vs.length ≤ cs.length)
    (hv : ∀ (j : Nat) (x : Value) (v : V), vals[j]? = some x → vs[j]? = some v → v.leaf = true ∧ Rep γ I x v) :
    ObjOk γ I ob hp k (some (.cells (arr.toList.take off ++ vals ++ arr.toList.drop (off + vals.length)).toArray e (0, 0))) (.cells (splice cs off vs)) := by
  refine ⟨_, e, rfl, ?_, by rw [splice_length _ _ _ (by omega)]; exact m4, ?_⟩
  · simp only [List.size_toArray, List.length_append, List.length_take, List.length_drop, Array.length_toList]
    omega
  · intro j x v hx hv'
    rw [splice_get _ _ _ (by omega)] at hv'
    simp only [List.getElem?_toArray] at hx
    by_cases hj : off ≤ j ∧ j < off + vs.length
    · rw [if_pos hj] at hv'
      rw [List.getElem?_append_left (by simp only [List.length_append, List.length_take, Array.length_toList]; omega), List.getElem?_append_right (by simp only [List.length_take, Array.length_toList]; omega)] at hx
      have hq : j - (List.take off arr.toList).length = j - off := by simp only [List.length_take, Array.length_toList]; omega
      rw [hq] at hx
      exact hv (j - off) x v hx hv'
    · rw [if_neg hj] at hv'
      refine m3 j x v ?_ hv'
      by_cases h1 : j < off
      · rw [List.append_assoc, List.getElem?_append_left (by simp only [List.length_take, Array.length_toList]; omega), List.getElem?_take_of_lt h1] at hx
        simpa using hx
      · rw [List.getElem?_append_right (by simp only [List.length_append, List.length_take, Array.length_toList]; omega), List.getElem?_drop] at hx
        have hq : off + vals.length + (j - (List.take off arr.toList ++ vals).length) = j := by
          simp only [List.length_append, List.length_take, Array.length_toList]
          omega
        rw [hq] at hx
        simpa using hx
/-- Cells are written into a slice that is an object. -/
theorem storeSl {l u off n sz : Nat} {cs vs : List V} {vals : List Value} {b : Nat} {kb : Kd} {ad : Addr} {cap : Nat} (hR : R E w0 I0 nt γ I st a w) {B : OBody} (hob : st.ob l = some ⟨u, B⟩) (hB : B.Row cs) (hu : γ u = some (.obj b kb))
    (had : 0 < cap → ad = ⟨b, off, none⟩ ∧ off + cap * sz ≤ kb.size) (hc : n ≤ cap) (hl : vals.length = vs.length) (hfit : off + vs.length ≤ cs.length) (hn : vs.length ≤ n * sz)
    (hv : ∀ (j : Nat) (x : Value) (v : V), vals[j]? = some x → vs[j]? = some v → v.leaf = true ∧ Rep γ I x v) :
    ∃ w', (storeCells ad vals).run P w = .ok () w' ∧ ∀ b' k, γ u = some (.obj b' k) → b' < w.heap.size → (w'.os = w.os ∧ w'.tape = w.tape ∧ w'.output = w.output ∧ w'.heap.size = w.heap.size ∧ (∀ k, k ≠ b' → w'.heap[k]? = w.heap[k]?) ∧
      ObjOk γ I st.ob w.heap k w'.heap[b']? (.cells (splice cs off vs))) := by
  obtain ⟨arr, e, m1, m2, m4, m3⟩ := obj_row hR hob hB hu
  cases hvl : vals with
  | nil =>
    rw [hvl] at hl hv
    have hvs : vs = [] := List.eq_nil_of_length_eq_zero hl.symm
    subst hvs
    refine ⟨w, rfl, fun b' k hb' hlt => ?_⟩
    rw [hu] at hb'
    cases hb'
    refine ⟨rfl, rfl, rfl, rfl, fun _ _ => rfl, ?_⟩
    have := splice_obj (ob := st.ob) (hp := w.heap) (e := e) (vs := []) (vals := []) m2 m4 m3 rfl hfit hv
    simp only [List.append_nil, List.length_nil, Nat.add_zero, List.take_append_drop, Array.toArray_toList] at this
    rw [m1]
    exact this
  | cons v0 vr =>
    rw [← hvl]
    have hpos : 0 < vs.length := by rw [← hl, hvl]; simp
    have hn0 : 0 < n := by
      rcases Nat.eq_zero_or_pos n with h | h
      · subst h; simp only [Nat.zero_mul] at hn; omega
      · exact h
    obtain ⟨rfl, _⟩ := had (by omega)
    have hone : ∀ v ∈ vals, v.oneCell' = true := by
      intro v hv'
      obtain ⟨j, hj, rfl⟩ := List.mem_iff_getElem.1 hv'
      have hq : vs[j]? = some (vs[j]'(by omega)) := List.getElem?_eq_getElem _
      obtain ⟨l1, l2⟩ := hv j _ _ (List.getElem?_eq_getElem hj) hq
      exact l2.oneCell l1
    have hst := run_storeCells_at P b off e vals 0 arr w m1 (by simp only [Nat.add_zero]; omega) hone
    simp only [Nat.add_zero] at hst
    refine ⟨_, hst, fun b' k hb' hlt => ?_⟩
    rw [hu] at hb'
    cases hb'
    refine ⟨rfl, rfl, rfl, by simp, fun k hk => setRow_other w b k _ hk, ?_⟩
    rw [setRow_heap w b arr _ e _ m1]
    exact splice_obj m2 m4 m3 hl hfit hv
theorem ok_copy (hR : R E w0 I0 nt γ I st a w) (hd : ∀ d, o.dst = some d → d < nt) {t e : TypeId} {s x : Operand} {s' x' : A} {sz : Nat} {ats : Array TypeId} (ho : o.op = .call { callee := .builtin .copy, args := #[s, x], argTypes := ats })
    (ht : ats[0]? = some t) (hs : opd s = some s') (hx : opd x = some x') (hu : P.underlying t = some (.slice e)) (hi : szOf P e = some sz)
    (ha : ((slCells st.ob sz (eval E st.tm x')).bind fun ys => match eval E st.tm s' with
      | .osl l u off n sz' => if Nat.ble st.ro u = true ∧ sz' = sz ∧ 0 < sz ∧ ys.all V.leaf = true then (objCells st.ob l u).bind fun cs =>
        if off + n * sz ≤ cs.length then some { v := V.int .i64 (Nat.min (ys.length / sz) n : Nat), obs := [(l, ⟨u, .cells (splice cs off (ys.take (Nat.min (ys.length / sz) n * sz)))⟩)] } else none else none
      | .sl _ _ 0 [] => one (.int .i64 0)
      | _ => none) = some δ) : OpOk P E w0 I0 nt γ I st a w o ub δ := by
  have hrs := eval_rep hR hs
  have hrx := eval_rep hR hx
  have hexec : ∀ (v : Value) (w' : World), (Builtin.copy_ ats o.type #[a.eval s, a.eval x]).run P w = .ok v w' → (execOp a.eval o).run P w = .ok (.value v) w' := by
    intro v w' h
    simp only [execOp, ho, resolve, Sem.run_bind, Sem.run_pure, Result.andThen_ok, invoke, builtin, List.map_toArray, List.map_cons, List.map_nil, h]
  obtain ⟨ys, hys, ha⟩ := bind_some ha
  split at ha
  · rename_i l u off n sz' he
    rw [he] at hrs
    split at ha
    case isFalse => cases ha
    rename_i hcond
    obtain ⟨hro, hsz, hs0, hp⟩ := hcond
    subst hsz
    obtain ⟨cs, hcs, ha⟩ := bind_some ha
    split at ha
    case isFalse => cases ha
    rename_i hle
    obtain ⟨b, kb, ad0, cap, hγ, hS, had, hc, hcm⟩ := inv_osl hrs
    obtain ⟨B, hob, hB⟩ := objCells_inv hcs
    rcases sl_rowL hR hrx hys hp hs0 with ⟨hX, hnil⟩ | ⟨ad, m, c, news, hX, hmc, hyl, hnl, hnews, hnr, hn1⟩
    · subst hnil
      obtain ⟨w', hst, hw'⟩ := storeSl (P := P) (n := n) (vs := []) (vals := []) hR hob hB hγ had hc rfl (by simp only [List.length_nil]; omega) (Nat.zero_le _) (fun j x v h => by simp at h)
      have h0 : Nat.min ([] : List V).length n = 0 := by simp
      have hz : Nat.min (([] : List V).length / sz') n = 0 := by simp
      refine set_ok hR hd hob hro (body' := .cells _) (x := .int .i64 (Nat.min (([] : List V).length / sz') n : Nat)) (.inl (hexec _ w' ?_)) (.pure _ _ (.int _ _)) (fun v es h => by cases h) ?_ ha
      · rw [hS, hX, hz]
        have hm : Nat.min 0 n = 0 := by simp
        simp only [Builtin.copy_, ht, List.getElem?_toArray, List.getElem?_cons_zero, List.getElem?_cons_succ, Sem.run_bind, run_underlying hu, Result.andThen_ok, Builtin.lenOf, Sem.run_pure, run_sizeOf hi, run_firstCells_none, hm, hst, goInt]
      · rw [List.take_nil]; exact hw'
    · have hm : ys.length / sz' = m := by rw [hyl]; exact Nat.mul_div_cancel _ hs0
      rw [hm] at ha
      have hmn : Nat.min m n ≤ m := Nat.min_le_left _ _
      have hmn2 : Nat.min m n ≤ n := Nat.min_le_right _ _
      have hlt : Nat.min m n * sz' ≤ m * sz' := Nat.mul_le_mul_right _ hmn
      have hlt2 : Nat.min m n * sz' ≤ n * sz' := Nat.mul_le_mul_right _ hmn2
      have hyt : (ys.take (Nat.min m n * sz')).length = Nat.min m n * sz' := by rw [List.length_take]; omega
      have hnt : (news.take (Nat.min m n * sz')).length = Nat.min m n * sz' := by rw [List.length_take]; omega
      obtain ⟨w', hst, hw'⟩ := storeSl (P := P) (n := n) (vs := ys.take (Nat.min m n * sz')) (vals := news.take (Nat.min m n * sz')) hR hob hB hγ had hc (by omega) (by omega) (by omega) (fun j x v hx hv => by
        have hj : j < Nat.min m n * sz' := by have := (List.getElem?_eq_some_iff.1 hv).1; omega
        rw [List.getElem?_take_of_lt hj] at hx hv
        exact ⟨List.all_eq_true.1 hp v (List.mem_of_getElem? hv), hnr j x v hx hv⟩)
      refine set_ok hR hd hob hro (body' := .cells _) (x := .int .i64 (Nat.min m n : Nat)) (.inl (hexec _ w' ?_)) (.pure _ _ (.int _ _)) (fun v es h => by cases h) hw' ha
      rw [hS, hX]
      have hf := run_firstCells_some (P := P) w sz' (Nat.min m n) ad m c (news.take (Nat.min m n * sz')) hnt (fun j v hv => by
        have hj : j < Nat.min m n * sz' := by have := (List.getElem?_eq_some_iff.1 hv).1; omega
        rw [List.getElem?_take_of_lt hj] at hv
        exact hnews j v hv)
      simp only [Builtin.copy_, ht, List.getElem?_toArray, List.getElem?_cons_zero, List.getElem?_cons_succ, Sem.run_bind, run_underlying hu, Result.andThen_ok, Builtin.lenOf, Sem.run_pure, run_sizeOf hi, hf, hst, goInt]
  · rename_i t0 nl he
    rw [he] at hrs
    have hX : ∃ m, (Builtin.lenOf (a.eval x)).run P w = .ok m w := by
      unfold slCells at hys
      split at hys
      · rename_i hxe
        rw [hxe] at hrx
        rcases inv_sl hrx with ⟨h, _⟩ | ⟨_, _, _, h, _⟩ <;> rw [h] <;> exact ⟨_, rfl⟩
      · rename_i hxe
        rw [hxe] at hrx
        obtain ⟨_, _, _, _, _, h, _⟩ := inv_osl hrx
        rw [h]
        exact ⟨_, rfl⟩
      · cases hys
    obtain ⟨m, hm⟩ := hX
    have hX2 : (∃ n c, a.eval x = .slice none n c) ∨ ∃ ad n c, a.eval x = .slice (some ad) n c := by
      unfold slCells at hys
      split at hys
      · rename_i hxe
        rw [hxe] at hrx
        rcases inv_sl hrx with ⟨h, _⟩ | ⟨_, _, _, h, _⟩
        · exact .inl ⟨_, _, h⟩
        · exact .inr ⟨_, _, _, h⟩
      · rename_i hxe
        rw [hxe] at hrx
        obtain ⟨_, _, _, _, _, h, _⟩ := inv_osl hrx
        exact .inr ⟨_, _, _, h⟩
      · cases hys
    have hS : ∃ ad0 cap, a.eval s = .slice ad0 0 cap := by
      rcases inv_sl hrs with ⟨h, _⟩ | ⟨ad, cap, _, h, _⟩
      · exact ⟨_, _, h⟩
      · exact ⟨_, _, h⟩
    obtain ⟨ad0, cap, hS⟩ := hS
    have hf : (Builtin.firstCells sz 0 (a.eval x)).run P w = .ok #[] w := by
      rcases hX2 with ⟨n, c, h⟩ | ⟨ad, n, c, h⟩
      · rw [h]; exact run_firstCells_none w sz 0 n c
      · rw [h]; exact run_firstCells_some w sz 0 ad n c [] (by simp) (fun j v h => by simp at h)
    refine val_ok hR hd (x := .int .i64 0) (hexec _ _ ?_) (.pure _ _ (.int _ _)) ha
    have hz : Nat.min m 0 = 0 := by simp
    have hg : ((0 : Nat) : Int) = 0 := rfl
    cases ad0 <;> simp only [Builtin.copy_, ht, hS, List.getElem?_toArray, List.getElem?_cons_zero, List.getElem?_cons_succ, Sem.run_bind, run_underlying hu, Result.andThen_ok, hm, Sem.run_pure, run_sizeOf hi, hz, hf, goInt, storeCells, hg]
  · cases ha
theorem ok_clear (hR : R E w0 I0 nt γ I st a w) (hd : ∀ d, o.dst = some d → d < nt) {t e : TypeId} {s : Operand} {s' : A} {sz : Nat} {zs : List V} {ats : Array TypeId} (ho : o.op = .call { callee := .builtin .clear, args := #[s], argTypes := ats })
    (ht : ats[0]? = some t) (hs : opd s = some s') (hu : P.underlying t = some (.slice e)) (hz : zeroOf P e = some zs)
    (ha : (match eval E st.tm s' with
      | .osl l u off n sz' => if Nat.ble st.ro u = true ∧ sz' = sz ∧ zs.length = sz then (objCells st.ob l u).bind fun cs =>
        if off + n * sz ≤ cs.length then some { v := none', obs := [(l, ⟨u, .cells (splice cs off (repl n zs))⟩)] } else none else none
      | .sl _ _ 0 [] => one none'
      | _ => none) = some δ) : OpOk P E w0 I0 nt γ I st a w o ub δ := by
  have hrs := eval_rep hR hs
  have hexec : ∀ (v : Value) (w' : World), (Builtin.clear_ ats o.type #[a.eval s]).run P w = .ok v w' → (execOp a.eval o).run P w = .ok (.value v) w' := by
    intro v w' h
    simp only [execOp, ho, resolve, Sem.run_bind, Sem.run_pure, Result.andThen_ok, invoke, builtin, List.map_toArray, List.map_cons, List.map_nil, h]
  obtain ⟨i, z, hi, hz1, hlen, hcells⟩ := zeroOf_inv (I := I) hz
  split at ha
  · rename_i l u off n sz' he
    rw [he] at hrs
    split at ha
    case isFalse => cases ha
    rename_i hcond
    obtain ⟨hro, hsz, hzl⟩ := hcond
    subst hsz
    subst hzl
    obtain ⟨cs, hcs, ha⟩ := bind_some ha
    split at ha
    case isFalse => cases ha
    rename_i hle
    obtain ⟨b, kb, ad0, cap, hγ, hS, had, hc, hcm⟩ := inv_osl hrs
    obtain ⟨B, hob, hB⟩ := objCells_inv hcs
    have hrl : (repl n zs).length = n * zs.length := by simp [repl]
    obtain ⟨w', hst, hw'⟩ := storeSl (P := P) (n := n) (vs := repl n zs) (vals := (Builtin.zeroCells z.cells n).toList) hR hob hB hγ had hc (by simp [Builtin.zeroCells, hrl, hlen]) (by omega) (by omega) (fun j x v hx hv => by
      have hpos : n * zs.length = 0 ∨ 0 < zs.length := by
        rcases Nat.eq_zero_or_pos zs.length with h | h
        · exact .inl (by rw [h, Nat.mul_zero])
        · exact .inr h
      have := (repl_rep (γ := γ) (I := I) hlen hcells n hpos).2 j x v (by rw [hlen]; rw [Array.getElem?_toList] at hx; exact hx) hv
      exact this)
    refine set_ok hR hd hob hro (body' := .cells _) (x := .tuple #[]) (.inl (hexec _ w' ?_)) (.tup _ _ rfl (by simp)) (fun v es h => by cases h) hw' ha
    rw [hS]
    simp only [Builtin.clear_, ht, List.getElem?_toArray, List.getElem?_cons_zero, Sem.run_bind, run_underlying hu, Result.andThen_ok]
    cases n with
    | zero =>
      have : w' = w := by
        have hzz : (Builtin.zeroCells z.cells 0).toList = [] := by simp [Builtin.zeroCells]
        rw [hzz] at hst
        simp only [storeCells, Sem.run_pure, Result.ok.injEq, true_and] at hst
        exact hst.symm
      rw [this]
      rfl
    | succ n => simp only [Sem.run_bind, run_zeroValue hi hz1, Result.andThen_ok, hst, Sem.run_pure]
  · rename_i t0 nl he
    rw [he] at hrs
    refine val_ok hR hd (x := .tuple #[]) (hexec _ _ ?_) (.tup _ _ rfl (by simp)) ha
    rcases inv_sl hrs with ⟨h, _⟩ | ⟨ad, cap, _, h, _⟩ <;>
      simp only [Builtin.clear_, ht, h, List.getElem?_toArray, List.getElem?_cons_zero, Sem.run_bind, run_underlying hu, Result.andThen_ok, Sem.run_pure]
  · cases ha
end
section
variable {P : Program} {E : Env} {w0 w : World} {I0 : IMap} {nt : Nat} {γ : Nat → Option Place} {I : IMap} {st : St} {a : Act} {o : Oper} {ub : Nat} {δ : Delta}
def extFn : ExtK → Array Value → Sem Value
  | .count => Extern.BytealgCount.count
  | .indexByte => Extern.BytealgIndexByte.indexByte
  | .same => Extern.AbiNoEscape.same
theorem extOf_inv {f : FuncId} {k : ExtK} (h : extOf P f = some k) : ∃ fn, P.funcs[f]? = some fn ∧ fn.body.isNone = true ∧ (fn.name == "runtime.NumGoroutine") = false ∧
    Extern.findNext fn = none ∧ Extern.find fn = some (extFn k) := by
  unfold extOf at h
  obtain ⟨fn, hfn, h⟩ := bind_some h
  split at h
  · cases h
  · rename_i hb
    have hb1 : fn.body.isNone = true := by
      cases hbb : fn.body with
      | none => rfl
      | some c => exact absurd (.inl (by rw [hbb]; rfl)) hb
    have ho : fn.origin = "" := Classical.byContradiction fun e => hb (.inr e)
    split at h
    · rename_i hn
      cases h
      exact ⟨fn, hfn, hb1, by rw [hn]; rfl, ext_find ho (.inl ⟨hn, rfl⟩)⟩
    · split at h
      · rename_i hn
        cases h
        exact ⟨fn, hfn, hb1, by rw [hn]; rfl, ext_find ho (.inr (.inl ⟨hn, rfl⟩))⟩
      · split at h
        · rename_i hn
          cases h
          exact ⟨fn, hfn, hb1, by rw [hn]; rfl, ext_find ho (.inr (.inr ⟨hn, rfl⟩))⟩
        · cases h
theorem ok_ext (hR : R E w0 I0 nt γ I st a w) (hd : ∀ d, o.dst = some d → d < nt) {f : FuncId} {k : ExtK} {c : Call} {l : List A} (ho : o.op = .call c) (hcal : c.callee = .value (.func f)) (hl : opds c.args = some l) (hk : extOf P f = some k)
    (ha : extV k (l.map (eval E st.tm)) = some δ) : OpOk P E w0 I0 nt γ I st a w o ub δ := by
  obtain ⟨fn, hfn, hb, hn, h1, h2⟩ := extOf_inv hk
  obtain ⟨hs, hr⟩ := opds_rep hR hl
  have two : ∀ s c', l.map (eval E st.tm) = [.str s, .int .u8 c'] → ∃ bs : ByteArray, bs.data.toList = s ∧ ∀ x : Value,
      (extFn k #[.string bs, .int .u8 c']).run P w = .ok x w → (execOp a.eval o).run P w = .ok (.value x) w := by
    intro s c' he
    rw [he] at hs hr
    have hsz : (c.args.map a.eval).size = 2 := hs
    obtain ⟨bs, hb1, hb2⟩ := inv_str (hr 0 _ _ (Array.getElem?_eq_getElem (by omega)) rfl)
    have hb3 := inv_int (hr 1 _ _ (Array.getElem?_eq_getElem (by omega)) rfl)
    refine ⟨bs, hb2, fun x hrun => ?_⟩
    have hargs : c.args.map a.eval = #[.string bs, .int .u8 c'] := by
      apply Array.ext
      · simpa using hsz
      · intro j hj1 hj2
        match j with
        | 0 => exact hb1
        | 1 => exact hb3
        | j + 2 => exact absurd hj2 (by simp)
    have hcf := run_callFunc_extern (P := P) hfn hn hb h1 h2 (c.args.map a.eval) w
    simp only [execOp, ho, resolve, hcal, Act.eval, Deferred.ofValue, Sem.run_bind, Sem.run_pure, Result.andThen_ok, invoke, Array.empty_append, Array.append_empty]
    rw [hcf, hargs, hrun]
    rfl
  generalize hvs : l.map (eval E st.tm) = vs at ha two
  unfold extV at ha
  split at ha
  · rename_i v
    rw [hvs] at hs hr
    have hsz : (c.args.map a.eval).size = 1 := hs
    have h0 := hr 0 _ _ (Array.getElem?_eq_getElem (by omega)) rfl
    obtain ⟨X, hX⟩ : ∃ X, (c.args.map a.eval)[0]'(by omega) = X := ⟨_, rfl⟩
    rw [hX] at h0
    have hargs : c.args.map a.eval = #[X] := by
      apply Array.ext
      · simpa using hsz
      · intro j hj1 hj2
        match j with
        | 0 => exact hX
        | j + 1 => exact absurd hj2 (by simp)
    refine val_ok hR hd (x := X) ?_ h0 ha
    have hcf := run_callFunc_extern (P := P) hfn hn hb h1 h2 (c.args.map a.eval) w
    simp only [execOp, ho, resolve, hcal, Act.eval, Deferred.ofValue, Sem.run_bind, Sem.run_pure, Result.andThen_ok, invoke, Array.empty_append, Array.append_empty]
    rw [hcf, hargs]
    rfl
  · rename_i s c'
    obtain ⟨bs, hbs, hrun⟩ := two s c' rfl
    refine val_ok hR hd (x := .int .i64 (s.count c'.toNat.toUInt8 : Nat)) (hrun _ ?_) (.pure _ _ (.int _ _)) ha
    rw [← hbs]
    exact Lib.run_countString bs c' w
  · rename_i s c'
    obtain ⟨bs, hbs, hrun⟩ := two s c' rfl
    refine val_ok hR hd (x := .int .i64 (idxByte s c'.toNat.toUInt8)) (hrun _ ?_) (.pure _ _ (.int _ _)) ha
    rw [← hbs, idxByte_eq]
    exact Lib.run_indexByteString bs c' w
  · cases ha
theorem runesFrom_eq (s : ByteArray) : ∀ (b i : Nat) (acc : Array Value), Conv.runesFrom s b i acc = acc ++ ((runesL s.data.toList b i).map fun r => Value.int .i32 (Int.ofNat r)).toArray
  | 0, i, acc => by simp [Conv.runesFrom, runesL]
  | b + 1, i, acc => by
    unfold Conv.runesFrom runesL
    have hlen : s.data.toList.length = s.size := by simp
    rw [hlen]
    split
    · have hs : (⟨s.data.toList.toArray⟩ : ByteArray) = s := rfl
      rw [hs]
      generalize Utf8.decode s i = p
      obtain ⟨r, wd⟩ := p
      simp only [runesFrom_eq]
      simp
    · simp
theorem ok_runes (hR : R E w0 I0 nt γ I st a w) (hd : ∀ d, o.dst = some d → d < nt) (hf : γ ub = none) {s t e : TypeId} {x : Operand} {x' : A} (ho : o.op = .convert s t x) (hx : opd x = some x') (hs : P.underlying s = some .string) (hu : P.underlying t = some (.slice e)) (he : P.underlying e = some (.int .i32))
    (ha : (match eval E st.tm x' with
      | .str s => let rs := runesL s s.length 0
        if rs.length ≤ 70368744177664 then some { v := V.sl (some (ub, 1)) false rs.length (rs.map fun r => .int .i32 (r : Nat)), add := [ub] } else none
      | _ => none) = some δ) : OpOk P E w0 I0 nt γ I st a w o ub δ := by
  have hr := eval_rep hR hx
  split at ha
  · rename_i bs he'
    rw [he'] at hr
    obtain ⟨str, hx', rfl⟩ := inv_str hr
    have hlen : str.data.toList.length = str.size := by simp
    rw [hlen] at ha
    simp only at ha
    generalize hrs : runesL str.data.toList str.size 0 = rs at ha
    have hrf : Conv.runesFrom str str.size 0 #[] = (rs.map fun r => Value.int .i32 (Int.ofNat r)).toArray := by rw [runesFrom_eq, hrs]; simp
    have hsz : (Conv.runesFrom str str.size 0 #[]).size = rs.length := by rw [hrf]; simp
    split at ha
    · rename_i hle
      have hrun := run_runes_of_string (P := P) w s t e str hs hu he (by rw [hsz]; exact hle)
      rw [hsz] at hrun
      have hge := grownCap_ge w rs.length 0 e
      have hcm := grownCap_le_maxLen w rs.length 0 e (by simp only [maxLen]; omega)
      refine tok_ok hR hd hf (b := w.heap.size) (n := rs.length) (cap := grownCap w rs.length 0 e) (sz := 1) (cs := rs.map fun r => V.int .i32 (r : Nat)) (w' := w.drew.alloc _) (del := none)
        (arr := Conv.runesFrom str str.size 0 #[] ++ Array.replicate (grownCap w rs.length 0 e - rs.length) (.int .i32 0)) (e := e) ?_ (.inl ⟨rfl, by simp⟩) ⟨rfl, rfl, rfl⟩
        (fun k hk _ => heap_alloc_old w.drew _ k hk) (heap_alloc_new w.drew _) (by simp only [Array.size_append, hsz, Array.size_replicate, Nat.mul_one]; omega) hge hcm (fun j y hy => ?_) (by simp) (fun j v hv => ?_) ha
      · simp only [execOp, ho, hx', Sem.run_bind, hrun, Result.andThen_ok, Sem.run_pure]
      · exact absurd (World.block_lt_of_cell? _ _ (hR.imm _ _ _ hy)) (Nat.lt_irrefl _)
      · simp only [List.getElem?_map, Option.map_eq_some_iff] at hv
        obtain ⟨r, hr', rfl⟩ := hv
        refine ⟨rfl, .int .i32 r, ?_, .int _ _⟩
        have hj : j < rs.length := (List.getElem?_eq_some_iff.1 hr').1
        rw [Array.getElem?_append_left (by rw [hsz]; exact hj), hrf]
        simp [hr']
    · cases ha
  · cases ha
end
section
variable {P : Program} {E : Env} {w0 w : World} {I0 : IMap} {nt : Nat} {γ : Nat → Option Place} {I : IMap} {st : St} {a : Act} {o : Oper} {ub : Nat} {δ : Delta}
theorem ok_rangeMap (hR : R E w0 I0 nt γ I st a w) (hd : ∀ d, o.dst = some d → d < nt) (hf : γ ub = none) {t kt e : TypeId} {x : Operand} {x' : A} {d : Nat} (ho : o.op = .range t x) (hx : opd x = some x') (hu : P.underlying t = some (.map kt e))
    (ha : (match eval E st.tm x' with
      | .nilmap => mkObj d ub .nomap (.iter d ub)
      | .map l u => (objMap st.ob l u).bind fun es => mkObj d ub (.miter l u (objVer st.ob l) es none) (.iter d ub)
      | _ => none) = some δ) : OpOk P E w0 I0 nt γ I st a w o ub δ := by
  have hr := eval_rep hR hx
  split at ha
  · rename_i he
    rw [he] at hr
    have hx' := inv_nilmap hr
    refine alloc_ok hR hd hf (x := .pointer (some ⟨w.heap.size, 0, none⟩)) (obj := .mapIter none 0 #[] 0) (body := .nomap) (k := .n 0) ?_ rfl (fun γ' h => .iter _ _ _ _ h) ⟨_, _, _, rfl⟩ ha
    simp [execOp, ho, hx', Instr.range, run_underlying hu]
  · rename_i l u he
    rw [he] at hr
    obtain ⟨b, kb, hγ, hx'⟩ := inv_map hr
    obtain ⟨es, hes, ha⟩ := bind_some ha
    have hob := objMap_inv hes
    obtain ⟨M, clock, h1, h2, h3, hnd, hltc⟩ := obj_map hR hob hγ
    refine alloc_ok hR hd hf (x := .pointer (some ⟨w.heap.size, 0, none⟩)) (obj := .mapIter (some b) clock #[] clock) (k := .n 0) ?_ rfl (fun γ' h => .iter _ _ _ _ h) ?_ ha
    · simp [execOp, ho, hx', Instr.range, run_underlying hu, run_getMap h1]
    · refine ⟨b, kb, clock, #[], clock, rfl, hγ, fun ver' es' he' => ?_⟩
      rw [hob] at he'
      simp only [Option.some.injEq, Obj'.mk.injEq, OBody.mp.injEq, true_and] at he'
      obtain ⟨rfl, rfl⟩ := he'
      refine ⟨Nat.le_refl _, fun _ => ⟨M, h1, hltc, Nat.le_refl _, ?_, fun k v h => by cases h⟩⟩
      have : (M.toList.filter fun e => !(#[] : Array Nat).contains e.born) = M.toList := List.filter_eq_self.2 (fun e _ => by simp)
      rw [this]
      exact ⟨by simpa using h2, fun j e k v he hk => h3 j e k v (by simpa using he) hk⟩
  · cases ha
theorem run_mapNext (n : Nat) : (choose (.mapNext n)).run P w = if n ≤ 1 then .ok 0 w else .ok (w.tape w.drawn (.mapNext n) % n) w.drew := by
  by_cases h : n ≤ 1 <;> simp [choose, Sem.run, Question.forced, Question.cut, h]
theorem nodup_eq {m : List MapEntry} (hnd : (m.map (·.born)).Nodup) {e e' : MapEntry} (h1 : e ∈ m) (h2 : e' ∈ m) (h : e.born = e'.born) : e = e' := by
  obtain ⟨i, hi, rfl⟩ := List.mem_iff_getElem.1 h1
  obtain ⟨j, hj, rfl⟩ := List.mem_iff_getElem.1 h2
  have : i = j := (List.getElem_inj (xs := m.map (·.born)) (h₀ := by simpa using hi) (h₁ := by simpa using hj) hnd).1 (by simpa using h)
  subst this
  rfl
theorem filter_push (m : List MapEntry) (hnd : (m.map (·.born)).Nodup) (seen : Array Nat) (j : Nat) (e : MapEntry) (he : (m.filter fun e => !seen.contains e.born)[j]? = some e) :
    (m.filter fun e' => !(seen.push e.born).contains e'.born) = (m.filter fun e => !seen.contains e.born).eraseIdx j := by
  have hmem : e ∈ m := (List.mem_filter.1 (List.mem_of_getElem? he)).1
  have h1 : (m.filter fun e' => !(seen.push e.born).contains e'.born) = (m.filter fun e => !seen.contains e.born).filter fun e' => !(e'.born == e.born) := by
    rw [List.filter_filter]
    refine List.filter_congr fun x _ => ?_
    have : (seen.push e.born).contains x.born = (seen.contains x.born || (x.born == e.born)) := by
      rw [Array.contains_push]
    rw [this, Bool.not_or, Bool.and_comm]
  rw [h1]
  have hnd2 : ((m.filter fun e => !seen.contains e.born).map (·.born)).Nodup := (List.filter_sublist.map _).nodup hnd
  generalize m.filter (fun e => !seen.contains e.born) = L at he hnd2
  clear h1 hmem hnd
  induction L generalizing j with
  | nil => simp at he
  | cons x L ih =>
    simp only [List.map_cons, List.nodup_cons] at hnd2
    cases j with
    | zero =>
      simp only [List.getElem?_cons_zero, Option.some.injEq] at he
      subst he
      simp only [List.filter_cons, beq_self_eq_true, Bool.not_true, Bool.false_eq_true, if_false, List.eraseIdx_cons_zero]
      refine List.filter_eq_self.2 fun y hy => ?_
      have : y.born ≠ x.born := fun e => hnd2.1 (List.mem_map.2 ⟨y, hy, e⟩)
      simpa using this
    | succ j =>
      simp only [List.getElem?_cons_succ] at he
      have hne : x.born ≠ e.born := fun h => hnd2.1 (List.mem_map.2 ⟨e, List.mem_of_getElem? he, h.symm⟩)
      have : (x.born == e.born) = false := by simpa using hne
      simp only [List.filter_cons, this, Bool.not_false, if_true, List.eraseIdx_cons_succ, ih j he hnd2.2]
theorem mem_picks (l u l' u' ver : Nat) : ∀ (r pre : List (V × V)) (j : Nat) (k v : V), r[j]? = some (k, v) →
    ({ v := .tup [.bool true, k, v], obs := [(l, ⟨u, .miter l' u' ver (pre ++ r.eraseIdx j) (some (k, v))⟩)] } : Delta) ∈ picks l u l' u' ver pre r
  | [], pre, j, k, v, h => by simp at h
  | (k0, v0) :: r, pre, 0, k, v, h => by
    simp only [List.getElem?_cons_zero, Option.some.injEq, Prod.mk.injEq] at h
    obtain ⟨rfl, rfl⟩ := h
    exact List.mem_cons_self ..
  | (k0, v0) :: r, pre, j + 1, k, v, h => by
    simp only [List.getElem?_cons_succ] at h
    have := mem_picks l u l' u' ver r (pre ++ [(k0, v0)]) j k v h
    rw [List.append_assoc] at this
    exact List.mem_cons_of_mem _ this
theorem EntsOk.erase {L : List MapEntry} {es : List (V × V)} (h : EntsOk γ I L es) (j : Nat) : EntsOk γ I (L.eraseIdx j) (es.eraseIdx j) := by
  refine ⟨?_, fun i e k v he hk => ?_⟩
  · rw [List.length_eraseIdx, List.length_eraseIdx, h.1]
  · rw [eraseIdx_get] at he hk
    split at he
    · rename_i hi
      rw [if_pos hi] at hk
      exact h.2 i e k v he hk
    · rename_i hi
      rw [if_neg hi] at hk
      exact h.2 (i + 1) e k v he hk
theorem ok_nextMap (hR : R E w0 I0 nt γ I st a w) (hd : ∀ d, o.dst = some d → d < nt) {x : Operand} {x' : A} {l : List Delta} (ho : o.op = .next x false) (hx : opd x = some x')
    (ha : nextL st.ob st.ro (eval E st.tm x') = some l) : ∃ δ ∈ l, OpOk P E w0 I0 nt γ I st a w o ub δ := by
  have hr := eval_rep hR hx
  unfold nextL at ha
  split at ha
  case h_2 => cases ha
  rename_i lb u he
  rw [he] at hr
  obtain ⟨b, kb, hγ, hx'⟩ := inv_iter hr
  have hover : Rep γ I (.tuple #[.bool false]) (.tup [.bool false]) := by
    refine .tup _ _ rfl (fun j y v hy hv => ?_)
    match j with
    | 0 => simp at hy hv; subst hy; subst hv; exact .pure _ _ (.bool _)
    | j + 1 => simp at hv
  obtain ⟨Ω, hown⟩ := hR.own
  split at ha
  case h_3 => cases ha
  case h_2 =>
    rename_i u0 hob
    split at ha
    case isFalse => cases ha
    rename_i huu
    subst huu
    cases ha
    obtain ⟨b', kb', k1, k2, k3, ⟨since, seen, stepped, hbs⟩, k5⟩ := hown.ob lb _ hob
    rw [hγ] at k1
    cases k1
    have hg : (getObj b).run P w = .ok (.mapIter none since seen stepped) w := by simp [getObj, Sem.run, hbs]
    refine ⟨_, List.mem_singleton.2 rfl, val_ok hR hd (x := .tuple #[.bool false]) ?_ hover rfl⟩
    simp only [execOp, ho, hx', Instr.next, Sem.run_bind, hg, Result.andThen_ok, Sem.run_pure]
  rename_i u0 l' u' ver left last hob
  split at ha
  case isFalse => cases ha
  rename_i hcond
  obtain ⟨hro, huu, hsome, hver⟩ := hcond
  subst huu
  obtain ⟨b', kb', k1, k2, k3, ⟨mb, mk, since, seen, stepped, hbs, hγm, hall⟩, k5⟩ := hown.ob lb _ hob
  rw [hγ] at k1
  cases k1
  obtain ⟨es', hes'⟩ := Option.isSome_iff_exists.1 hsome
  have hob' := objMap_inv hes'
  rw [hver] at hob'
  obtain ⟨_, himp⟩ := hall _ _ hob'
  obtain ⟨m, hm, hborn, hle, hents, hlast⟩ := himp rfl
  obtain ⟨M, clock, g1, g2, g3, hnd, hltc⟩ := obj_map hR hob' hγm
  rw [hm] at g1
  simp only [Option.some.injEq, Obj.map.injEq] at g1
  obtain ⟨rfl, rfl⟩ := g1
  have hg : (getObj b).run P w = .ok (.mapIter (some mb) since seen stepped) w := by simp [getObj, Sem.run, hbs]
  have hgm : (getObj mb).run P w = .ok (.map m stepped) w := run_getMap hm
  have hlt := hown.lt _ _ k2
  have hset : ∀ (W : World) (y : Obj), W.heap = w.heap → (setObj b y).run P W = .ok () { W with heap := W.heap.setIfInBounds b y } := by
    intro W y hW
    have : W.heap[b]? = some (.mapIter (some mb) since seen stepped) := by rw [hW]; exact hbs
    simp [setObj, Sem.run, this]
  -- what may come next
  have hcnd : (!seen.isEmpty && !m.isEmpty && m.all (fun e => decide (e.born ≥ stepped))) = false := by
    cases hme : m.isEmpty with
    | true => simp
    | false =>
      have hne : 0 < m.size := by
        rcases Nat.eq_zero_or_pos m.size with h | h
        · rw [Array.isEmpty_iff_size_eq_zero.2 h] at hme; cases hme
        · exact h
      have : m.all (fun e => decide (e.born ≥ stepped)) = false := by
        rw [Bool.eq_false_iff]
        intro hall
        rw [Array.all_eq_true_iff_forall_mem] at hall
        have h1 := hall m[0] (Array.getElem_mem hne)
        have h2 := hborn m[0] (Array.getElem_mem hne)
        simp only [decide_eq_true_eq] at h1
        omega
      rw [this]; simp
  generalize hL : (m.filter fun e => !seen.contains e.born) = L
  have hLl : (m.toList.filter fun e => !seen.contains e.born) = L.toList := by rw [← hL, Array.toList_filter]
  rw [hLl] at hents
  have hold : (L.filter fun e => decide (e.born < since)) = L := by
    refine Array.filter_eq_self.2 fun e he => ?_
    rw [← hL] at he
    simpa using hborn e (Array.mem_filter.1 he).1
  have hnew : (L.filter fun e => decide (e.born ≥ since)) = #[] := by
    refine Array.filter_eq_empty_iff.2 fun e he => ?_
    rw [← hL] at he
    have := hborn e (Array.mem_filter.1 he).1
    simp only [decide_eq_true_eq]
    omega
  have hrun0 : ∀ r, ((do match ((if L.isEmpty then #[none] else #[]) ++ (L ++ #[]).map some : Array (Option MapEntry))[← choose (.mapNext ((if L.isEmpty then #[none] else #[]) ++ (L ++ #[]).map some : Array (Option MapEntry)).size)]? with
      | some (some e) =>
        setObj b (.mapIter (some mb) since (seen.push e.born) stepped)
        pure (.tuple #[.bool true, e.key, e.val])
      | some none => pure (.tuple #[.bool false])
      | none => stuck "Next: no such candidate") : Sem Value).run P w = r → (Instr.next (.pointer (some ⟨b, 0, none⟩)) false o.type).run P w = r := by
    intro r h
    rw [← h]
    simp only [Instr.next, Sem.run_bind, hg, hgm, Result.andThen_ok, hcnd, Bool.false_eq_true, if_false, hL, hold, hnew]
    rfl
  split at ha
  · cases ha
    have hl0 : L.toList = [] := List.eq_nil_of_length_eq_zero (by rw [hents.1]; rfl)
    have hL0 : L = #[] := by rw [← Array.toArray_toList (xs := L), hl0]
    refine ⟨_, List.mem_singleton.2 rfl, val_ok hR hd (x := .tuple #[.bool false]) ?_ hover rfl⟩
    have := hrun0 (.ok (.tuple #[.bool false]) w) (by
      subst hL0
      simp only [List.isEmpty_toArray, List.isEmpty_nil, if_true, Array.append_empty, List.map_toArray, List.map_nil, List.size_toArray, List.length_cons, List.length_nil, Nat.zero_add, Sem.run_bind, run_mapNext, Nat.le_refl, Result.andThen_ok, List.getElem?_toArray, List.getElem?_cons_zero, Sem.run_pure])
    simp only [execOp, ho, hx', Sem.run_bind, this, Result.andThen_ok, Sem.run_pure]
  · rename_i es hne
    cases ha
    have hpos : 0 < left.length := List.length_pos_iff.2 hne
    have hsz : L.size = left.length := by rw [← hents.1, Array.length_toList]
    have hie : L.isEmpty = false := by
      rw [Bool.eq_false_iff]
      intro h
      have := Array.isEmpty_iff_size_eq_zero.1 h
      omega
    have hch : ∃ j W, (choose (.mapNext L.size)).run P w = .ok j W ∧ j < L.size ∧ (W = w ∨ W = w.drew) := by
      rw [run_mapNext]
      split
      · exact ⟨0, w, rfl, by omega, .inl rfl⟩
      · exact ⟨_, _, rfl, Nat.mod_lt _ (by omega), .inr rfl⟩
    obtain ⟨j, W, hc, hj, hW⟩ := hch
    have hWh : W.heap = w.heap := by rcases hW with rfl | rfl <;> rfl
    have hWo : W.os = w.os ∧ W.tape = w.tape ∧ W.output = w.output := by rcases hW with rfl | rfl <;> exact ⟨rfl, rfl, rfl⟩
    have hej : L.toList[j]? = some L[j] := by rw [Array.getElem?_toList, Array.getElem?_eq_getElem hj]
    have hlj : left[j]? = some (left[j]'(by omega)) := List.getElem?_eq_getElem _
    generalize hkv : left[j]'(by omega) = kv at hlj
    obtain ⟨k, v⟩ := kv
    generalize hE : L[j] = en at hej
    have hkr := hents.2 j en k v hej hlj
    have hrun := hrun0 (.ok (.tuple #[.bool true, en.key, en.val]) { W with heap := W.heap.setIfInBounds b (.mapIter (some mb) since (seen.push en.born) stepped) }) (by
      have hsz2 : (Array.map some L).size = L.size := Array.size_map
      have hget : (Array.map some L)[j]? = some (some en) := by rw [Array.getElem?_map, Array.getElem?_eq_getElem hj, hE]; rfl
      simp only [hie, Bool.false_eq_true, if_false, Array.append_empty, Array.empty_append, hsz2, Sem.run_bind, hc, Result.andThen_ok, hget, hset W _ hWh, Sem.run_pure])
    refine ⟨_, mem_picks lb u0 l' u' ver left [] j k v hlj, set_ok hR hd hob hro (body' := .miter l' u' ver ([] ++ left.eraseIdx j) (some (k, v))) (x := .tuple #[.bool true, en.key, en.val]) (w' := { W with heap := W.heap.setIfInBounds b (.mapIter (some mb) since (seen.push en.born) stepped) }) (.inl ?_) ?_ (fun v es h => by cases h) ?_ rfl⟩
    · simp only [execOp, ho, hx', Sem.run_bind, hrun, Result.andThen_ok, Sem.run_pure]
    · refine .tup _ _ rfl (fun i y q hy hq => ?_)
      match i with
      | 0 => simp at hy hq; subst hy; subst hq; exact .pure _ _ (.bool _)
      | 1 => simp at hy hq; subst hy; subst hq; exact .pure _ _ hkr.1
      | 2 => simp at hy hq; subst hy; subst hq; exact hkr.2
      | i + 3 => simp at hq
    · intro b2 k2' hb2 hlt2
      rw [hγ] at hb2
      cases hb2
      refine ⟨hWo.1, hWo.2.1, hWo.2.2, by simp [hWh], fun q hq => by show (W.heap.setIfInBounds b _)[q]? = _; rw [hWh]; exact heap_set_ne w b q _ hq, ?_⟩
      have hblk : ({ W with heap := W.heap.setIfInBounds b (.mapIter (some mb) since (seen.push en.born) stepped) } : World).heap[b]? = some (.mapIter (some mb) since (seen.push en.born) stepped) := by
        show (W.heap.setIfInBounds b _)[b]? = _
        rw [hWh]
        exact heap_set_same w b _ hlt
      rw [hblk]
      refine ⟨mb, mk, since, _, stepped, rfl, hγm, fun ver' es2 he2 => ?_⟩
      rw [hob'] at he2
      simp only [Option.some.injEq, Obj'.mk.injEq, OBody.mp.injEq, true_and] at he2
      obtain ⟨rfl, rfl⟩ := he2
      refine ⟨Nat.le_refl _, fun _ => ⟨m, hm, hborn, hle, ?_, fun k2 v2 hlast2 => ?_⟩⟩
      · rw [List.nil_append, filter_push m.toList hnd seen j en (by rw [hLl]; exact hej), hLl]
        exact hents.erase j
      · simp only [Option.some.injEq, Prod.mk.injEq] at hlast2
        obtain ⟨rfl, rfl⟩ := hlast2
        have hmem : en ∈ m.toList := by
          have := List.mem_of_getElem? hej
          rw [← hLl] at this
          exact (List.mem_filter.1 this).1
        refine ⟨en.born, en, by simp, ?_, hkr.1, hkr.2⟩
        cases hfd : m.find? (fun e => e.born == en.born) with
        | none =>
          have := Array.find?_eq_none.1 hfd en (by simpa using hmem)
          simp at this
        | some e2 =>
          have h1 := Array.mem_of_find?_eq_some hfd
          have h2 := Array.find?_some hfd
          have he2 : e2 = en := nodup_eq hnd (by simpa using h1) hmem (by simpa using h2)
          rw [he2]
theorem ok_entry (hR : R E w0 I0 nt γ I st a w) (hd : ∀ d, o.dst = some d → d < nt) {x : Operand} {x' : A} (ho : o.op = .entry x) (hx : opd x = some x')
    (ha : (match eval E st.tm x' with
      | .iter l u => match st.ob l with
        | some ⟨u', .miter l' u2 ver _ (some (k, v))⟩ => if u' = u ∧ (objMap st.ob l' u2).isSome = true ∧ objVer st.ob l' = ver then one (.tup [k, v]) else none
        | _ => none
      | _ => none) = some δ) : OpOk P E w0 I0 nt γ I st a w o ub δ := by
  have hr := eval_rep hR hx
  split at ha
  case h_2 => cases ha
  rename_i lb u he
  rw [he] at hr
  obtain ⟨b, kb, hγ, hx'⟩ := inv_iter hr
  obtain ⟨Ω, hown⟩ := hR.own
  split at ha
  case h_2 => cases ha
  rename_i u0 l' u' ver left k v hob
  split at ha
  case isFalse => cases ha
  rename_i hcond
  obtain ⟨huu, hsome, hver⟩ := hcond
  subst huu
  obtain ⟨b', kb', k1, k2, k3, ⟨mb, mk, since, seen, stepped, hbs, hγm, hall⟩, k5⟩ := hown.ob lb _ hob
  rw [hγ] at k1
  cases k1
  obtain ⟨es', hes'⟩ := Option.isSome_iff_exists.1 hsome
  have hob' := objMap_inv hes'
  rw [hver] at hob'
  obtain ⟨_, himp⟩ := hall _ _ hob'
  obtain ⟨m, hm, hborn, hle, hents, hlast⟩ := himp rfl
  obtain ⟨stamp, e, h1, h2, h3, h4⟩ := hlast k v rfl
  have hg : (getObj b).run P w = .ok (.mapIter (some mb) since seen stepped) w := by simp [getObj, Sem.run, hbs]
  have hgm : (getObj mb).run P w = .ok (.map m stepped) w := run_getMap hm
  refine val_ok hR hd (x := .tuple #[e.key, e.val]) ?_ ?_ ha
  · have hb : (stepped != stepped) = false := by simp
    simp only [execOp, ho, hx', Instr.entry, Sem.run_bind, hg, hgm, Result.andThen_ok, h1, hb, Bool.false_eq_true, if_false, h2, Sem.run_pure]
  · refine .tup _ _ rfl (fun i y q hy hq => ?_)
    match i with
    | 0 => simp at hy hq; subst hy; subst hq; exact .pure _ _ h3
    | 1 => simp at hy hq; subst hy; subst hq; exact h4
    | i + 2 => simp at hq
end
end Go.Pv
