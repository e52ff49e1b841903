/- Part of the proof. -/
import Derived.Test.YtkioopdogfmlfaaGreatDoorNE
set_option maxRecDepth 100000
set_option maxHeartbeats 8000000
set_option linter.all false
namespace Go.Pv
open Go
section
variable {P : Program} {E : Env} {w0 w : World} {I0 : IMap} {nt : Nat} {γ : Nat → Option Place} {I : IMap} {st : St} {a : Act}
theorem Sh.congr {st st' : St} (h : Sh E w0 I0 γ I st w) (h2 : st'.ob = st.ob) (h3 : st'.tk = st.tk) (h4 : st'.ro = st.ro) : Sh E w0 I0 γ I st' w :=
  ⟨h.imm, h.gl, (let ⟨Ω, ho⟩ := h.own; ⟨Ω, ⟨by rw [h2, h4]; exact ho.ob, by rw [h3]; exact ho.tk, ho.lt⟩⟩), h.fr, h.old⟩
/-- A new object. -/
theorem Sh.alloc (h : Sh E w0 I0 γ I st w) {ub d : Nat} (hf : γ ub = none) {obj : Obj} {body : OBody} {k : Kd} (hb : ObjOk γ I st.ob w.heap k (some obj) body) :
    Sh E w0 I0 (upd γ ub (some (.obj w.heap.size k))) I { st with ob := upd st.ob d (some ⟨ub, body⟩) } (w.alloc obj) := by
  have hm := upd_mono (f := γ) (k := ub) (v := Place.obj w.heap.size k) hf
  obtain ⟨Ω, ho⟩ := h.own
  have hkeep := keep_alloc (w := w) (ob := st.ob) (obj := obj) (d := d) (body := body) hf
  refine ⟨fun b o' x' hb' => ?_, h.gl, ⟨upd Ω w.heap.size (some (.ob d)), ⟨fun l ob hl => ?_, fun u hu => ?_, fun b ow hb' => ?_⟩⟩, ?_, h.old⟩
  · rw [World.cell?_alloc_lt]
    · exact h.imm _ _ _ hb'
    · exact World.block_lt_of_cell? _ _ (h.imm _ _ _ hb')
  · have hI : ∀ j, I w.heap.size j = none := by
      intro j
      cases hj : I w.heap.size j with
      | none => rfl
      | some y => exact absurd (World.block_lt_of_cell? _ _ (h.imm _ _ _ hj)) (Nat.lt_irrefl _)
    simp only [upd_apply] at hl
    split at hl
    · rename_i hld
      subst hld
      simp only [Option.some.injEq] at hl
      subst hl
      refine ⟨w.heap.size, k, by simp, by simp, fun _ => h.fr.size, ?_, hI⟩
      rw [heap_alloc_new]
      exact (hb.keep hkeep).mono hm (fun _ _ _ h => h)
    · rename_i hld
      obtain ⟨b, k', h1, h2, h3, h4, h5⟩ := ho.ob l ob hl
      have hlt := ho.lt b _ h2
      refine ⟨b, k', hm _ _ h1, ?_, h3, ?_, h5⟩
      · rw [upd_ne _ _ (Nat.ne_of_lt hlt)]; exact h2
      · rw [heap_alloc_old _ _ _ hlt]; exact (h4.keep hkeep).mono hm (fun _ _ _ h => h)
  · obtain ⟨b, n, cap, sz, h1, h2, h3, h4, h5⟩ := ho.tk u hu
    have hlt := ho.lt b _ h2
    refine ⟨b, n, cap, sz, hm _ _ h1, ?_, h3, ?_, h5⟩
    · rw [upd_ne _ _ (Nat.ne_of_lt hlt)]; exact h2
    · rw [heap_alloc_old _ _ _ hlt]; exact h4
  · rw [upd_apply] at hb'
    simp only [World.size_alloc]
    split at hb'
    · rename_i e; omega
    · have := ho.lt b _ hb'; omega
  · exact Grow.frame h.fr ⟨rfl, rfl, rfl, by simp, fun k hk _ => heap_alloc_old _ _ _ hk, fun k hk => hk.elim⟩ (T := fun _ => False)
/-- An object that is no map is changed, or is no more. -/
theorem Sh.turn (h : Sh E w0 I0 γ I st w) {l u b : Nat} {k : Kd} {body : OBody} (hl : st.ob l = some ⟨u, body⟩) (hu : γ u = some (.obj b k)) (hro : Nat.ble st.ro u = true) {ob' : Nat → Option Obj'} {o' : Obj}
    (hob : ∀ l2 x, ob' l2 = some x → (l2 ≠ l ∧ st.ob l2 = some x) ∨ (l2 = l ∧ x.uid = u ∧ ObjOk γ I st.ob w.heap k (some o') x.body ∧ ∀ v es, x.body ≠ .mp v es)) :
    Sh E w0 I0 γ I { st with ob := ob' } (w.putObj b o') := by
  obtain ⟨Ω, ho⟩ := h.own
  obtain ⟨b', k', h1, h2, h3, _, h5⟩ := ho.ob l _ hl
  rw [hu] at h1
  cases h1
  have hlt := ho.lt _ _ h2
  have hkeep : MapsKeep γ st.ob ob' w.heap (w.putObj b o').heap := by
    intro l2 u2 ver' es' mb mk hu2 hl2
    rcases hob _ _ hl2 with ⟨hne, hl2⟩ | ⟨_, _, _, hnm⟩
    · refine .inl ⟨hl2, fun m c hm => ?_⟩
      obtain ⟨b2, k2, q1, q2, _⟩ := ho.ob l2 _ hl2
      rw [hu2] at q1
      cases q1
      rw [World.putObj_heap_other (fun e => by
        subst e
        rw [h2] at q2
        cases q2
        exact hne rfl)]
      exact hm
    · exact absurd rfl (hnm _ _)
  refine ⟨fun b2 o2 x hx => ?_, h.gl, ⟨Ω, ⟨fun l2 x hl2 => ?_, fun u2 hu2 => ?_, fun b2 ow hb2 => ?_⟩⟩, ?_, h.old⟩
  · have hne : b2 ≠ b := fun e => by rw [e, h5] at hx; cases hx
    rw [World.cell?_of_block (w := w) (w' := w.putObj b o') (a := ⟨b2, o2, none⟩) (World.putObj_heap_other hne)]
    exact h.imm _ _ _ hx
  · rcases hob _ _ hl2 with ⟨hne, hl2'⟩ | ⟨rfl, hxu, hbody, _⟩
    · obtain ⟨b2, k2, q1, q2, q3, q4, q5⟩ := ho.ob l2 x hl2'
      have hbb : b2 ≠ b := fun e => by
        subst e
        rw [h2] at q2
        cases q2
        exact hne rfl
      exact ⟨b2, k2, q1, q2, q3, by rw [World.putObj_heap_other hbb]; exact q4.keep hkeep, q5⟩
    · refine ⟨b, k, by rw [hxu]; exact hu, h2, fun hr => h3 (by rw [hxu] at hr; exact hr), ?_, h5⟩
      rw [World.putObj_heap_same hlt]
      exact hbody.keep hkeep
  · obtain ⟨b2, n, cap, sz, q1, q2, q3, q4, q5⟩ := ho.tk u2 hu2
    have hbb : b2 ≠ b := fun e => by subst e; rw [h2] at q2; cases q2
    exact ⟨b2, n, cap, sz, q1, q2, q3, by rw [World.putObj_heap_other hbb]; exact q4, q5⟩
  · rw [World.putObj_size]
    exact ho.lt _ _ hb2
  · exact Grow.frame h.fr (T := fun k => k = b) ⟨rfl, rfl, rfl, by simp, fun k _ hk => World.putObj_heap_other hk, fun k hk => hk ▸ h3 (by simpa [Nat.ble_eq] using hro)⟩
theorem ob_get (h : Sh E w0 I0 γ I st w) {l u b : Nat} {k : Kd} {body : OBody} (hl : st.ob l = some ⟨u, body⟩) (hu : γ u = some (.obj b k)) : ObjOk γ I st.ob w.heap k w.heap[b]? body := by
  obtain ⟨Ω, ho⟩ := h.own
  obtain ⟨b', k', h1, h2, h3, h4, h5⟩ := ho.ob l _ hl
  rw [hu] at h1
  cases h1
  exact h4
/-- The temporaries of a round. -/
theorem setPs_rep : ∀ (ps : List Nat) (vs : List V) (xs : List Value) (T : Array Value) (tm : Nat → V), xs.length = vs.length → vs.length = ps.length → (∀ p ∈ ps, p < T.size) → (∀ t, Rep γ I (T.getD t undef) (tm t)) →
    (∀ (j : Nat) (x : Value) (v : V), xs[j]? = some x → vs[j]? = some v → Rep γ I x v) →
    ((ps.zip xs).foldl (fun tmps (t, a) => tmps.setIfInBounds t a) T).size = T.size ∧ ∀ t, Rep γ I (((ps.zip xs).foldl (fun tmps (t, a) => tmps.setIfInBounds t a) T).getD t undef) (setPs tm ps vs t)
  | [], [], [], T, tm, _, _, _, hT, _ => ⟨rfl, hT⟩
  | p :: ps, v :: vs, x :: xs, T, tm, h1, h2, hp, hT, hx => by
    simp only [List.zip_cons_cons, List.foldl_cons, setPs]
    have hlt := hp p (List.mem_cons_self ..)
    have := setPs_rep ps vs xs (T.setIfInBounds p x) (upd tm p v) (by simpa using h1) (by simpa using h2) (fun q hq => by rw [Array.size_setIfInBounds]; exact hp q (List.mem_cons_of_mem _ hq)) (fun t => ?_) (fun j y u hy hu => hx (j + 1) y u (by simpa using hy) (by simpa using hu))
    · rw [Array.size_setIfInBounds] at this
      exact this
    · by_cases ht : t = p
      · subst ht
        simp only [upd_same]
        have : (T.setIfInBounds t x).getD t undef = x := by simp [hlt]
        rw [this]
        exact hx 0 x v rfl rfl
      · rw [upd_ne _ _ ht]
        have : (T.setIfInBounds p x).getD t undef = T.getD t undef := by
          simp [Array.getElem?_setIfInBounds_ne (fun e => ht e.symm)]
        rw [this]
        exact hT t
  | [], _ :: _, _, _, _, _, h, _, _, _ => by simp at h
  | _ :: _, [], _, _, _, _, h, _, _, _ => by simp at h
  | [], [], _ :: _, _, _, h, _, _, _, _ => by simp at h
  | _ :: _, _ :: _, [], _, _, h, _, _, _, _ => by simp at h
end
theorem bindLs_mem {α β : Type} {f : α → Option (List β)} : ∀ {l : List α} {r : List β}, bindLs f l = some r → ∀ y ∈ r, ∃ x ∈ l, ∃ rx, f x = some rx ∧ y ∈ rx
  | [], r, h, y, hy => by cases h; cases hy
  | [x'], r, h, y, hy => ⟨x', List.mem_singleton.2 rfl, r, h, hy⟩
  | x' :: y' :: l, r, h, y, hy => by
    simp only [bindLs] at h
    obtain ⟨a, ha, h⟩ := bind_some h
    obtain ⟨b, hb, rfl⟩ := map_some h
    rcases List.mem_append.1 hy with hy | hy
    · exact ⟨x', List.mem_cons_self .., a, ha, hy⟩
    · obtain ⟨x, hx, rx, h1, h2⟩ := bindLs_mem hb y hy
      exact ⟨x, List.mem_cons_of_mem _ hx, rx, h1, h2⟩
theorem bindL_mem {α β : Type} {m : Option (List α)} {f : α → Option (List β)} {r : List β} (h : bindL m f = some r) : ∃ l, m = some l ∧ ∀ y ∈ r, ∃ x ∈ l, ∃ rx, f x = some rx ∧ y ∈ rx := by
  obtain ⟨l, hl, h⟩ := bind_some h
  exact ⟨l, hl, bindLs_mem h⟩
section
variable {E : Env}
theorem step_ro {call : Callers} {o : AOpr} {st : St} {ub : Nat} {l : List (St × Nat)} (h : step E call o st ub = some l) : ∀ x ∈ l, x.1.ro = st.ro := by
  intro x hx
  unfold step at h
  split at h
  · split at h
    · obtain ⟨_, _, rfl⟩ := map_some h
      rw [List.mem_singleton] at hx; subst hx; rfl
    · split at h
      · split at h
        · obtain ⟨_, _, rfl⟩ := map_some h
          obtain ⟨_, _, rfl⟩ := List.mem_map.1 hx
          rfl
        · obtain ⟨_, _, rfl⟩ := map_some h
          rw [List.mem_singleton] at hx; subst hx; rfl
      · split at h
        · obtain ⟨_, _, rfl⟩ := map_some h
          obtain ⟨_, _, rfl⟩ := List.mem_map.1 hx
          rfl
        · obtain ⟨_, _, rfl⟩ := map_some h
          rw [List.mem_singleton] at hx; subst hx; rfl
  · cases h
    rw [List.mem_singleton] at hx; subst hx; rfl
  · cases h
theorem opsR_ro {call : Callers} : ∀ {ops : List AOpr} {st : St} {ub : Nat} {l : List St}, opsR E call ops st ub = some l → ∀ x ∈ l, x.ro = st.ro
  | [], st, ub, l, h, x, hx => by
    cases h
    rw [List.mem_singleton] at hx; subst hx; rfl
  | o :: r, st, ub, l, h, x, hx => by
    simp only [opsR] at h
    obtain ⟨l1, h1, h2⟩ := bindL_mem h
    obtain ⟨p, hp, rx, h3, h4⟩ := h2 x hx
    rw [opsR_ro h3 x h4, step_ro h1 p hp]
theorem drawR_ro {call : Callers} : ∀ {ops : List AOpr} {st : St} {ub : Nat} {p : List FP × St}, drawR E call ops st ub = some p → p.2.ro = st.ro
  | [], st, ub, p, h => by cases h; rfl
  | o :: r, st, ub, p, h => by
    unfold drawR at h
    split at h
    · split at h
      · split at h
        · split at h
          · obtain ⟨δ, _, h⟩ := bind_some h
            obtain ⟨q, hq, rfl⟩ := map_some h
            have := drawR_ro hq
            exact this
          · obtain ⟨δ, _, h⟩ := bind_some h
            obtain ⟨q, hq, rfl⟩ := map_some h
            have := drawR_ro hq
            exact this
        · obtain ⟨δ, _, h⟩ := bind_some h
          obtain ⟨q, hq, rfl⟩ := map_some h
          have := drawR_ro hq
          exact this
      · split at h
        · cases h
        · obtain ⟨δ, _, h⟩ := bind_some h
          obtain ⟨q, hq, rfl⟩ := map_some h
          have := drawR_ro hq
          exact this
    · obtain ⟨q, hq, rfl⟩ := map_some h
      have := drawR_ro hq
      exact this
    · cases h
theorem codeL_ro {call : Y → Callers} {y : Y} {N : Nat} : ∀ (c : C) {st : St} {l : List (Ex × St)}, codeL E call y N c st = some l → ∀ x ∈ l, x.2.ro = st.ro := by
  intro c
  induction c with
  | skip => intro st l h x hx; cases h; rw [List.mem_singleton] at hx; subst hx; rfl
  | ret => intro st l h x hx; cases h; rw [List.mem_singleton] at hx; subst hx; rfl
  | exit id => intro st l h x hx; cases h; rw [List.mem_singleton] at hx; subst hx; rfl
  | stuck => intro st l h; cases h
  | region ops =>
    intro st l h x hx
    simp only [codeL] at h
    obtain ⟨l1, h1, rfl⟩ := map_some h
    obtain ⟨s, hs, rfl⟩ := List.mem_map.1 hx
    exact opsR_ro h1 s hs
  | pin o fs =>
    intro st l h x hx
    simp only [codeL] at h
    obtain ⟨l1, h1, h2⟩ := bindL_mem h
    obtain ⟨p, hp, rx, h3, h4⟩ := h2 x hx
    obtain ⟨q, h5, h6⟩ := bind_some h3
    simp only [Option.ite_none_right_eq_some, Option.some.injEq] at h6
    obtain ⟨_, rfl⟩ := h6
    rw [List.mem_singleton] at h4; subst h4
    exact (drawR_ro h5).trans (step_ro h1 p hp)
  | draw ops free =>
    intro st l h x hx
    simp only [codeL] at h
    obtain ⟨p, h1, h2⟩ := bind_some h
    simp only [Option.ite_none_right_eq_some, Option.some.injEq] at h2
    obtain ⟨_, rfl⟩ := h2
    rw [List.mem_singleton] at hx; subst hx
    exact drawR_ro h1
  | seq a b iha ihb =>
    intro st l h x hx
    simp only [codeL] at h
    obtain ⟨l1, h1, h2⟩ := bindL_mem h
    obtain ⟨p, hp, rx, h3, h4⟩ := h2 x hx
    obtain ⟨e, s⟩ := p
    have hs := iha h1 _ hp
    cases e with
    | nrm => exact (ihb h3 x h4).trans hs
    | exit i => cases h3; rw [List.mem_singleton] at h4; subst h4; exact hs
    | ret => cases h3; rw [List.mem_singleton] at h4; subst h4; exact hs
  | cond q a b iha ihb =>
    intro st l h x hx
    simp only [codeL] at h
    split at h
    · exact iha h x hx
    · exact ihb h x hx
    · cases h
  | block id a ih =>
    intro st l h x hx
    simp only [codeL] at h
    obtain ⟨l1, h1, rfl⟩ := map_some h
    obtain ⟨p, hp, rfl⟩ := List.mem_map.1 hx
    have := ih h1 p hp
    obtain ⟨e, s⟩ := p
    cases e with
    | nrm => exact this
    | ret => exact this
    | exit i =>
      simp only
      split <;> exact this
  | loop a ih =>
    intro st l h x hx
    simp only [codeL] at h
    have key : ∀ (n : Nat) (st : St) (l : List (Ex × St)), loopL (codeL E call y N a) n st = some l → ∀ x ∈ l, x.2.ro = st.ro := by
      intro n
      induction n with
      | zero => intro st l h; cases h
      | succ n ihn =>
        intro st l h x hx
        simp only [loopL] at h
        obtain ⟨l1, h1, h2⟩ := bindL_mem h
        obtain ⟨p, hp, rx, h3, h4⟩ := h2 x hx
        obtain ⟨e, s⟩ := p
        have hs := ih h1 _ hp
        cases e with
        | nrm => exact (ihn s rx h3 x h4).trans hs
        | exit i => cases h3; rw [List.mem_singleton] at h4; subst h4; exact hs
        | ret => cases h3; rw [List.mem_singleton] at h4; subst h4; exact hs
    exact key N st l h x hx
  | rangeFunc f ps a b =>
    intro st l h x hx
    simp only [codeL] at h
    split at h
    case h_2 => cases h
    obtain ⟨p, _, h⟩ := bind_some h
    obtain ⟨r, ob, tk, ub⟩ := p
    simp only at h
    split at h
    case h_2 => cases h
    simp only [Option.ite_none_right_eq_some, Option.some.injEq] at h
    obtain ⟨_, rfl⟩ := h
    rw [List.mem_singleton] at hx; subst hx; rfl
end
section
variable {P : Program} {E : Env} {nt : Nat} {γ : Nat → Option Place} {I : IMap} {w0 : World} {I0 : IMap} {call : Callers} {st : St} {ub : Nat} {a : Act} {w : World} {ops : Array Oper} {als : List AOpr} {free : List (Nat × Nat)} {fps : List FP}
theorem mid_ok {m : Bool} {rn : Option Nat} {γ0 : Nat → Option Place} {Iy : IMap} {Q : Exit → Act → World → Prop} {c : Nat} {ac : AOpr} {S : St} {sts : List St} (hmid : midOk ops als c = true) (hac : als[c]? = some ac)
    (hco : COk P E γ0 Iy call) (hg0 : SubG γ0 γ) (hI0 : SubI Iy I) (hops : ops.toList.mapM (compOpr P m ops) = some als) (hfree : drawPairs ops als = some free) (hdst : ∀ ao ∈ als, ∀ d, ao.dst = some d → d < nt)
    (hd : drawR E call (als.take c) st ub = some (fps, S)) (hok : drawOk free fps = true) (hnw : newOk fps = true) (hl : opsR E call [ac] S S.nx = some sts)
    (hx : ∀ s1 ∈ sts, ∃ p, drawR E call (List.replicate (c + 1) noOp ++ als.drop (c + 1)) s1 s1.nx = some p ∧ drawOk free p.1 = true ∧ newOk p.1 = true ∧ Nice E w0 I0 nt γ I p.2 p.2.nx (fun a w => Q .normal a w))
    (hR : R E w0 I0 nt γ I st a w) (hf : ∀ u, ub ≤ u → γ u = none) : wpAnyIn (FW rn) 0 P .any ops Q ops.size (Array.replicate ops.size false) a w := by
  obtain ⟨hlen, hmap⟩ := mapM_some hops
  have hlen : als.length = ops.size := by rw [hlen, Array.length_toList]
  obtain ⟨hback, hpairs⟩ := drawPairs_spec hfree hlen
  have hca : c < als.length := (List.getElem?_eq_some_iff.1 hac).1
  unfold midOk at hmid
  simp only [Bool.and_eq_true, hac] at hmid
  obtain ⟨⟨⟨_, hanc⟩, hall⟩, _⟩ := hmid
  have hanc : ∀ i, i < c → ((aheads ops.toList []).getD c 0).testBit i = true := fun i hi => List.all_eq_true.1 hanc i (List.mem_range.2 hi)
  have hbeh : ∀ j, c < j → j < ops.size → ∀ i, i ≤ c → ((aheads ops.toList []).getD j 0).testBit i = true := by
    intro j h1 h2 i hi
    have := List.all_eq_true.1 hall j (List.mem_range.2 (by omega))
    have hnb : Nat.ble j c = false := by
      cases h : Nat.ble j c with
      | false => rfl
      | true => have := Nat.le_of_ble_eq_true h; omega
    rw [hnb, Bool.false_or, Bool.and_eq_true] at this
    exact List.all_eq_true.1 this.1 i (List.mem_range.2 (by omega))
  have hrep : ∀ i d, (Array.replicate ops.size false).getD i d = if i < ops.size then false else d := by
    intro i d
    by_cases hi : i < ops.size <;> simp [hi]
  have getD_tf : ∀ (listed : Array Bool) (i : Nat), i < listed.size → listed.getD i true = listed.getD i false := by
    intro listed i hi
    simp [hi]
  obtain ⟨effs, htr, rfl⟩ := drawR_trace _ _ _ _ _ hd
  have hnil : foldD (fun i => (Array.replicate ops.size false).getD i false) effs st = st := by
    have : (fun i => (Array.replicate ops.size false).getD i false) = fun _ => false := funext fun i => by rw [hrep]; split <;> rfl
    rw [this]
    exact nil_fold _ _
  have htl : (als.take c).length = c := by rw [List.length_take]; omega
  refine any_okK (bb := false) (w0 := w0) (I0 := I0) (kk := c) (al' := als.take c) (sp := fun _ => false) (by omega) htl (fun i ao hi _ h => by rw [List.getElem?_take, if_pos hi]; exact h) (fun _ _ h => by cases h)
    (fun j h1 h2 i h3 => ?_) hco hops hfree htr hok hnw hdst (γ := γ) (I := I) (fun _ _ _ _ _ _ _ h => by cases h) (fun γ' I' a' w' fuel listed hsz hm _ hcnt hR' hf' hg' hI' => ?_) ops.size (Array.replicate ops.size false) γ I a w (by simp)
    (fun j o ho hj => ?_) (fun j hj => by rw [hrep]; split <;> rfl) (fun _ h => by cases h) (by simp) (by rw [hnil]; exact hR) (fun u hu => hf u (by omega)) (fun j hj u h1 h2 => hf u (by omega)) (fun _ _ h => h) (fun _ _ _ h => h)
  · rcases Nat.lt_or_eq_of_le h1 with h | h
    · exact hbeh j h h2 i (by omega)
    · subst h
      exact hanc i h3
  rotate_left
  · simp only [hrep] at hj
    split at hj <;> cases hj
  -- the call
  have hjo : c < ops.size := by omega
  have hjl : c < listed.size := by omega
  have hcl : Closed ops (fun i => listed.getD i false) := by
    intro i o ho hd e he hb
    simp only [hm, decide_eq_true_eq] at hd ⊢
    have := hback i o ho e he hb
    omega
  have hone : ∀ i, i ∈ Region.ready .any ops listed → i = c := by
    intro i hi
    obtain ⟨h0, o, ho, hrd⟩ := mem_ready.1 hi
    have hio : i < ops.size := (Array.getElem?_eq_some_iff.1 ho).1
    rw [getD_tf listed i (by omega), hm i] at h0
    have h1 : c ≤ i := by simpa using h0
    rcases Nat.lt_or_eq_of_le h1 with h | h
    · have := ready_anc (D := fun i => listed.getD i false) hback hcl ho hrd (hbeh i h (by omega) c (Nat.le_refl _))
      simp only [hm, decide_eq_true_eq] at this
      omega
    · exact h.symm
  have hjr : c ∈ Region.ready .any ops listed := mem_ready.2 ⟨by rw [getD_tf listed c hjl, hm c]; simp, ops[c], Array.getElem?_eq_getElem hjo, fun e he hb => by
    have := hback c _ (Array.getElem?_eq_getElem hjo) e he hb
    rw [hm e.on]
    exact decide_eq_true this⟩
  have hmem := List.mem_of_getElem? hac
  have ho := Array.getElem?_eq_getElem hjo
  generalize ops[c] = o at ho
  have hcomp : compOpr P m ops o = some ac := hmap c o ac (by rw [Array.getElem?_toList]; exact ho) hac
  have hlj : listed[c]? = some false := by
    have h1 := hm c
    rw [Array.getElem?_eq_getElem hjl]
    simp only [Array.getD_eq_getD_getElem?, Array.getElem?_eq_getElem hjl, Option.getD_some] at h1
    rw [h1]
    simp
  cases fuel with
  | zero =>
    have hmem : false ∈ listed.toList := Array.mem_toList_iff.2 (Array.mem_of_getElem? hlj)
    have := List.count_pos_iff.2 hmem
    omega
  | succ fuel =>
  refine ⟨(fun hr => absurd (hr ▸ hjr) List.not_mem_nil), fun i hi => ?_⟩
  rw [hone i hi]
  unfold wpOpIn
  simp only [ho]
  simp only [opsR] at hl
  obtain ⟨l, hl, hal⟩ := bindL_spec hl
  refine step_ok hco (hg0.trans hg') (hI0.trans hI') (hR'.congr (st' := { foldD (fun _ => true) effs st with nx := ub + 64 * (als.take c).length }) rfl rfl rfl rfl rfl) (fun u hu => hf' u (by rw [htl] at hu; exact hu)) hcomp (by rw [← (compOpr_inv hcomp).1]; exact hdst ac hmem) hl (fun x hxl => ?_)
  obtain ⟨rx, hrx, hsub⟩ := hal x hxl
  simp only [Option.some.injEq] at hrx
  subst hrx
  obtain ⟨p, hp, hpk, hpn, hpN⟩ := hx _ (hsub _ (List.mem_singleton.2 rfl))
  intro γ2 I2 a2 w2 hR2 hf2 hg2 hI2
  simp only at hp
  obtain ⟨fps2, S2⟩ := p
  obtain ⟨effs2, htr2, rfl⟩ := drawR_trace _ _ _ _ _ hp
  simp only at hpk hpn hpN
  have hcnt2 : (listed.setIfInBounds c true).toList.count false ≤ fuel := by
    have hg : listed.toList[c]? = some false := by rw [Array.getElem?_toList]; exact hlj
    have hll : c < listed.toList.length := by simpa using hjl
    rw [Array.toList_setIfInBounds, List.count_set hll]
    rw [List.getElem?_eq_getElem hll] at hg
    simp only [Option.some.injEq] at hg
    rw [hg]
    simp only [beq_self_eq_true, if_true]
    have : (true == false) = false := rfl
    rw [this]
    simp only [Bool.false_eq_true, if_false]
    omega
  have hm2 : ∀ i, (listed.setIfInBounds c true).getD i false = decide (i ≤ c) := by
    intro i
    by_cases hij : i = c
    · subst hij
      simp [hjl]
    · rw [getD_set_ne false (Ne.symm hij), hm i]
      exact decide_eq_decide.2 ⟨fun h => by omega, fun h => by omega⟩
  have hsz2 : (listed.setIfInBounds c true).size = ops.size := by simpa using hsz
  generalize listed.setIfInBounds c true = listed2 at *
  -- what is behind it
  have hl2 : (List.replicate (c + 1) noOp ++ als.drop (c + 1)).length = als.length := by simp; omega
  have hel : effs2.length = als.length := htr2.len.trans hl2
  have hec : ∀ i, i ≤ c → effs2[i]? = some (none, { v := none' }) := by
    intro i hi
    obtain ⟨δ, fp, h1, h2, h3⟩ := htr2.at' i noOp (by rw [List.getElem?_append_left (by simp; omega), List.getElem?_replicate, if_pos (by omega)])
    have : δ = { v := none' } := by
      obtain ⟨h4, _⟩ := still_tr h3 rfl
      rcases h4 with ⟨_, h4⟩ | ⟨h4, h5⟩
      · cases h4; rfl
      · exact h5
    rw [h1, this]; rfl
  have hst2 : ∀ {β : Type} {π : St → β} {wr : Eff → Bool} {g : Eff → β} (s0 : St), (∀ (s : St) (e : Eff), π (s.app e.1 e.2) = if wr e then g e else π s) → wr (none, { v := none' }) = false →
      π (foldD (fun i => listed2.getD i false) effs2 s0) = π s0 := by
    intro β π wr g s0 hπ hw
    have := fold_eq hπ effs2 (fun i => listed2.getD i false) (fun _ => false) s0 s0 (fun i e he hwe => ?_) rfl
    · rw [this, nil_fold]
    · rw [hm2]
      by_cases hic : i ≤ c
      · rw [hec i hic] at he
        cases he
        rw [hw] at hwe
        cases hwe
      · exact decide_eq_false hic
  have hnx2 := foldD_nx effs2 (fun i => listed2.getD i false) { x.1 with nx := x.2 }
  refine any_okK (bb := true) (w0 := w0) (I0 := I0) (kk := als.length) (al' := List.replicate (c + 1) noOp ++ als.drop (c + 1)) (sp := fun i => decide (i ≤ c)) (Nat.le_refl _) hl2 (fun i ao hi hs h => ?_) (fun i _ h => hec i (of_decide_eq_true h))
    (fun j h1 h2 i h3 => by omega) hco hops hfree htr2 hpk hpn hdst (γ := γ2) (I := I2) (fun i fuel listed γ3 I3 a3 w3 hsi _ hsz3 _ _ hsp3 _ _ _ _ _ hi3 => ?_) (fun γ3 I3 a3 w3 fuel listed hsz3 hm3 _ _ hR3 hf3 hg3 hI3 => ?_) fuel listed2 γ2 I2 a2 w2 hsz2
    (fun j oj hoj hj e he hb => ?_) (fun j hj => ?_) (fun j hj => ?_) hcnt2 ?_ (fun u hu => hf2 u (by omega)) (fun j hj u h1 h2 => hf2 u (by omega)) (fun _ _ h => h) (fun _ _ _ h => h)
  · have h1 : ¬ i ≤ c := of_decide_eq_false hs
    rw [List.getElem?_append_right (by simp; omega), List.length_replicate, List.getElem?_drop, show c + 1 + (i - (c + 1)) = i by omega]
    exact h
  · obtain ⟨h0, o3, ho3, _⟩ := mem_ready.1 hi3
    have : i < listed.size := by rw [hsz3]; exact (Array.getElem?_eq_some_iff.1 ho3).1
    rw [getD_tf listed i this, hsp3 i hsi] at h0
    cases h0
  · have hr : Region.ready .any ops listed = [] := by
      cases hr : Region.ready .any ops listed with
      | nil => rfl
      | cons i r =>
        have hi : i ∈ Region.ready .any ops listed := by rw [hr]; exact List.mem_cons_self ..
        obtain ⟨h0, o, ho, _⟩ := mem_ready.1 hi
        have hio : i < ops.size := (Array.getElem?_eq_some_iff.1 ho).1
        rw [getD_tf listed i (by omega), hm3 i, decide_eq_true (by omega)] at h0
        cases h0
    have hQ := hpN γ3 I3 a3 w3 (hR3.congr rfl rfl rfl rfl rfl) (fun u hu => hf3 u (by simp only [hl2] at hu; exact hu)) (fun u p h => hg3 u p (hg2 u p (hg' u p h))) (fun b o x h => hI3 b o x (hI2 b o x (hI' b o x h)))
    cases fuel with
    | zero => exact ⟨hr, hQ⟩
    | succ fuel => exact ⟨fun _ => hQ, fun i hi => by rw [hr] at hi; cases hi⟩
  · simp only [hm2, decide_eq_true_eq] at hj ⊢
    have := hback j oj hoj e he hb
    omega
  · rw [hm2]
    exact decide_eq_false (by omega)
  · rw [hm2]
    exact hj
  · refine hR2.congr (funext fun t => ?_) (funext fun l => ?_) (funext fun u => ?_) ?_ ?_
    · exact hst2 (π := fun s => s.tm t) (wr := wrT t) (g := fun e => e.2.v) _ (tm_app t) rfl
    · exact hst2 (π := fun s => s.ob l) (wr := wrO l) (g := fun e => setObs (fun _ => none) e.2.obs l) _ (ob_app l) rfl
    · exact hst2 (π := fun s => s.tk u) (wr := wrK u) (g := fun e => e.2.add.contains u) _ (tk_app u) rfl
    · exact hnx2.2.2.1
    · exact hnx2.2.2.2
end
def exOf : Ex → Exit
  | .nrm => .normal
  | .exit id => .exit id
  | .ret => .ret
section
variable {P : Program} {E : Env} {nt : Nat} {call : Y → Callers}
/-- Code does so, in a frame of any make. -/
def CodeOk (P : Program) (E : Env) (nt : Nat) (call : Y → Callers) (y : Y) (N : Nat) (γ0 : Nat → Option Place) (Iy : IMap) (c : Code) (ac : C) (rn : Option Nat) : Prop :=
  ∀ (w0 : World) (I0 : IMap) (Q : Exit → Act → World → Prop) (st : St) (l : List (Ex × St)) (γ : Nat → Option Place) (I : IMap) (a : Act) (w : World), SubG γ0 γ → SubI Iy I →
    codeL E call y N ac st = some l → R E w0 I0 nt γ I st a w → (∀ u, st.nx ≤ u → γ u = none) → (∀ x ∈ l, Nice E w0 I0 nt γ I x.2 x.2.nx (fun a w => Q (exOf x.1) a w)) → c.wpIn (FW rn) 0 P Q a w
/-- A round does what 'roundY' says. -/
theorem roundY_ok {y : Y} {N : Nat} {γ0 γ1 : Nat → Option Place} {Iy I1 : IMap} {as bd : C} {ca cb : Code} {st : St} {L lb ub : Nat} {rec : Loop} {ps : Array Nat}
    (ha : CodeOk P E nt call y N γ0 Iy ca as (some L)) (hb : CodeOk P E nt call y N γ0 Iy cb bd (some L)) (hg : SubG γ0 γ1) (hI : SubI Iy I1) (hu : γ1 ub = some (.obj L (.lp rec)))
    (htm : ∀ t, Rep γ1 I1 (rec.tmps.getD t undef) (st.tm t)) (hsz : rec.tmps.size = nt) (hps : rec.params = ps) (hpl : ∀ p ∈ ps.toList, p < nt) (hca : rec.assign = ca) (hcb : rec.body = cb) :
    YOk P E γ1 I1 (roundY (codeL E call y N as) (codeL E call y N bd) st ps.toList lb ub) := by
  intro l' u' args obx tkx rox ubx r ob' tk' ub' hy
  unfold roundY at hy
  simp only [Option.ite_none_right_eq_some] at hy
  obtain ⟨⟨hl1, hu1, hlen, hro⟩, hy⟩ := hy
  subst l'
  subst u'
  split at hy
  case h_2 => cases hy
  rename_i u1 hob1
  simp only [Option.ite_none_right_eq_some] at hy
  obtain ⟨hu1, hy⟩ := hy
  subst u1
  split at hy
  case h_2 => cases hy
  rename_i s1 hs1
  split at hy
  case h_2 => cases hy
  rename_i u2 hob2
  simp only [Option.ite_none_right_eq_some] at hy
  obtain ⟨hu2, hy⟩ := hy
  subst u2
  split at hy
  case h_2 => cases hy
  rename_i e s2 hs2
  split at hy
  case h_2 => cases hy
  rename_i u3 hob3
  simp only [Option.ite_none_right_eq_some] at hy
  obtain ⟨hu3, hy⟩ := hy
  subst u3
  intro w0 w I0 I γ xs sx b k hg1 hI1 hobx htkx hrox hSh hfr hxs hargs hbk
  rw [hg1 _ _ hu] at hbk
  cases hbk
  subst hobx
  subst htkx
  subst hrox
  have hγu := hg1 _ _ hu
  obtain ⟨r0, hr0, hheap⟩ := ob_get hSh hob1 hγu
  cases hr0
  have hyl := run_yield (P := P) (args := xs) hheap (by show xs.size = rec.params.size; rw [hps, hxs, hlen]; simp)
  refine ⟨_, _, _, _, hyl, ?_⟩
  simp only [hca, hcb]
  have hpl' : ∀ p ∈ ps.toList, p < rec.tmps.size := by rw [hsz]; exact hpl
  have hset := setPs_rep (γ := γ) (I := I) ps.toList args xs.toList rec.tmps st.tm (by simpa using hxs) hlen hpl' (fun t => (htm t).mono hg1 hI1) (fun j x v hx hv => hargs j x v (by simpa using hx) hv)
  have hfold : (rec.params.zip xs).foldl (fun tmps (t, a) => tmps.setIfInBounds t a) rec.tmps = (ps.toList.zip xs.toList).foldl (fun tmps (t, a) => tmps.setIfInBounds t a) rec.tmps := by
    rw [hps, ← Array.foldl_toList, Array.toList_zip]
  refine roundIn_of_wpIn trivial ?_
  show Code.wpIn (FW (some L)) 0 P _ _ _ _
  have hR0 : R E w0 I0 nt γ I { tm := setPs st.tm ps.toList args, ob := sx.ob, tk := sx.tk, ro := sx.ro, nx := ubx, fb := st.fb, df := [] } { tmps := (rec.params.zip xs).foldl (fun tmps (t, a) => tmps.setIfInBounds t a) rec.tmps, defers := [] } w := by
    rw [hfold]
    exact ⟨hset.1.trans hsz, trivial, hset.2, hSh.congr rfl rfl rfl⟩
  refine ha w0 I0 _ _ _ γ I _ w (hg.trans hg1) (hI.trans hI1) hs1 hR0 hfr (fun x hx => ?_)
  rw [List.mem_singleton] at hx
  subst hx
  intro γ2 I2 a2 w2 hR2 hf2 hg2 hI2
  -- the round begins
  have hγu2 := hg2 _ _ hγu
  obtain ⟨r0, hr0, hheap2⟩ := ob_get hR2.sh hob2 hγu2
  cases hr0
  have hbr := run_beginRound (P := P) hheap2 rfl
  refine ⟨_, hbr, ?_⟩
  show Code.wpIn (FW (some L)) 0 P _ _ _ _
  have hro2 : s1.ro = sx.ro := codeL_ro _ hs1 _ (List.mem_singleton.2 rfl)
  have hSh3 := hR2.sh.turn (ob' := upd s1.ob lb (some ⟨ub, .loop .busy none⟩)) (o' := .loop { rec with state := .busy, pending := none }) hob2 hγu2 (by rw [hro2]; exact hro) (fun l2 x hx => by
    rw [upd_apply] at hx
    split at hx
    · rename_i h2; subst h2; cases hx; exact .inr ⟨rfl, rfl, ⟨rec, rfl, rfl⟩, fun _ _ h => by cases h⟩
    · rename_i h2; exact .inl ⟨h2, hx⟩)
  have hR3 : R E w0 I0 nt γ2 I2 { s1 with ob := upd s1.ob lb (some ⟨ub, .loop .busy none⟩) } a2 (w2.putObj L (.loop { rec with state := .busy, pending := none })) := ⟨hR2.sz, hR2.df, hR2.tm, hSh3⟩
  refine hb w0 I0 _ _ _ γ2 I2 _ _ ((hg.trans hg1).trans hg2) ((hI.trans hI1).trans hI2) hs2 hR3 hf2 (fun x hx => ?_)
  rw [List.mem_singleton] at hx
  subst hx
  intro γ3 I3 a3 w3 hR4 hf4 hg4 hI4
  have hγu3 := hg4 _ _ hγu2
  obtain ⟨r0, hr0, hheap3⟩ := ob_get hR4.sh hob3 hγu3
  cases hr0
  have hro3 : s2.ro = sx.ro := (codeL_ro _ hs2 _ (List.mem_singleton.2 rfl)).trans hro2
  -- the round ends
  have fin : ∀ (jump : Option Ex) (s : LS), lsOf s = (if (jump.map exCode).isNone then .ready else .done) → some (V.bool (jump.map exCode).isNone, upd s2.ob lb (some ⟨ub, .loop s jump⟩), s2.tk, s2.nx) = some (r, ob', tk', ub') →
      ∃ v w', (Instr.endRound L (jump.map exCode)).run P w3 = .ok v w' ∧ SharedPost E w0 I0 γ I sx.ro r ob' tk' ub' (.returned v) w' := by
    intro jump s hs he
    cases he
    have her := run_endRound (P := P) (jump.map exCode) hheap3
    refine ⟨_, _, her, .bool (jump.map exCode).isNone, γ3, I3, rfl, fun st' e1 e2 e3 => ?_, .pure _ _ (.bool _), SubG.trans hg2 hg4, SubI.trans hI2 hI4, hf4⟩
    have hSh5 := hR4.sh.turn (ob' := upd s2.ob lb (some ⟨ub, .loop s jump⟩)) (o' := .loop { rec with state := lsOf s, pending := jump.map exCode }) hob3 hγu3 (by rw [hro3]; exact hro) (fun l2 x hx => by
      rw [upd_apply] at hx
      split at hx
      · rename_i h2; subst h2; cases hx; exact .inr ⟨rfl, rfl, ⟨rec, rfl, rfl⟩, fun _ _ h => by cases h⟩
      · rename_i h2; exact .inl ⟨h2, hx⟩)
    rw [hs] at hSh5
    exact hSh5.congr e1 e2 (e3.trans hro3.symm)
  cases e with
  | nrm => exact fin none .ready rfl hy
  | ret => exact fin (some .ret) .done rfl hy
  | exit id => exact fin (some (.exit id)) .done rfl hy
theorem dst_lt {l : List AOpr} {n : Nat} (h : (l.all fun o => match o.dst with | some d => Nat.blt d n | none => true) = true) : ∀ ao ∈ l, ∀ d, ao.dst = some d → d < n := by
  intro ao hao d hdd
  have := List.all_eq_true.1 h ao hao
  simp only [hdd] at this
  simpa [Nat.blt_eq] using this
theorem serialFrom_aux (ops : Array Oper) : ∀ n, serialFrom ops n ≤ n ∧ ∀ j, serialFrom ops n ≤ j → j < n → ∀ i, i < j → ((aheads ops.toList []).getD j 0).testBit i = true
  | 0 => ⟨Nat.le_refl _, fun j _ h => by omega⟩
  | n + 1 => by
    obtain ⟨h1, h2⟩ := serialFrom_aux ops n
    have e : serialFrom ops (n + 1) = if (List.range n).all fun i => ((aheads ops.toList []).getD n 0).testBit i then serialFrom ops n else n + 1 := by
      unfold serialFrom
      rw [List.range_succ, List.foldl_append]
      rfl
    rw [e]
    split
    · rename_i hall
      refine ⟨by omega, fun j hj hjn i hi => ?_⟩
      rcases Nat.lt_succ_iff_lt_or_eq.1 hjn with h | rfl
      · exact h2 j hj h i hi
      · exact List.all_eq_true.1 hall i (List.mem_range.2 hi)
    · exact ⟨Nat.le_refl _, fun j hj hjn => by omega⟩
theorem serialFrom_le (ops : Array Oper) (n : Nat) : serialFrom ops n ≤ n := (serialFrom_aux ops n).1
theorem serialFrom_spec (ops : Array Oper) (n : Nat) : ∀ j, serialFrom ops n ≤ j → j < n → ∀ i, i < j → ((aheads ops.toList []).getD j 0).testBit i = true := (serialFrom_aux ops n).2
theorem only_some {α : Type} {x : Option (List α)} {a : α} (h : only x = some a) : x = some [a] := by
  unfold only at h
  split at h
  · cases h; rfl
  · cases h
theorem stepS {P : Program} {b : Frame} {a : Act} {k : List Item} {cs : List Frame} {w : World} {c : Code} :
    Go.step P (lone (b.atR a (.code (.scope c) :: k)) cs w) = .next (lone (b.atR a (.code c :: .inScope c :: k)) cs w) :=
  step_lone_go (by simp [stepG, stepG.exec, Frame.atR])
theorem stepI {P : Program} {b : Frame} {a : Act} {k : List Item} {cs : List Frame} {w : World} {c : Code} :
    Go.step P (lone (b.atR a (.inScope c :: k)) cs w) = .next (lone (b.atR a k) cs w) :=
  step_lone_go (by simp [stepG, stepG.exec, Frame.atR])
def noGo (Q : Exit → Act → World → Prop) : Exit → Act → World → Prop
  | .goto _, _, _ => False
  | e, a, w => Q e a w
/-- A scope without jumps. -/
theorem wpIn_scope {F : Fence} {n : Nat} {P : Program} {Q : Exit → Act → World → Prop} {a : Act} {w : World} {c : Code} (h : c.wpIn F n P (noGo Q) a w) : (Code.scope c).wpIn F n P Q a w := by
  intro b k cs hro hb hr
  have h0 : (lone (b.atR a (.code (.scope c) :: k)) cs w).fenced P F := fenced_calm hb hr rfl
  obtain ⟨e, a₁, w₁, hq, harr⟩ := h b (.inScope c :: k) cs hro hb hr
  cases e with
  | normal => exact ⟨.normal, a₁, w₁, hq, .head h0 stepS (StepsIn.trans harr (.one (fenced_calm hb hr rfl) stepI))⟩
  | exit id =>
    have hx : exitTo id (.inScope c :: k) = exitTo id k := by simp [exitTo]
    exact ⟨.exit id, a₁, w₁, hq, fun k' hk => .head h0 stepS (harr.1 k' (by rw [hx]; exact hk)),
      fun hr' hk => let ⟨k₁, h1, h2⟩ := harr.2 hr' (by rw [hx]; exact hk); ⟨k₁, h1, .head h0 stepS h2⟩⟩
  | goto l => exact hq.elim
  | ret => exact ⟨_, a₁, w₁, hq, .of_steps (.one h0 stepS) harr⟩
  | panic ch => exact ⟨_, a₁, w₁, hq, .of_steps (.one h0 stepS) harr⟩
  | outgrown => exact ⟨_, a₁, w₁, hq, .of_steps (.one h0 stepS) harr⟩
theorem code_ok (hm : P.follows .mixedOrders = true) (hco : CallersOk P E call) (N : Nat) {y : Y} {γ0 : Nat → Option Place} {Iy : IMap} (hy : YOk P E γ0 Iy y) :
    ∀ (c : Code) (ac : C) (m r : Bool) (rn : Option Nat), (r = true ∨ rn = none) → comp P m r c = some ac → ac.dstOk nt = true → CodeOk P E nt call y N γ0 Iy c ac rn := by
  intro c
  induction c with
  | skip =>
    intro ac m r rn hrn hc hd w0 I0 Q st l γ I a w hg0 hI0 hl hR hf hK
    cases hc
    cases hl
    exact wpIn_skip (hK _ (List.mem_singleton.2 rfl) γ I a w hR hf (fun _ _ h => h) (fun _ _ _ h => h))
  | ret =>
    intro ac m r rn hrn hc hd w0 I0 Q st l γ I a w hg0 hI0 hl hR hf hK
    cases hc
    cases hl
    exact wpIn_ret (hK _ (List.mem_singleton.2 rfl) γ I a w hR hf (fun _ _ h => h) (fun _ _ _ h => h))
  | exit id =>
    intro ac m r rn hrn hc hd w0 I0 Q st l γ I a w hg0 hI0 hl hR hf hK
    cases hc
    cases hl
    exact wpIn_exit (hK _ (List.mem_singleton.2 rfl) γ I a w hR hf (fun _ _ h => h) (fun _ _ _ h => h))
  | region id ops drawn =>
    intro ac m r rn hrn hc hd w0 I0 Q st l γ I a w hg0 hI0 hl hR hf hK
    cases drawn with
    | false =>
      simp only [comp] at hc
      obtain ⟨als, hals, rfl⟩ := map_some hc
      simp only [codeL] at hl
      obtain ⟨sts, hst, rfl⟩ := map_some hl
      exact wpIn_region_list (opsR_ok (hco _ _ _ hy) _ als hals (dst_lt hd) γ I st a w st.nx sts hg0 hI0 hR hf hst (fun st' hst' => hK _ (List.mem_map.2 ⟨st', hst', rfl⟩)))
    | true =>
      simp only [comp] at hc
      obtain ⟨als, hals, hc⟩ := map_some hc
      split at hc
      case h_2 => subst hc; cases hl
      rename_i free hfree
      obtain ⟨hlen, _⟩ := mapM_some hals
      have hlen : als.length = ops.size := by rw [hlen, Array.length_toList]
      have hrep : ∀ i d, (Array.replicate ops.size false).getD i d = if i < ops.size then false else d := by
        intro i d
        by_cases hi : i < ops.size <;> simp [hi]
      split at hc
      · generalize hk : serialFrom ops als.length = k at hc
        have hkl : k ≤ als.length := hk ▸ serialFrom_le ops als.length
        have hsuf : ∀ j, k ≤ j → j < ops.size → ∀ i, i < j → ((aheads ops.toList []).getD j 0).testBit i = true := fun j h1 h2 => serialFrom_spec ops als.length j (by rw [hk]; exact h1) (by omega)
        split at hc
        · rename_i c hpin
          obtain ⟨_, hpin⟩ := Option.filter_eq_some_iff.1 hpin
          have hck : c + 1 < k := by
            unfold pinOk at hpin
            simp only [Bool.and_eq_true, Nat.blt_eq] at hpin
            exact hpin.1.1.1
          have hac := List.getElem?_eq_getElem (show c < als.length by omega)
          have hgd : als.getD c noOp = als[c]'(by omega) := by rw [List.getD_eq_getElem?_getD, hac]; rfl
          subst hc
          rw [hgd] at hl hd
          generalize als[c]'(by omega) = ac0 at *
          simp only [codeL] at hl
          obtain ⟨l1, h1, h2⟩ := bindL_spec hl
          obtain ⟨⟨fps, S⟩, hst, h1⟩ := bind_some h1
          simp only [Option.ite_none_right_eq_some, Option.some.injEq] at h1
          obtain ⟨hok, rfl⟩ := h1
          rw [Bool.and_eq_true] at hok
          obtain ⟨rx, h3, h4⟩ := h2 _ (List.mem_singleton.2 rfl)
          simp only at h3
          obtain ⟨l2, h5, h6⟩ := bindL_spec h3
          obtain ⟨l3, h7, h8⟩ := bindL_spec h5
          have hd' : ∀ ao ∈ als, ∀ d, ao.dst = some d → d < nt := by
            simp only [C.dstOk, Bool.and_eq_true] at hd
            obtain ⟨d1, d2, d3⟩ := hd
            intro ao hao
            obtain ⟨i, hi, rfl⟩ := List.getElem_of_mem hao
            by_cases hik : i < k
            · by_cases hic : i = c
              · subst hic
                have : als[i] = ac0 := by rw [List.getElem?_eq_getElem hi] at hac; simpa using hac
                rw [this]
                exact dst_lt d2 ac0 (List.mem_cons_self ..)
              · refine dst_lt d1 _ (List.mem_of_getElem? (i := i) ?_)
                rw [List.getElem?_set_ne (Ne.symm hic), List.getElem?_take, if_pos hik, List.getElem?_eq_getElem hi]
            · refine dst_lt d3 _ (List.mem_of_getElem? (i := i - k) ?_)
              rw [List.getElem?_drop, show k + (i - k) = i by omega, List.getElem?_eq_getElem hi]
          refine wpIn_region_any hm (pin_ok (w0 := w0) (I0 := I0) hkl hsuf hpin hac (hco _ _ _ hy) hg0 hI0 hals hfree hd' hst hok.1 hok.2 h7 (fun x hx => ?_) (hR.drawn _) hf)
          obtain ⟨rx', h9, h10⟩ := h8 x hx
          obtain ⟨p, hp, h11⟩ := bind_some h9
          simp only [Option.ite_none_right_eq_some, Option.some.injEq] at h11
          obtain ⟨hsame, rfl⟩ := h11
          obtain ⟨rx2, h12, h13⟩ := h6 _ (h10 _ (List.mem_singleton.2 rfl))
          simp only at h12
          obtain ⟨sts, hsts, rfl⟩ := map_some h12
          exact ⟨p, sts, hp, hsame, hsts, fun st' hst' => hK _ (h4 _ (h13 _ (List.mem_map.2 ⟨st', hst', rfl⟩)))⟩
        subst hc
        simp only [codeL] at hl
        obtain ⟨l1, h1, h2⟩ := bindL_spec hl
        obtain ⟨⟨fps, st'⟩, hst, h1⟩ := bind_some h1
        simp only [Option.ite_none_right_eq_some, Option.some.injEq] at h1
        obtain ⟨hok, rfl⟩ := h1
        rw [Bool.and_eq_true] at hok
        obtain ⟨hok, hnw⟩ := hok
        obtain ⟨rx, h3, h4⟩ := h2 _ (List.mem_singleton.2 rfl)
        simp only at h3
        obtain ⟨sts, hsts, rfl⟩ := map_some h3
        obtain ⟨effs, htr, rfl⟩ := drawR_trace (als.take k) st st.nx fps st' hst
        have hd' : ∀ ao ∈ als, ∀ d, ao.dst = some d → d < nt := by
          simp only [C.dstOk, Bool.and_eq_true] at hd
          intro ao hao
          rw [← List.take_append_drop k als] at hao
          rcases List.mem_append.1 hao with h | h
          · exact dst_lt hd.1 ao h
          · exact dst_lt hd.2 ao h
        have hnil : foldD (fun i => (Array.replicate ops.size false).getD i false) effs st = st := by
          have : (fun i => (Array.replicate ops.size false).getD i false) = fun _ => false := funext fun i => by rw [hrep]; split <;> rfl
          rw [this]
          exact nil_fold _ _
        have htl : (als.take k).length = k := by rw [List.length_take]; omega
        refine wpIn_region_any hm (any_okK (bb := false) (w0 := w0) (I0 := I0) (kk := k) (al' := als.take k) (sp := fun _ => false) hkl htl (fun i ao hi _ h => by rw [List.getElem?_take, if_pos hi]; exact h) (fun _ _ h => by cases h) (fun j h1 h2 i h3 => hsuf j h1 h2 i (by omega)) (hco _ _ _ hy) hals hfree htr hok hnw hd' (γ := γ) (I := I) (fun _ _ _ _ _ _ _ h => by cases h) (fun γ' I' a' w' fuel listed hsz hmask _ hcnt hR' hf' hg hI => ?_) ops.size (Array.replicate ops.size false) γ I a _ (by simp) ?_ ?_ (fun _ h => by cases h) ?_ ?_ ?_ ?_ (fun _ _ h => h) (fun _ _ _ h => h))
        · exact serial_ok hsuf (hco _ _ _ hy) hals hfree hd' (ops.size - k) k (Nat.le_refl _) (by omega) fuel listed γ' I' { foldD (fun _ => true) effs st with nx := st.nx + 64 * (als.take k).length } a' w' (st.nx + 64 * (als.take k).length) sts hsz hmask hcnt (hg0.trans hg) (hI0.trans hI) (hR'.congr rfl rfl rfl rfl rfl) (fun u hu => hf' u (by rw [htl] at hu; exact hu)) hsts
            (fun st' hst' => (hK _ (h4 _ (List.mem_map.2 ⟨st', hst', rfl⟩))).weaken hg hI)
        · intro j o ho hj
          simp only [hrep] at hj
          split at hj <;> cases hj
        · intro j hj
          rw [hrep]; split <;> rfl
        · simp
        · rw [hnil]
          exact hR.drawn _
        · intro u hu
          exact hf u (by omega)
        · intro j hj u h1 h2
          exact hf u (by omega)
      split at hc
      · rename_i c hmid
        have hmid : midOk ops als c = true := by
          cases m with
          | false => cases hmid
          | true =>
            obtain ⟨_, hmid⟩ := Option.filter_eq_some_iff.1 hmid
            exact hmid
        have hac0 : ∃ ac, als[c]? = some ac := by
          have h := hmid
          unfold midOk at h
          cases h0 : als[c]? with
          | none => simp [h0] at h
          | some ac => exact ⟨ac, rfl⟩
        obtain ⟨ac0, hac⟩ := hac0
        have hca : c < als.length := (List.getElem?_eq_some_iff.1 hac).1
        have hgd : als.getD c noOp = ac0 := by rw [List.getD_eq_getElem?_getD, hac]; rfl
        subst hc
        rw [hgd] at hl hd
        simp only [codeL] at hl
        obtain ⟨l1, h1, h2⟩ := bindL_spec hl
        obtain ⟨⟨fps, S⟩, hst, h1⟩ := bind_some h1
        simp only [Option.ite_none_right_eq_some, Option.some.injEq] at h1
        obtain ⟨hok, rfl⟩ := h1
        rw [Bool.and_eq_true] at hok
        obtain ⟨rx, h3, h4⟩ := h2 _ (List.mem_singleton.2 rfl)
        simp only at h3
        obtain ⟨l2, h5, h6⟩ := bindL_spec h3
        obtain ⟨sts, hsts, rfl⟩ := map_some h5
        have hd' : ∀ ao ∈ als, ∀ d, ao.dst = some d → d < nt := by
          simp only [C.dstOk, Bool.and_eq_true] at hd
          obtain ⟨d1, d2, d3⟩ := hd
          intro ao hao
          obtain ⟨i, hi, rfl⟩ := List.getElem_of_mem hao
          rcases Nat.lt_trichotomy i c with hic | hic | hic
          · refine dst_lt d1 _ (List.mem_of_getElem? (i := i) ?_)
            rw [List.getElem?_take, if_pos hic, List.getElem?_eq_getElem hi]
          · subst hic
            have : als[i] = ac0 := by rw [List.getElem?_eq_getElem hi] at hac; simpa using hac
            rw [this]
            exact dst_lt d2 ac0 (List.mem_cons_self ..)
          · refine dst_lt d3 _ (List.mem_append_right _ (List.mem_of_getElem? (i := i - (c + 1)) ?_))
            rw [List.getElem?_drop, show c + 1 + (i - (c + 1)) = i by omega, List.getElem?_eq_getElem hi]
        refine wpIn_region_any hm (mid_ok (w0 := w0) (I0 := I0) hmid hac (hco _ _ _ hy) hg0 hI0 hals hfree hd' hst hok.1 hok.2 hsts (fun s1 hs1 => ?_) (hR.drawn _) hf)
        obtain ⟨rx2, h12, h13⟩ := h6 _ (List.mem_map.2 ⟨s1, hs1, rfl⟩)
        simp only at h12
        obtain ⟨⟨fps2, S2⟩, hst2, h14⟩ := bind_some h12
        simp only [Option.ite_none_right_eq_some, Option.some.injEq] at h14
        obtain ⟨hok2, rfl⟩ := h14
        rw [Bool.and_eq_true] at hok2
        exact ⟨(fps2, S2), hst2, hok2.1, hok2.2, hK _ (h4 _ (h13 _ (List.mem_singleton.2 rfl)))⟩
      subst hc
      simp only [codeL] at hl
      obtain ⟨⟨fps, st'⟩, hst, hl⟩ := bind_some hl
      simp only [Option.ite_none_right_eq_some, Option.some.injEq] at hl
      obtain ⟨hok, rfl⟩ := hl
      rw [Bool.and_eq_true] at hok
      obtain ⟨hok, hnw⟩ := hok
      obtain ⟨effs, htr, rfl⟩ := drawR_trace als st st.nx fps st' hst
      have hnil : foldD (fun i => (Array.replicate ops.size false).getD i false) effs st = st := by
        have : (fun i => (Array.replicate ops.size false).getD i false) = fun _ => false := funext fun i => by rw [hrep]; split <;> rfl
        rw [this]
        exact nil_fold _ _
      refine wpIn_region_any hm (any_ok (w0 := w0) (I0 := I0) (hco _ _ _ hy) hals hfree htr hok hnw (dst_lt hd) (γ := γ) (I := I) (fun γ' I' a' w' hR' hf' hg hI => ?_) ops.size (Array.replicate ops.size false) γ I a _ (by simp) ?_ ?_ ?_ ?_ ?_ (fun _ _ h => h) (fun _ _ _ h => h))
      · exact hK _ (List.mem_singleton.2 rfl) γ' I' a' w' (hR'.congr rfl rfl rfl rfl rfl) hf' hg hI
      · intro j o ho hj
        simp only [hrep] at hj
        split at hj <;> cases hj
      · simp
      · rw [hnil]
        exact hR.drawn _
      · intro u hu
        exact hf u (by omega)
      · intro j hj u h1 h2
        exact hf u (by omega)
  | seq x z ihx ihz =>
    intro ac m r rn hrn hc hd w0 I0 Q st l γ I a w hg0 hI0 hl hR hf hK
    simp only [comp] at hc
    obtain ⟨ax, hx, hc⟩ := bind_some hc
    obtain ⟨az, hz, rfl⟩ := map_some hc
    simp only [C.dstOk, Bool.and_eq_true] at hd
    simp only [codeL] at hl
    obtain ⟨l1, h1, h2⟩ := bindL_spec hl
    refine wpIn_seq (ihx ax m r rn hrn hx hd.1 w0 I0 _ st l1 γ I a w hg0 hI0 h1 hR hf (fun p hp => ?_))
    obtain ⟨e, s⟩ := p
    obtain ⟨rx, h3, h4⟩ := h2 _ hp
    cases e with
    | nrm =>
      intro γ' I' a' w' hR' hf' hg hI
      exact ihz az m r rn hrn hz hd.2 w0 I0 Q s rx γ' I' a' w' (hg0.trans hg) (hI0.trans hI) h3 hR' hf' (fun p hp => (hK p (h4 p hp)).weaken hg hI)
    | exit i =>
      simp only [Option.some.injEq] at h3
      subst h3
      exact hK _ (h4 _ (List.mem_singleton.2 rfl))
    | ret =>
      simp only [Option.some.injEq] at h3
      subst h3
      exact hK _ (h4 _ (List.mem_singleton.2 rfl))
  | cond q x z ihx ihz =>
    intro ac m r rn hrn hc hd w0 I0 Q st l γ I a w hg0 hI0 hl hR hf hK
    simp only [comp] at hc
    obtain ⟨aq, hq, hc⟩ := bind_some hc
    obtain ⟨ax, hx, hc⟩ := bind_some hc
    obtain ⟨az, hz, rfl⟩ := map_some hc
    simp only [C.dstOk, Bool.and_eq_true] at hd
    have hrep := eval_rep hR hq
    have hv : ∀ t, eval E st.tm aq = .bool t → a.eval q = .bool t := by
      intro t ht
      rw [ht] at hrep
      exact inv_bool hrep
    simp only [codeL] at hl
    split at hl
    · rename_i hb
      exact wpIn_cond_true (hv _ hb) (ihx ax m r rn hrn hx hd.1 w0 I0 Q st l γ I a w hg0 hI0 hl hR hf hK)
    · rename_i hb
      exact wpIn_cond_false (hv _ hb) (ihz az m r rn hrn hz hd.2 w0 I0 Q st l γ I a w hg0 hI0 hl hR hf hK)
    · cases hl
  | block id x ih =>
    intro ac m r rn hrn hc hd w0 I0 Q st l γ I a w hg0 hI0 hl hR hf hK
    simp only [comp] at hc
    obtain ⟨ax, hx, rfl⟩ := map_some hc
    simp only [codeL] at hl
    obtain ⟨l1, h1, rfl⟩ := map_some hl
    refine wpIn_block (ih ax m r rn hrn hx hd w0 I0 _ st l1 γ I a w hg0 hI0 h1 hR hf (fun p hp => ?_))
    have := hK _ (List.mem_map.2 ⟨p, hp, rfl⟩)
    obtain ⟨e, s⟩ := p
    cases e with
    | nrm => exact this
    | ret => exact this
    | exit i =>
      simp only [exOf, Exit.inBlock]
      by_cases hi : i = id
      · simp only [hi, if_true] at this ⊢
        exact this
      · simp only [hi, if_false] at this ⊢
        exact this
  | scope x ih =>
    intro ac m r rn hrn hc hd w0 I0 Q st l γ I a w hg0 hI0 hl hR hf hK
    refine wpIn_scope (ih ac m r rn hrn hc hd w0 I0 _ st l γ I a w hg0 hI0 hl hR hf (fun p hp => ?_))
    have := hK p hp
    obtain ⟨e, s⟩ := p
    cases e <;> exact this
  | label i =>
    intro ac m r rn hrn hc hd w0 I0 Q st l γ I a w hg0 hI0 hl hR hf hK
    cases hc
    cases hl
    exact wpIn_label (hK _ (List.mem_singleton.2 rfl) γ I a w hR hf (fun _ _ h => h) (fun _ _ _ h => h))
  | loop x ih =>
    intro ac m r rn hrn hc hd w0 I0 Q st l γ I a w hg0 hI0 hl hR hf hK
    simp only [comp] at hc
    obtain ⟨ax, hx, rfl⟩ := map_some hc
    simp only [codeL] at hl
    have key : ∀ (n : Nat) (st : St) (l : List (Ex × St)) (γ : Nat → Option Place) (I : IMap) (a : Act) (w : World), SubG γ0 γ → SubI Iy I → loopL (codeL E call y N ax) n st = some l → R E w0 I0 nt γ I st a w → (∀ u, st.nx ≤ u → γ u = none) →
        (∀ x ∈ l, Nice E w0 I0 nt γ I x.2 x.2.nx (fun a w => Q (exOf x.1) a w)) → Code.roundsIn (FW rn) 0 P x Q n a w := by
      intro n
      induction n with
      | zero => intro st l γ I a w _ _ hl; cases hl
      | succ n ihn =>
        intro st l γ I a w hg0 hI0 hl hR hf hK
        simp only [loopL] at hl
        obtain ⟨l1, h1, h2⟩ := bindL_spec hl
        rw [roundsIn_succ]
        refine ih ax m r rn hrn hx hd w0 I0 _ st l1 γ I a w hg0 hI0 h1 hR hf (fun p hp => ?_)
        obtain ⟨e, s⟩ := p
        obtain ⟨rx, h3, h4⟩ := h2 _ hp
        cases e with
        | nrm =>
          intro γ' I' a' w' hR' hf' hg hI
          exact ihn s rx γ' I' a' w' (hg0.trans hg) (hI0.trans hI) h3 hR' hf' (fun p hp => (hK p (h4 p hp)).weaken hg hI)
        | exit i =>
          simp only [Option.some.injEq] at h3
          subst h3
          exact hK _ (h4 _ (List.mem_singleton.2 rfl))
        | ret =>
          simp only [Option.some.injEq] at h3
          subst h3
          exact hK _ (h4 _ (List.mem_singleton.2 rfl))
    exact wpIn_loop_rounds N (key N st l γ I a w hg0 hI0 hl hR hf hK)
  | rangeFunc f ps ca cb iha ihb =>
    intro ac m r rn hrn hc hd w0 I0 Q st l γ I a w hg0 hI0 hl hR hf hK
    cases r with
    | true => cases hc; cases hl
    | false =>
    have hrn : rn = none := hrn.resolve_left (by simp)
    subst hrn
    simp only [comp, cond_false] at hc
    obtain ⟨af, hfo, hc⟩ := bind_some hc
    obtain ⟨as, has, hc⟩ := bind_some hc
    obtain ⟨bd, hbd, rfl⟩ := map_some hc
    simp only [C.dstOk, Bool.and_eq_true] at hd
    obtain ⟨⟨hdp, hda⟩, hdb⟩ := hd
    simp only [codeL] at hl
    split at hl
    case h_2 => cases hl
    rename_i g first captured hev
    obtain ⟨⟨rv, ob, tk, ub⟩, hcall, hl⟩ := bind_some hl
    have hcall := only_some hcall
    have hrf := eval_rep hR hfo
    rw [hev] at hrf
    obtain ⟨fx, cx, hfv, s1, s2, s3, s4⟩ := inv_fn hrf
    -- the two blocks
    refine wpIn_rangeFunc (fun fn _ => ?_)
    have hγ1 : γ (st.nx + 1) = none := hf _ (by omega)
    have hSh1 := hR.sh.alloc (d := 2 * st.nx + 3) hγ1 (obj := .deferred (some [])) (body := .dfr) (k := .n 0) rfl
    have hγ0' : (upd γ (st.nx + 1) (some (.obj w.heap.size (.n 0)))) st.nx = none := by
      rw [upd_ne _ _ (by omega)]
      exact hf _ (Nat.le_refl _)
    generalize hrec : ({ state := .ready, pending := none, fn, tmps := a.tmps, params := ps, assign := ca, body := cb, defers := w.heap.size } : Loop) = rec
    have hSh2 := hSh1.alloc (d := 2 * st.nx + 1) hγ0' (obj := .loop rec) (body := .loop .ready none) (k := .lp rec) ⟨rec, rfl, by rw [← hrec]; rfl⟩
    generalize hγe : upd (upd γ (st.nx + 1) (some (.obj w.heap.size (.n 0)))) st.nx (some (.obj (w.alloc (.deferred (some []))).heap.size (.lp rec))) = γ1 at hSh2
    have hsub : SubG γ γ1 := by
      rw [← hγe]
      exact SubG.trans (upd_mono hγ1) (upd_mono hγ0')
    have hγl : γ1 st.nx = some (.obj (w.heap.size + 1) (.lp rec)) := by rw [← hγe]; simp
    have hγd : γ1 (st.nx + 1) = some (.obj w.heap.size (.n 0)) := by rw [← hγe, upd_ne _ _ (by omega)]; simp
    have hps : ∀ p ∈ ps.toList, p < nt := fun p hp => by
      have := List.all_eq_true.1 hdp p hp
      simpa [Nat.blt_eq] using this
    have hyo : YOk P E γ1 I (roundY (codeL E call y N as) (codeL E call y N bd) st ps.toList (2 * st.nx + 1) st.nx) :=
      roundY_ok (L := w.heap.size + 1) (rec := rec) (ca := ca) (cb := cb) (ps := ps) (iha as m true (some (w.heap.size + 1)) (.inl rfl) has hda) (ihb bd m true (some (w.heap.size + 1)) (.inl rfl) hbd hdb) (hg0.trans hsub) hI0 hγl
        (fun t => by rw [← hrec]; exact (hR.tm t).mono hsub (fun _ _ _ h => h)) (by rw [← hrec]; exact hR.sz) (by rw [← hrec]) hps (by rw [← hrec]) (by rw [← hrec])
    obtain ⟨hfn, hsok⟩ := (hco γ1 I _ hyo).s _ _ _ _ _ _ _ _ hcall
    obtain ⟨fnn, cc, e1, e2, e3⟩ := hfn
    have hcf := run_callFunc (P := P) (w := (w.alloc (.deferred (some []))).alloc (.loop rec)) e1 e2 e3
    have hyrep : Rep γ1 I (.func (.yield (w.heap.size + 1)) #[] #[]) (.yld (2 * st.nx + 1) st.nx) := .yld _ _ _ _ hγl
    obtain ⟨t1, t2⟩ := append_rep (γ := γ1) (I := I) (xs := fx) (ys := #[.func (.yield (w.heap.size + 1)) #[] #[]]) (us := first) (vs := [.yld (2 * st.nx + 1) st.nx]) s1 rfl (fun j x v hx hv => (s3 j x v hx hv).mono hsub (fun _ _ _ h => h)) (fun j x v hx hv => by
      match j with
      | 0 => simp at hx hv; subst hx; subst hv; exact hyrep
      | j + 1 => simp at hv)
    obtain ⟨u1, u2⟩ := append_rep (γ := γ1) (I := I) t1 s2 t2 (fun j x v hx hv => (s4 j x v hx hv).mono hsub (fun _ _ _ h => h))
    have hfr2 : ∀ u, st.nx + 64 ≤ u → γ1 u = none := by
      intro u hu
      rw [← hγe, upd_ne _ _ (by omega), upd_ne _ _ (by omega)]
      exact hf _ (by omega)
    have hcalls := hsok w0 _ I0 I γ1 _ { st with ob := upd (upd st.ob (2 * st.nx + 3) (some ⟨st.nx + 1, .dfr⟩)) (2 * st.nx + 1) (some ⟨st.nx, .loop .ready none⟩) } (SubG.refl _) (SubI.refl _) rfl rfl rfl hSh2 hfr2 u1 u2
    have hent := run_enterLoop_outer (P := P) (w := w) fn a.tmps ps ca cb
    rw [hrec] at hent
    refine ⟨_, _, _, { target := .fn (.func g) cx, args := fx ++ #[.func (.yield (w.heap.size + 1)) #[] #[]] }, (w.alloc (.deferred (some []))).alloc (.loop rec), g, fx ++ #[.func (.yield (w.heap.size + 1)) #[] #[]] ++ cx, (w.alloc (.deferred (some []))).alloc (.loop rec), hent, ?_, fun _ _ => trivial, ?_, (fun h => by cases h), ?_⟩
    · have hm1 : Array.map a.eval #[Operand.const (.func (.yield (w.heap.size + 1)) #[] #[])] = #[.func (.yield (w.heap.size + 1)) #[] #[]] := by simp [Act.eval]
      simp only [resolve, hfv, Deferred.ofValue, Sem.run_pure, hm1]
    · simp only [invoke]
      exact hcf _
    · refine callsFW (Calls.mono hcalls fun e w3 he => ?_)
      obtain ⟨_, hm1, he⟩ := he
      rw [List.mem_singleton] at hm1
      subst hm1
      obtain ⟨x, γ', I', rfl, hsh, hrep, hsg, hsi, hfr'⟩ := he
      simp only at hl
      split at hl
      case h_2 => cases hl
      rename_i u s pend hobl
      simp only [Option.ite_none_right_eq_some, Option.some.injEq] at hl
      obtain ⟨⟨rfl, hnb, hro⟩, rfl⟩ := hl
      have hγl' := hsg _ _ hγl
      have hSh3 := hsh { st with ob := ob, tk := tk } rfl rfl rfl
      obtain ⟨r0, hr0, hheap⟩ := ob_get hSh3 hobl hγl'
      cases hr0
      have hns : lsOf s ≠ .busy := by cases s <;> simp_all [lsOf]
      have hend := run_endLoop (P := P) hheap hns
      have hSh4 := hSh3.turn (ob' := fun k => if Nat.beq (2 * st.nx + 1) k then none else ob k) (o' := .loop { rec with state := .exhausted, pending := pend.map exCode }) hobl hγl' hro (fun l2 x hx => by
        split at hx
        · cases hx
        · rename_i h2; exact .inl ⟨fun e => h2 (by rw [e]; exact Nat.beq_refl _), hx⟩)
      refine ⟨pend.map exCode, _, hend, ?_⟩
      have hnice := hK _ (List.mem_singleton.2 rfl) γ' I' { tmps := a.tmps, defers := [{ target := .collected w.heap.size, args := #[] }] ++ a.defers } (w3.putObj (w.heap.size + 1) (.loop { rec with state := .exhausted, pending := pend.map exCode }))
        ⟨hR.sz, ⟨⟨w.heap.size, .n 0, rfl, hsg _ _ hγd⟩, (hR.df.mono hsub).mono hsg⟩, fun t => (hR.tm t).mono (hsub.trans hsg) hsi, hSh4.congr rfl rfl rfl⟩ hfr' (hsub.trans hsg) hsi
      cases pend with
      | none => exact hnice
      | some e =>
        cases e with
        | nrm => exact wpIn_skip hnice
        | ret => exact wpIn_ret hnice
        | exit i => exact wpIn_exit hnice
  | _ =>
    intro ac m r rn hrn hc hd w0 I0 Q st l γ I a w hg0 hI0 hl
    cases hc
    cases hl
end
/-- Where a slice to which may be appended lies. -/
def wantP (γ : Nat → Option Place) (x : Value) : V → Option Place
  | .sl (some (u, _)) _ _ _ => γ u
  | .osl _ u _ n sz => match γ u, x with
    | some (.obj b _), .slice _ _ cap => some (.tok b n cap sz)
    | _, _ => none
  | _ => none
def keepsO (st : St) (keep : Bool) (l u off n sz : Nat) : Bool :=
  match objCells st.ob l u with
  | some cs0 => keep && Nat.beq off 0 && Nat.blt 0 n && Nat.beq (n * sz) cs0.length
  | none => false
/-- The slices of a result to which may be appended: their places in it, whose they are, where they lie. -/
def plLeaf (γ : Nat → Option Place) (st : St) (keep : Bool) (i : Nat) (x : Value) : V → List (Nat × Nat × Option Place)
  | .sl (some (u, z)) nl n cs => if keep && st.tk u then [(i, u, wantP γ x (.sl (some (u, z)) nl n cs))] else []
  | .osl l u off n sz => if keepsO st keep l u off n sz then [(i, u, wantP γ x (.osl l u off n sz))] else []
  | _ => []
def plList (γ : Nat → Option Place) (st : St) (keep : Bool) : Nat → List Value → List V → List (Nat × Nat × Option Place)
  | i, x :: xs, v :: vs => plLeaf γ st keep i x v ++ plList γ st keep (i + 1) xs vs
  | _, _, _ => []
def aggL : Value → List Value
  | .agg xs => xs.toList
  | _ => []
def plTop (γ : Nat → Option Place) (st : St) (keep : Bool) (i : Nat) (x : Value) : V → List (Nat × Nat × Option Place)
  | .agg cs => plList γ st keep i (aggL x) cs
  | v => plLeaf γ st keep i x v
def plTops (γ : Nat → Option Place) (st : St) (keep : Bool) : Nat → List Value → List V → List (Nat × Nat × Option Place)
  | i, x :: xs, v :: vs => plTop γ st keep i x v ++ plTops γ st keep (i + 16) xs vs
  | _, _, _ => []
theorem nodup_spec : ∀ {l : List Nat}, nodup l = true → l.Nodup
  | [], _ => List.nodup_nil
  | a :: l, h => by
    simp only [nodup, Bool.and_eq_true, Bool.not_eq_true'] at h
    refine List.nodup_cons.2 ⟨fun hm => ?_, nodup_spec h.2⟩
    have : (l.any fun b => Nat.beq a b) = true := List.any_eq_true.2 ⟨a, hm, Nat.beq_refl a⟩
    rw [h.1] at this
    cases this
section
variable {P : Program} {E : Env} {w0 w : World} {I0 : IMap} {nt : Nat} {γ τ : Nat → Option Place} {I I' : IMap} {st : St} {a : Act} {B : Nat} {Ω : Nat → Option Owner} {keep : Bool}
/-- What is so of each such slice. -/
def PlOk (γ : Nat → Option Place) (_ : IMap) (st : St) (keep : Bool) (p : Nat × Nat × Option Place) : Prop :=
  keep = true ∧ ((st.tk p.2.1 = true ∧ p.2.2 = γ p.2.1) ∨
    ∃ l cs b k n cap sz, ObRow st.ob l p.2.1 cs ∧ γ p.2.1 = some (.obj b k) ∧ p.2.2 = some (.tok b n cap sz) ∧ 0 < n ∧ n * sz = cs.length ∧ n ≤ cap ∧ cap ≤ maxLen ∧ cap * sz ≤ k.size ∧ Nat.ble st.ro p.2.1 = true)
theorem pl_leaf_sub (i : Nat) {x : Value} {v v' : V} (hx : Rep γ I x v) (hv : outLeaf st keep i v = some v') : ((plLeaf γ st keep i x v).map (·.2.1)).Sublist v.tok ∧ ∀ p ∈ plLeaf γ st keep i x v, PlOk γ I st keep p := by
  unfold plLeaf
  split
  · split
    · rename_i h
      simp only [Bool.and_eq_true] at h
      exact ⟨List.Sublist.refl _, fun p hp => by rw [List.mem_singleton.1 hp]; exact ⟨h.1, .inl ⟨h.2, rfl⟩⟩⟩
    · exact ⟨List.nil_sublist _, fun p hp => by cases hp⟩
  · rename_i l u off n sz
    split
    · rename_i h
      refine ⟨List.Sublist.refl _, fun p hp => ?_⟩
      rw [List.mem_singleton.1 hp]
      unfold keepsO at h
      split at h
      case h_2 => cases h
      rename_i cs0 hcs
      simp only [Bool.and_eq_true] at h
      obtain ⟨⟨⟨h1, h2⟩, h3⟩, h4⟩ := h
      have h2 := Nat.eq_of_beq_eq_true h2
      have h3 : 0 < n := by simpa [Nat.blt_eq] using h3
      have h4 := Nat.eq_of_beq_eq_true h4
      subst h2
      obtain ⟨b, k, ad, cap, hu, rfl, ha, hc, hm⟩ := inv_osl hx
      have hro : Nat.ble st.ro u = true := by
        simp only [outLeaf] at hv
        obtain ⟨q, hq, _⟩ := bind_some hv
        simp only [solid, hcs, Option.bind_some, Option.ite_none_right_eq_some] at hq
        exact hq.1.1
      refine ⟨h1, .inr ⟨l, cs0, b, k, n, cap, sz, objCells_inv hcs, hu, by simp only [wantP, hu], h3, h4, hc, hm, ?_, hro⟩⟩
      have := (ha (by omega)).2
      omega
    · exact ⟨List.nil_sublist _, fun p hp => by cases hp⟩
  · exact ⟨List.nil_sublist _, fun p hp => by cases hp⟩
theorem pl_list_sub : ∀ (i : Nat) (xs : List Value) (vs vs' : List V), xs.length = vs.length → (∀ (j : Nat) (x : Value) (v : V), xs[j]? = some x → vs[j]? = some v → Rep γ I x v) → outList st keep i vs = some vs' →
    ((plList γ st keep i xs vs).map (·.2.1)).Sublist (vs.flatMap V.tok) ∧ ∀ p ∈ plList γ st keep i xs vs, PlOk γ I st keep p
  | _, [], [], _, _, _, _ => ⟨List.Sublist.refl _, fun p hp => by cases hp⟩
  | i, x :: xs, v :: vs, vs', hl, hr, ho => by
    simp only [outList] at ho
    obtain ⟨q, hq, ho⟩ := bind_some ho
    obtain ⟨r, hr', rfl⟩ := map_some ho
    obtain ⟨h1, h2⟩ := pl_leaf_sub i (hr 0 x v rfl rfl) hq
    obtain ⟨h3, h4⟩ := pl_list_sub (i + 1) xs vs r (by simpa using hl) (fun j x v hx hv => hr (j + 1) x v (by simpa using hx) (by simpa using hv)) hr'
    simp only [plList, List.map_append, List.flatMap_cons]
    exact ⟨h1.append h3, fun p hp => (List.mem_append.1 hp).elim (h2 p) (h4 p)⟩
  | _, [], _ :: _, _, h, _, _ => by simp at h
  | _, _ :: _, [], _, h, _, _ => by simp at h
theorem pl_top_sub (i : Nat) {x : Value} {v v' : V} (hx : Rep γ I x v) (hv : outTop st keep i v = some v') : ((plTop γ st keep i x v).map (·.2.1)).Sublist v.toks ∧ ∀ p ∈ plTop γ st keep i x v, PlOk γ I st keep p := by
  cases v with
  | agg cs =>
    obtain ⟨xs, rfl, h1, h2, h3⟩ := inv_agg hx
    simp only [outTop] at hv
    obtain ⟨r, hr, rfl⟩ := map_some hv
    exact pl_list_sub i xs.toList cs r (by simpa using h1) (fun j x v hx hv => h3 j x v (by simpa using hx) hv) hr
  | fn f as bs => exact ⟨List.nil_sublist _, fun p hp => by cases hp⟩
  | _ => exact pl_leaf_sub i hx hv
theorem pl_tops_sub : ∀ (i : Nat) (xs : List Value) (vs vs' : List V), xs.length = vs.length → (∀ (j : Nat) (x : Value) (v : V), xs[j]? = some x → vs[j]? = some v → Rep γ I x v) → outTops st keep i vs = some vs' →
    ((plTops γ st keep i xs vs).map (·.2.1)).Sublist (vs.flatMap V.toks) ∧ ∀ p ∈ plTops γ st keep i xs vs, PlOk γ I st keep p
  | _, [], [], _, _, _, _ => ⟨List.Sublist.refl _, fun p hp => by cases hp⟩
  | i, x :: xs, v :: vs, vs', hl, hr, ho => by
    simp only [outTops] at ho
    obtain ⟨q, hq, ho⟩ := bind_some ho
    obtain ⟨r, hr', rfl⟩ := map_some ho
    obtain ⟨h1, h2⟩ := pl_top_sub i (hr 0 x v rfl rfl) hq
    obtain ⟨h3, h4⟩ := pl_tops_sub (i + 16) xs vs r (by simpa using hl) (fun j x v hx hv => hr (j + 1) x v (by simpa using hx) (by simpa using hv)) hr'
    simp only [plTops, List.map_append, List.flatMap_cons]
    exact ⟨h1.append h3, fun p hp => (List.mem_append.1 hp).elim (h2 p) (h4 p)⟩
  | _, [], _ :: _, _, h, _, _ => by simp at h
  | _, _ :: _, [], _, h, _, _ => by simp at h
theorem outLeaf_pos {i : Nat} {x : Value} {v v' : V} (hv : outLeaf st keep i v = some v') : v'.leaf = true ∧ v'.tok = (plLeaf γ st keep i x v).map (·.1) := by
  have other : ∀ k, solid st (k + 1) v = (if v.pureLeaf then some v else none) → outLeaf st keep i v = solid st (k + 1) v → v.tok = [] → plLeaf γ st keep i x v = [] → v'.leaf = true ∧ v'.tok = (plLeaf γ st keep i x v).map (·.1) := by
    intro k h1 h2 h3 h4
    rw [h2, h1] at hv
    simp only [Option.ite_none_right_eq_some, Option.some.injEq] at hv
    obtain ⟨hp, rfl⟩ := hv
    exact ⟨pure_leaf hp, by rw [h4, h3]; rfl⟩
  cases v with
  | sl t nl n cs =>
    cases t with
    | none => exact other 5 rfl rfl rfl rfl
    | some q =>
      obtain ⟨u, z⟩ := q
      simp only [outLeaf, Option.some.injEq] at hv
      subst hv
      refine ⟨rfl, ?_⟩
      cases hk : (keep && st.tk u) <;> simp [V.tok, plLeaf, hk]
  | osl l u off n sz =>
    simp only [outLeaf] at hv
    obtain ⟨q, hq, hv⟩ := bind_some hv
    split at hv
    case h_2 => cases hv
    rename_i t nl n' cs
    obtain ⟨cs0, hcs, rfl⟩ := map_some hv
    refine ⟨rfl, ?_⟩
    have hk : keepsO st keep l u off n sz = (keep && Nat.beq off 0 && Nat.blt 0 n && Nat.beq (n * sz) cs0.length) := by simp only [keepsO, hcs]
    rw [← hk]
    cases hkk : keepsO st keep l u off n sz <;> simp [V.tok, plLeaf, hkk]
  | agg | tup | undef =>
    simp only [outLeaf, solid, V.pureLeaf, Bool.false_eq_true, if_false, reduceCtorEq] at hv
  | _ => exact other 5 rfl rfl rfl rfl
theorem outLeaf_ok (ho : Own γ I B st w Ω) (hz : Frozen γ B st w I I') {x : Value} {v v' : V} {i : Nat} (hx : Rep γ I x v) (hv : outLeaf st keep i v = some v') (hτ : ∀ p ∈ plLeaf γ st keep i x v, τ p.1 = p.2.2) :
    LRep τ I' x v' := by
  have other : outLeaf st keep i v = solid st 6 v → LRep τ I' x v' := by
    intro h
    rw [h] at hv
    obtain ⟨h1, h2⟩ := solid_ok ho hz 6 x v v' hx hv
    cases v' with
    | sl t nl n cs =>
      cases t with
      | none => exact h1
      | some q => simp [V.pureLeaf] at h2
    | _ => exact h1
  cases v with
  | sl t nl n cs =>
    cases t with
    | none => exact other rfl
    | some q =>
      obtain ⟨u, z⟩ := q
      simp only [outLeaf, Option.some.injEq] at hv
      subst hv
      cases hk : (keep && st.tk u) with
      | true =>
        have hm : (i, u, γ u) ∈ plLeaf γ st keep i x (.sl (some (u, z)) nl n cs) := by simp [plLeaf, hk, wantP]
        have ht := hτ _ hm
        simp only [if_true]
        have := hx.mono (γ' := γ) (fun _ _ h => h) hz.1
        cases this with
        | tsl _ b _ cap _ _ xs hu hlen hc hm' hi hl hr => exact Rep.tsl i b n cap z cs xs (ht.trans hu) hlen hc hm' hi hl hr
        | pure _ _ h => cases h
      | false =>
        simp only [Bool.false_eq_true, if_false]
        exact (pureRep hx (by simp [V.strip1, V.pureLeaf])).mono hz.1
  | osl l u off n sz =>
    simp only [outLeaf] at hv
    obtain ⟨q, hq, hv⟩ := bind_some hv
    obtain ⟨hrep, hpl⟩ := solid_ok ho hz 6 x _ q hx hq
    split at hv
    case h_2 => cases hv
    rename_i t nl n' cs
    have htn : t = none := by cases t <;> simp_all [V.pureLeaf]
    subst htn
    obtain ⟨cs0, hcs, rfl⟩ := map_some hv
    have hk : keepsO st keep l u off n sz = (keep && Nat.beq off 0 && Nat.blt 0 n && Nat.beq (n * sz) cs0.length) := by simp only [keepsO, hcs]
    rw [← hk]
    cases hkk : keepsO st keep l u off n sz with
    | false => exact hrep
    | true =>
      simp only [if_true]
      rw [hkk] at hk
      have hk := hk.symm
      simp only [Bool.and_eq_true] at hk
      obtain ⟨⟨⟨h1, h2⟩, h3⟩, h4⟩ := hk
      have h2 := Nat.eq_of_beq_eq_true h2
      have h3 : 0 < n := by simpa [Nat.blt_eq] using h3
      have h4 := Nat.eq_of_beq_eq_true h4
      subst h2
      obtain ⟨b, kb, ad, cap, hu, rfl, ha, hc, hm⟩ := inv_osl hx
      have hmem : (i, u, some (Place.tok b n cap sz)) ∈ plLeaf γ st keep i (.slice (some ad) n cap) (.osl l u 0 n sz) := by simp [plLeaf, hkk, wantP, hu]
      have ht := hτ _ hmem
      have hada := (ha (by omega)).1
      subst hada
      -- the form of what is solid
      simp only [solid, hcs, Option.bind_some, Option.ite_none_right_eq_some] at hq
      obtain ⟨_, hq⟩ := hq
      obtain ⟨cs', hcs', he⟩ := map_some hq
      simp only [V.sl.injEq, true_and] at he
      obtain ⟨rfl, rfl, rfl⟩ := he
      have hlen : cs'.length = n * sz := by
        have := (mapM_some hcs').1
        rw [this]
        simp only [List.length_take, List.length_drop]; omega
      cases hrep with
      | sl _ _ _ _ xs hs hc' hm' hi hl hr => exact Rep.tsl i b n cap sz cs' xs ht hlen hc hm (by simpa using hi) hl hr
  | agg | tup | undef =>
    simp only [outLeaf, solid, V.pureLeaf, Bool.false_eq_true, if_false, reduceCtorEq] at hv
  | _ => exact other rfl
theorem outList_ok (ho : Own γ I B st w Ω) (hz : Frozen γ B st w I I') : ∀ (xs : List Value) (vs vs' : List V) (i : Nat), xs.length = vs.length → (∀ (j : Nat) (x : Value) (v : V), xs[j]? = some x → vs[j]? = some v → Rep γ I x v) →
    outList st keep i vs = some vs' → (∀ p ∈ plList γ st keep i xs vs, τ p.1 = p.2.2) →
    vs'.length = vs.length ∧ (∀ (j : Nat) (x : Value) (v' : V), xs[j]? = some x → vs'[j]? = some v' → v'.leaf = true ∧ LRep τ I' x v')
  | [], [], vs', i, _, _, h, _ => by
    simp only [outList, Option.some.injEq] at h
    subst h
    exact ⟨rfl, fun j x v' h => by simp at h⟩
  | x :: xs, v :: vs, vs', i, hl, hr, h, hτ => by
    simp only [outList] at h
    obtain ⟨q, hq, h⟩ := bind_some h
    obtain ⟨r, hr', rfl⟩ := map_some h
    simp only [plList] at hτ
    obtain ⟨h1, h2⟩ := outList_ok ho hz xs vs r (i + 1) (by simpa using hl) (fun j x v hx hv => hr (j + 1) x v (by simpa using hx) (by simpa using hv)) hr' (fun p hp => hτ p (List.mem_append_right _ hp))
    have hleaf := outLeaf_ok ho hz (hr 0 x v rfl rfl) hq (fun p hp => hτ p (List.mem_append_left _ hp))
    have hpos := outLeaf_pos (γ := γ) (x := x) hq
    refine ⟨by simp [h1], fun j y u' hy hu' => ?_⟩
    cases j with
    | zero =>
      simp only [List.getElem?_cons_zero, Option.some.injEq] at hy hu'
      subst hy; subst hu'
      exact ⟨hpos.1, hleaf⟩
    | succ j => exact h2 j y u' (by simpa using hy) (by simpa using hu')
  | [], _ :: _, _, _, h, _, _, _ => by simp at h
  | _ :: _, [], _, _, h, _, _, _ => by simp at h
theorem lrep_trep {x : Value} {v : V} (h : LRep τ I x v) (hl : v.leaf = true) : TRep τ I x v ∧ (∀ vs, v ≠ .tup vs) := by
  cases v with
  | agg | tup | undef => cases hl
  | _ => exact ⟨h, fun _ h => by cases h⟩
theorem outTop_ok (ho : Own γ I B st w Ω) (hz : Frozen γ B st w I I') {x : Value} {v v' : V} {i : Nat} (hx : Rep γ I x v) (hv : outTop st keep i v = some v') (hτ : ∀ p ∈ plTop γ st keep i x v, τ p.1 = p.2.2) :
    TRep τ I' x v' ∧ (∀ vs, v' ≠ .tup vs) := by
  have leafCase : outLeaf st keep i v = some v' → plTop γ st keep i x v = plLeaf γ st keep i x v → TRep τ I' x v' ∧ (∀ vs, v' ≠ .tup vs) := by
    intro h1 h2
    rw [h2] at hτ
    exact lrep_trep (outLeaf_ok ho hz hx h1 hτ) (outLeaf_pos (γ := γ) (x := x) h1).1
  cases v with
  | agg cs =>
    simp only [outTop] at hv
    obtain ⟨r, hr, rfl⟩ := map_some hv
    obtain ⟨xs, rfl, h1, h2, h3⟩ := inv_agg hx
    obtain ⟨k1, k2⟩ := outList_ok ho hz xs.toList cs r i (by simpa using h1) (fun j x v hx hv => h3 j x v (by simpa using hx) hv) hr hτ
    refine ⟨⟨xs, rfl, h1.trans k1.symm, fun j u hu => ?_, fun j y u hy hu => (k2 j y u (by simpa using hy) hu).2⟩, (fun vs h => by cases h)⟩
    have hj : j < xs.size := by have := (List.getElem?_eq_some_iff.1 hu).1; omega
    exact (k2 j xs[j] u (by rw [Array.getElem?_toList]; exact Array.getElem?_eq_getElem hj) hu).1
  | fn f as bs =>
    simp only [outTop, Option.ite_none_right_eq_some, Option.some.injEq] at hv
    obtain ⟨hp, rfl⟩ := hv
    exact ⟨(strip_pure hx hp).mono hz.1, (fun vs h => by simp [V.strip] at h)⟩
  | _ => exact leafCase hv rfl
theorem outTops_ok (ho : Own γ I B st w Ω) (hz : Frozen γ B st w I I') : ∀ (xs : List Value) (vs vs' : List V) (i : Nat), xs.length = vs.length → (∀ (j : Nat) (x : Value) (v : V), xs[j]? = some x → vs[j]? = some v → Rep γ I x v) →
    outTops st keep i vs = some vs' → (∀ p ∈ plTops γ st keep i xs vs, τ p.1 = p.2.2) →
    vs'.length = vs.length ∧ (∀ (j : Nat) (x : Value) (v' : V), xs[j]? = some x → vs'[j]? = some v' → TRep τ I' x v' ∧ ∀ vs, v' ≠ .tup vs)
  | [], [], vs', i, _, _, h, _ => by
    simp only [outTops, Option.some.injEq] at h
    subst h
    exact ⟨rfl, fun j x v' h => by simp at h⟩
  | x :: xs, v :: vs, vs', i, hl, hr, h, hτ => by
    simp only [outTops] at h
    obtain ⟨q, hq, h⟩ := bind_some h
    obtain ⟨r, hr', rfl⟩ := map_some h
    simp only [plTops] at hτ
    obtain ⟨h1, h2⟩ := outTops_ok ho hz xs vs r (i + 16) (by simpa using hl) (fun j x v hx hv => hr (j + 1) x v (by simpa using hx) (by simpa using hv)) hr' (fun p hp => hτ p (List.mem_append_right _ hp))
    have htop := outTop_ok ho hz (hr 0 x v rfl rfl) hq (fun p hp => hτ p (List.mem_append_left _ hp))
    refine ⟨by simp [h1], fun j y u' hy hu' => ?_⟩
    cases j with
    | zero =>
      simp only [List.getElem?_cons_zero, Option.some.injEq] at hy hu'
      subst hy; subst hu'
      exact htop
    | succ j => exact h2 j y u' (by simpa using hy) (by simpa using hu')
  | [], _ :: _, _, _, h, _, _, _ => by simp at h
  | _ :: _, [], _, _, h, _, _, _ => by simp at h
theorem leaf_toks {v : V} (h : v.leaf = true) : v.toks = v.tok := by
  cases v with
  | agg | tup | undef => cases h
  | _ => rfl
theorem outList_pos : ∀ (xs : List Value) (vs vs' : List V) (i : Nat), xs.length = vs.length → outList st keep i vs = some vs' → vs'.flatMap V.tok = (plList γ st keep i xs vs).map (·.1)
  | [], [], vs', i, _, h => by
    simp only [outList, Option.some.injEq] at h
    subst h
    rfl
  | x :: xs, v :: vs, vs', i, hl, h => by
    simp only [outList] at h
    obtain ⟨q, hq, h⟩ := bind_some h
    obtain ⟨r, hr, rfl⟩ := map_some h
    simp only [plList, List.map_append, List.flatMap_cons, (outLeaf_pos (γ := γ) (x := x) hq).2, outList_pos xs vs r (i + 1) (by simpa using hl) hr]
  | [], _ :: _, _, _, h, _ => by simp at h
  | _ :: _, [], _, _, h, _ => by simp at h
theorem outTop_pos {x : Value} {v v' : V} {i : Nat} (hx : Rep γ I x v) (hv : outTop st keep i v = some v') : v'.toks = (plTop γ st keep i x v).map (·.1) := by
  have leafCase : outLeaf st keep i v = some v' → plTop γ st keep i x v = plLeaf γ st keep i x v → v'.toks = (plTop γ st keep i x v).map (·.1) := fun h1 h2 => by
    obtain ⟨h3, h4⟩ := outLeaf_pos (γ := γ) (x := x) h1
    rw [h2, leaf_toks h3, h4]
  cases v with
  | agg cs =>
    simp only [outTop] at hv
    obtain ⟨r, hr, rfl⟩ := map_some hv
    obtain ⟨xs, rfl, h1, h2, h3⟩ := inv_agg hx
    exact outList_pos xs.toList cs r i (by simpa using h1) hr
  | fn f as bs =>
    simp only [outTop, Option.ite_none_right_eq_some, Option.some.injEq] at hv
    obtain ⟨hp, rfl⟩ := hv
    rfl
  | _ => exact leafCase hv rfl
theorem outTops_pos : ∀ (xs : List Value) (vs vs' : List V) (i : Nat), xs.length = vs.length → (∀ (j : Nat) (x : Value) (v : V), xs[j]? = some x → vs[j]? = some v → Rep γ I x v) → outTops st keep i vs = some vs' →
    vs'.flatMap V.toks = (plTops γ st keep i xs vs).map (·.1)
  | [], [], vs', i, _, _, h => by
    simp only [outTops, Option.some.injEq] at h
    subst h
    rfl
  | x :: xs, v :: vs, vs', i, hl, hr, h => by
    simp only [outTops] at h
    obtain ⟨q, hq, h⟩ := bind_some h
    obtain ⟨r, hr', rfl⟩ := map_some h
    simp only [plTops, List.map_append, List.flatMap_cons, outTop_pos (hr 0 x v rfl rfl) hq, outTops_pos xs vs r (i + 16) (by simpa using hl) (fun j x v hx hv => hr (j + 1) x v (by simpa using hx) (by simpa using hv)) hr']
  | [], _ :: _, _, _, h, _, _ => by simp at h
  | _ :: _, [], _, _, h, _, _ => by simp at h
/-- The result as one value. -/
def resVal (xs : List Value) : Value :=
  match xs with
  | [x] => x
  | xs => .tuple xs.toArray
end
section
variable {P : Program} {E : Env} {w0 w : World} {I0 : IMap} {nt : Nat} {γ τ : Nat → Option Place} {I I' : IMap} {st : St} {a : Act} {B : Nat} {Ω : Nat → Option Owner}
def resOne (tmps : Array Value) : ResultVar → Sem Value
  | .tmp t => pure (tmps.getD t undef)
  | .cell a t => do loadVar t (← asAddr (tmps.getD a undef))
theorem resOne_ok (hR : R E w0 I0 nt γ I st a w) {rv : ResultVar} {r : ARes} {v : V} (hc : compRes P rv = some r) (hv : resOf st r = some v) : ∃ x, (resOne a.tmps rv).run P w = .ok x w ∧ Rep γ I x v := by
  cases rv with
  | tmp t =>
    simp only [compRes, Option.some.injEq] at hc
    subst hc
    simp only [resOf, Option.some.injEq] at hv
    subst hv
    exact ⟨_, rfl, hR.tm t⟩
  | cell n t =>
    simp only [compRes] at hc
    obtain ⟨g, hg, rfl⟩ := map_some hc
    simp only [resOf] at hv
    split at hv
    · rename_i l u off he
      have hr := hR.tm n
      rw [he] at hr
      obtain ⟨b, kb, hu, hx'⟩ := inv_ptr hr
      obtain ⟨cs, hcs, hpk⟩ := bind_some hv
      obtain ⟨B, hob, hB⟩ := objCells_inv hcs
      obtain ⟨arr, e, m1, m2, m4, m3⟩ := obj_row hR hob hB hu
      have hget : ∀ j, off + j < cs.length → arr[off + j]? = some (arr.getD (off + j) undef) := by
        intro j hj
        have : off + j < arr.size := by omega
        simp [this]
      obtain ⟨h4, h5⟩ := load_rep (γ := γ) (I := I) hpk (fun j => arr.getD (off + j) undef) (fun j u hj hu => m3 _ _ _ (hget j (List.getElem?_eq_some_iff.1 hu).1) hu)
      refine ⟨_, ?_, h5⟩
      simp only [resOne, hx', asAddr, Sem.run_bind, Sem.run_pure, Result.andThen_ok]
      exact run_loadRow hg (fun j => arr.getD (off + j) undef) _ rfl (fun j hj => by
        simp only [World.cell?, m1, Option.isSome_none, Bool.false_eq_true, if_false]
        exact hget j (h4 j hj))
    · cases hv
theorem resList_ok (hR : R E w0 I0 nt γ I st a w) : ∀ (rvs : List ResultVar) (rs : List ARes) (vs : List V), rvs.mapM (compRes P) = some rs → rs.mapM (resOf st) = some vs →
    ∃ xs : List Value, xs.length = vs.length ∧ (rvs.mapM (resOne a.tmps)).run P w = .ok xs w ∧ ∀ (j : Nat) (x : Value) (v : V), xs[j]? = some x → vs[j]? = some v → Rep γ I x v
  | [], rs, vs, h1, h2 => by
    simp at h1
    subst h1
    simp at h2
    subst h2
    exact ⟨[], rfl, rfl, fun j x v h => by simp at h⟩
  | rv :: rvs, rs, vs, h1, h2 => by
    simp only [List.mapM_cons] at h1
    cases ha : compRes P rv with
    | none => simp [ha] at h1
    | some r =>
      cases hl : rvs.mapM (compRes P) with
      | none => simp [ha, hl] at h1
      | some rs' =>
        simp [ha, hl] at h1
        subst h1
        simp only [List.mapM_cons] at h2
        cases hv : resOf st r with
        | none => simp [hv] at h2
        | some v =>
          cases hvl : rs'.mapM (resOf st) with
          | none => simp [hv, hvl] at h2
          | some vs' =>
            simp [hv, hvl] at h2
            subst h2
            obtain ⟨x, k1, k2⟩ := resOne_ok hR ha hv
            obtain ⟨xs, k3, k4, k5⟩ := resList_ok hR rvs rs' vs' hl hvl
            refine ⟨x :: xs, by simp [k3], ?_, fun j y u hy hu => ?_⟩
            · simp only [List.mapM_cons, Sem.run_bind, k1, Result.andThen_ok, k4, Sem.run_pure]
            · cases j with
              | zero =>
                simp only [List.getElem?_cons_zero, Option.some.injEq] at hy hu
                subst hy; subst hu
                exact k2
              | succ j => exact k5 j y u (by simpa using hy) (by simpa using hu)
theorem results_ok (hR : R E w0 I0 nt γ I st a w) {fn : Func} {rs : List ARes} {vs : List V} (h1 : fn.results.toList.mapM (compRes P) = some rs) (h2 : rs.mapM (resOf st) = some vs) :
    ∃ xs : List Value, xs.length = vs.length ∧ (results fn a.tmps).run P w = .ok (resVal xs) w ∧ ∀ (j : Nat) (x : Value) (v : V), xs[j]? = some x → vs[j]? = some v → Rep γ I x v := by
  obtain ⟨xs, k1, k2, k3⟩ := resList_ok hR _ _ _ h1 h2
  refine ⟨xs, k1, ?_, k3⟩
  have he : (results fn a.tmps) = (fn.results.mapM (resOne a.tmps) >>= fun vs => pure (if h : vs.size = 1 then vs[0] else .tuple vs)) := by
    unfold results
    congr 1
  rw [he, Array.mapM_eq_mapM_toList]
  simp only [map_eq_pure_bind, Sem.run_bind, k2, Result.andThen_ok, Sem.run_pure]
  congr 1
  match xs with
  | [] => rfl
  | [x] => rfl
  | x :: y :: r => simp [resVal]
theorem assoc_find {β : Type} {l : List (Nat × β)} (hn : (l.map (·.1)).Nodup) {i : Nat} {u : β} (hm : (i, u) ∈ l) : (l.find? fun p => Nat.beq p.1 i) = some (i, u) := by
  induction l with
  | nil => cases hm
  | cons p l ih =>
    obtain ⟨j, v⟩ := p
    simp only [List.map_cons, List.nodup_cons] at hn
    rcases List.mem_cons.1 hm with he | hm
    · cases he
      simp [List.find?, Nat.beq_refl]
    · have hne : ¬ j = i := fun e => hn.1 (List.mem_map.2 ⟨_, hm, e.symm⟩)
      have : Nat.beq j i = false := by
        cases h : Nat.beq j i with
        | false => rfl
        | true => exact absurd (Nat.eq_of_beq_eq_true h) hne
      simp only [List.find?, this]
      exact ih hn.2 hm
/-- What the caller has of the result of a call alone. -/
theorem out_ok (hR : R E w0 I0 nt γ I st a w) {xs : List Value} {vs : List V} {r : V} (hlen : xs.length = vs.length) (hr : ∀ (j : Nat) (x : Value) (v : V), xs[j]? = some x → vs[j]? = some v → Rep γ I x v)
    (ho : outRes st vs = some r) :
    ∃ τ I', (∀ b o x, I b o = some x → I' b o = some x) ∧ ImmOk I' w ∧ (∀ b o, b < w0.heap.size → I' b o = I b o) ∧ RRep τ I' (resVal xs) r ∧ TokNew w0.heap.size τ I' w r := by
  classical
  obtain ⟨Ω, hown⟩ := hR.own
  let C : Nat → Nat → Prop := fun b o => w0.heap.size ≤ b ∧ ∃ l u cs k, ObRow st.ob l u cs ∧ γ u = some (.obj b k) ∧ o < cs.length
  let I' : IMap := fun b o => match I b o with
    | some x => some x
    | none => if C b o then w.cell? ⟨b, o, none⟩ else none
  have hmono : ∀ b o x, I b o = some x → I' b o = some x := by
    intro b o x h
    simp only [I', h]
  have hz : Frozen γ w0.heap.size st w I I' := ⟨hmono, fun b k o x l u cs hb hl hu hlt hc => by
    obtain ⟨B, hl0, _⟩ := id hl
    obtain ⟨b', k', k1, _, _, _, k5⟩ := hown.ob l _ hl0
    rw [hu] at k1
    cases k1
    simp only [I', k5]
    rw [if_pos ⟨hb, l, u, cs, k, hl, hu, hlt⟩]
    exact hc⟩
  have himm : ImmOk I' w := by
    intro b o x h
    simp only [I'] at h
    split at h
    · rename_i y hy
      cases h
      exact hR.imm _ _ _ hy
    · split at h
      · exact h
      · cases h
  have hold : ∀ b o, b < w0.heap.size → I' b o = I b o := by
    intro b o hb
    simp only [I']
    split
    · rename_i y hy; exact hy.symm
    · rename_i hy
      rw [if_neg (fun h => Nat.not_lt_of_le h.1 hb)]
      exact hy.symm
  unfold outRes at ho
  obtain ⟨l, hl, ho⟩ := bind_some ho
  simp only [Option.ite_none_right_eq_some] at ho
  obtain ⟨hnd, hre⟩ := ho
  generalize hkeep : nodup (vs.flatMap V.toks) = keep at hl
  let pl := plTops γ st keep 0 xs vs
  let τ : Nat → Option Place := fun i => (pl.find? fun p => Nat.beq p.1 i).bind fun p => p.2.2
  obtain ⟨hsub, hpk⟩ := pl_tops_sub (γ := γ) (I := I) 0 xs vs l hlen hr hl
  have hpos := outTops_pos (γ := γ) (I := I) xs vs l 0 hlen hr hl
  have hfst : (pl.map (·.1)).Nodup := by
    rw [← hpos]
    exact nodup_spec hnd
  have hτ : ∀ p ∈ pl, τ p.1 = p.2.2 := by
    intro p hp
    obtain ⟨i, u⟩ := p
    simp only [τ, assoc_find hfst hp, Option.bind_some]
  obtain ⟨h1, h2⟩ := outTops_ok (τ := τ) hown hz xs vs l 0 hlen hr hl hτ
  have htoks : toksRes r = pl.map (·.1) := by
    rw [← hpos]
    match l, h2, hre with
    | [], _, rfl => rfl
    | [v], h2, rfl =>
      match xs, hlen, h1 with
      | [x], _, _ =>
        have := (h2 0 x v rfl rfl).2
        simp only [List.flatMap_cons, List.flatMap_nil, List.append_nil]
        cases v <;> first | rfl | exact absurd rfl (this _)
      | [], e1, e2 => simp at e1 e2; omega
      | _ :: _ :: _, e1, e2 => simp at e1 e2; omega
    | v :: v' :: l', _, rfl => rfl
  have hrep : RRep τ I' (resVal xs) r := by
    have hll : xs.length = l.length := hlen.trans h1.symm
    match l, xs, hll, h2, hre with
    | [], [], _, _, rfl => exact ⟨#[], rfl, rfl, fun j y u hy => by simp at hy⟩
    | [v], [x], _, h2, rfl =>
      obtain ⟨k1, k2⟩ := h2 0 x v rfl rfl
      cases v <;> first | exact k1 | exact absurd rfl (k2 _)
    | v :: v' :: l', x :: x' :: xs', e, h2, rfl => exact ⟨(x :: x' :: xs').toArray, rfl, by simpa using e, fun j y u hy hu => (h2 j y u (by simpa using hy) hu).1⟩
  refine ⟨τ, I', hmono, himm, hold, hrep, ?_⟩
  have hsnd : keep = true → (pl.map (·.2.1)).Nodup := fun hk => hsub.nodup (nodup_spec (by rw [hkeep, hk]))
  -- whose block it is
  have hwho : ∀ p ∈ pl, ∃ b n cap sz, p.2.2 = some (.tok b n cap sz) ∧ w0.heap.size ≤ b ∧ b < w.heap.size ∧ TokOk w.heap[b]? n cap sz ∧ (∀ j, n * sz ≤ j → I' b j = none) ∧
      (Ω b = some (.tk p.2.1) ∨ ∃ l cs k, Ω b = some (.ob l) ∧ ObRow st.ob l p.2.1 cs ∧ γ p.2.1 = some (.obj b k)) := by
    intro p hp
    obtain ⟨hk, hu | ⟨l, cs, b, k, n, cap, sz, q1, q2, q3, q4, q5, q6, q7, q8, q9⟩⟩ := hpk p hp
    · obtain ⟨b, n, cap, sz, q1, q2, q3, q4, q5⟩ := hown.tk p.2.1 hu.1
      refine ⟨b, n, cap, sz, hu.2.trans q1, q3, hown.lt _ _ q2, q4, fun j hj => ?_, .inl q2⟩
      have hn := q5 j hj
      simp only [I', hn]
      rw [if_neg]
      rintro ⟨_, l', u', cs', k', ⟨_, r1, _⟩, r2, _⟩
      obtain ⟨b', k'', t1, t2, _⟩ := hown.ob l' _ r1
      rw [r2] at t1
      cases t1
      rw [q2] at t2
      cases t2
    · have q1' := q1
      obtain ⟨B1, q1, hB1⟩ := q1
      obtain ⟨b', k', t1, t2, t3, t4, t5⟩ := hown.ob l _ q1
      obtain ⟨arr, e, g1, g2, g3, g4⟩ := row_ok t4 hB1
      rw [q2] at t1
      cases t1
      refine ⟨b, n, cap, sz, q3, t3 (by simpa [Nat.ble_eq] using q9), hown.lt _ _ t2, ⟨arr, e, g1, by rw [g2]; exact q8, q6, q7⟩, fun j hj => ?_, .inr ⟨l, cs, k, t2, q1', q2⟩⟩
      simp only [I', t5]
      rw [if_neg]
      rintro ⟨_, l', u', cs', k', ⟨B2, r1, hB2⟩, r2, r3⟩
      obtain ⟨b', k'', s1, s2, _⟩ := hown.ob l' _ r1
      rw [r2] at s1
      cases s1
      rw [t2] at s2
      cases s2
      rw [q1] at r1
      cases r1
      have := hB1.inj hB2
      subst this
      omega
  intro i hi
  rw [htoks] at hi
  obtain ⟨⟨i', u, pp⟩, hp, rfl⟩ := List.mem_map.1 hi
  obtain ⟨b, n, cap, sz, q1, q2, q3, q4, q5, q6⟩ := hwho _ hp
  refine ⟨b, n, cap, sz, (hτ _ hp).trans q1, q2, q3, q4, q5, fun i2 hi2 n' c' s' he => ?_⟩
  rw [htoks] at hi2
  obtain ⟨⟨i3, u3, pp3⟩, hp3, rfl⟩ := List.mem_map.1 hi2
  obtain ⟨b3, n3, cap3, sz3, r1, r2, r3, r4, r5, r6⟩ := hwho _ hp3
  have e3 := (hτ _ hp3).symm.trans he
  simp only at e3
  simp only at r1
  rw [r1] at e3
  cases e3
  have hk := (hpk _ hp).1
  have huu : u3 = u := by
    simp only at q6 r6
    rcases q6 with q6 | ⟨l, cs, k, q6, q7, q8⟩ <;> rcases r6 with r6 | ⟨l', cs', k', r6, r7, r8⟩
    · rw [q6] at r6; cases r6; rfl
    · rw [q6] at r6; cases r6
    · rw [q6] at r6; cases r6
    · rw [q6] at r6; cases r6
      obtain ⟨_, q7, _⟩ := q7
      obtain ⟨_, r7, _⟩ := r7
      rw [q7] at r7; cases r7; rfl
  subst huu
  have := hsnd hk
  obtain ⟨k, hk1, hk2⟩ := List.getElem_of_mem hp
  obtain ⟨k', hk3, hk4⟩ := List.getElem_of_mem hp3
  have hkk : k' = k := by
    refine (List.getElem_inj (xs := pl.map (·.2.1)) (h₀ := by simpa using hk3) (h₁ := by simpa using hk1) this).1 ?_
    simp [hk2, hk4]
  subst hkk
  rw [hk2] at hk4
  cases hk4
  rfl
end
section
variable {P : Program} {E : Env} {τ : Nat → Option Place} {I I' I1 : IMap} {B : Nat}
theorem free_leaf (hII : ∀ b o, B ≤ b → I' b o = I1 b o) {x : Value} {v : V} (h : LRep τ I1 x v) (hf : v.freeL = true) (ht : ∀ i ∈ v.tok, ∃ b n cap sz, τ i = some (.tok b n cap sz) ∧ B ≤ b) : LRep τ I' x v := by
  cases v with
  | sl t nl n cs =>
    cases t with
    | none => exact scal_rep (show RepP I1 x _ from h) hf
    | some q =>
      obtain ⟨u, z⟩ := q
      have h' : Rep τ I1 x (.sl (some (u, z)) nl n cs) := h
      cases h' with
      | pure _ _ h => cases h
      | tsl _ b _ cap _ _ xs hu hlen hc hm hi hl hr =>
        obtain ⟨b', n', cap', sz', k1, k2⟩ := ht u (by simp [V.tok])
        rw [hu] at k1
        cases k1
        refine Rep.tsl u b n cap z cs xs hu hlen hc hm (fun j hj => (hII _ _ k2).trans (hi j hj)) hl (fun j v hv => scal_rep (hr j v hv) ?_)
        exact List.all_eq_true.1 (show cs.all V.scal = true from hf) v (List.mem_of_getElem? hv)
  | osl l u off n sz => cases hf
  | _ => first | (cases hf; done) | exact scal_rep (show RepP I1 x _ from h) hf
theorem trepL_eq {x : Value} {v : V} (h : ∀ cs, v ≠ .agg cs) : TRep τ I x v = LRep τ I x v := by
  cases v <;> first | rfl | exact absurd rfl (h _)
theorem rrepT_eq {x : Value} {v : V} (h : ∀ cs, v ≠ .tup cs) : RRep τ I x v = TRep τ I x v := by
  cases v <;> first | rfl | exact absurd rfl (h _)
theorem free_top (hII : ∀ b o, B ≤ b → I' b o = I1 b o) {x : Value} {v : V} (h : TRep τ I1 x v) (hf : v.freeT = true) (ht : ∀ i ∈ v.toks, ∃ b n cap sz, τ i = some (.tok b n cap sz) ∧ B ≤ b) : TRep τ I' x v := by
  cases v with
  | agg cs =>
    obtain ⟨xs, rfl, h1, h2, h3⟩ := h
    refine ⟨xs, rfl, h1, h2, fun j y u hy hu => ?_⟩
    have hm := List.mem_of_getElem? hu
    exact free_leaf hII (h3 j y u hy hu) (List.all_eq_true.1 (show cs.all V.freeL = true from hf) u hm) (fun i hi => ht i (List.mem_flatMap.2 ⟨u, hm, hi⟩))
  | _ => rw [trepL_eq (fun _ h => by cases h)] at h ⊢; exact free_leaf hII h hf ht
theorem free_res (hII : ∀ b o, B ≤ b → I' b o = I1 b o) {x : Value} {v : V} (h : RRep τ I1 x v) (hf : v.freeR = true) (ht : ∀ i ∈ toksRes v, ∃ b n cap sz, τ i = some (.tok b n cap sz) ∧ B ≤ b) : RRep τ I' x v := by
  cases v with
  | tup vs =>
    obtain ⟨xs, rfl, h1, h2⟩ := h
    refine ⟨xs, rfl, h1, fun j y u hy hu => ?_⟩
    have hm := List.mem_of_getElem? hu
    exact free_top hII (h2 j y u hy hu) (List.all_eq_true.1 (show vs.all V.freeT = true from hf) u hm) (fun i hi => ht i (List.mem_flatMap.2 ⟨u, hm, hi⟩))
  | _ => rw [rrepT_eq (fun _ h => by cases h)] at h ⊢; exact free_top hII h hf ht
theorem frz_ok {f : FuncId} {args args' : List V} {ob : Nat → Option Obj'} {ub : Nat} {r : V} (hp : PureOk P E f args' r) (ha : args.mapM (frzTop ob) = some args') (hr : r.freeR = true) : ObsOk P E f args ob ub r := by
  intro w0 w I0 I γ xs st hob hSh hfr hsz hrep
  obtain ⟨hlen, hget⟩ := frz_args hob hSh ha hrep
  have hlt : ∀ b o x, I b o = some x → b < w.heap.size := by
    intro b o x hx
    have := hSh.imm b o x hx
    apply Classical.byContradiction
    intro hn
    have hb : w.heap[b]? = none := Array.getElem?_eq_none (by omega)
    simp [World.cell?, hb] at this
  refine (hp w (fun b o => w.cell? ⟨b, o, none⟩) xs (fun _ _ _ h => h) (fun g cs hg => (hSh.gl g cs hg).mono hSh.imm) (hsz.trans hlen.symm) hget).mono fun e w' he => ?_
  · obtain ⟨x, τ, I1, rfl, hg, hI, him, hold, hx, ht⟩ := he
    have hge : ∀ b o, w.heap.size ≤ b → (fun b o => if b < w.heap.size then I b o else I1 b o) b o = I1 b o := fun b o h => if_neg (by omega)
    refine ⟨x, τ, fun b o => if b < w.heap.size then I b o else I1 b o, rfl, hg, fun b o y hy => ?_, fun b o y hy => ?_, fun b o hb => if_pos hb, free_res hge hx hr (fun i hi => ?_), fun i hi => ?_⟩
    · simp only [hlt b o y hy, if_true]; exact hy
    · simp only at hy
      split at hy
      · exact him b o y (hI b o y (hSh.imm b o y hy))
      · exact him b o y hy
    · obtain ⟨b, n, cap, sz, k1, k2, _⟩ := ht i hi
      exact ⟨b, n, cap, sz, k1, k2⟩
    · obtain ⟨b, n, cap, sz, k1, k2, k3, k4, k5, k6⟩ := ht i hi
      exact ⟨b, n, cap, sz, k1, k2, k3, k4, fun j hj => (hge b j k2).trans (k5 j hj), k6⟩
end
end Go.Pv
namespace Go.Pv
open Go Go.Sort
theorem insI_perm (x : Int) : ∀ l : List Int, (insI x l).Perm (x :: l)
  | [] => List.Perm.refl _
  | y :: r => by
    unfold insI
    split
    · exact List.Perm.refl _
    · exact ((insI_perm x r).cons y).trans (List.Perm.swap x y r)
theorem sortI_perm : ∀ l : List Int, (sortI l).Perm l
  | [] => List.Perm.refl _
  | x :: r => (insI_perm x (sortI r)).trans ((sortI_perm r).cons x)
theorem insI_pw (x : Int) : ∀ {l : List Int}, l.Pairwise (· ≤ ·) → (insI x l).Pairwise (· ≤ ·)
  | [], _ => by simp [insI]
  | y :: r, h => by
    unfold insI
    rw [List.pairwise_cons] at h
    split
    · rename_i hxy
      exact List.pairwise_cons.2 ⟨fun z hz => by
        rcases List.mem_cons.1 hz with rfl | hz
        · exact hxy
        · exact Int.le_trans hxy (h.1 z hz), List.pairwise_cons.2 h⟩
    · refine List.pairwise_cons.2 ⟨fun z hz => ?_, insI_pw x h.2⟩
      rcases List.mem_cons.1 ((insI_perm x r).mem_iff.1 hz) with rfl | hz
      · omega
      · exact h.1 z hz
theorem sortI_pw : ∀ l : List Int, (sortI l).Pairwise (· ≤ ·)
  | [] => List.Pairwise.nil
  | x :: r => insI_pw x (sortI_pw r)
theorem perm_one : ∀ {S C : List Int}, S.Perm C → S.Pairwise (· ≤ ·) → C.Pairwise (· ≤ ·) → S = C
  | [], C, h, _, _ => (List.nil_perm.1 h).symm
  | x :: r, C, h, hs, hc => by
    cases C with
    | nil => exact absurd h.length_eq (by simp)
    | cons y q =>
      rw [List.pairwise_cons] at hs hc
      have e : x = y := by
        rcases List.mem_cons.1 (h.mem_iff.1 (List.mem_cons_self ..)) with h1 | h1
        · exact h1
        · rcases List.mem_cons.1 (h.mem_iff.2 (List.mem_cons_self (l := q))) with h2 | h2
          · exact h2.symm
          · have := hs.1 y h2
            have := hc.1 x h1
            omega
      subst e
      rw [perm_one ((List.perm_cons x).1 h) hs.2 hc.2]
theorem insP_len (x : Int × Int) : ∀ l, (insP x l).length = l.length + 1
  | [] => rfl
  | y :: r => by
    unfold insP
    split
    · rfl
    · simp [insP_len x r]
theorem sortP_len : ∀ l, (sortP l).length = l.length
  | [] => rfl
  | x :: r => by rw [sortP, insP_len, sortP_len r]; rfl
theorem flatI_len : ∀ l, (flatI l).length = l.length * 2
  | [] => rfl
  | p :: r => by simp [flatI, flatI_len r]; omega
theorem pairsI_len : ∀ (n : Nat) (l : List Int), l.length = n * 2 → (pairsI l).length = n
  | 0, l, h => by
    have : l = [] := List.length_eq_zero_iff.1 (by omega)
    subst this
    rfl
  | n + 1, a :: b :: r, h => by
    rw [pairsI, List.length_cons, pairsI_len n r (by simp at h; omega)]
  | n + 1, [], h => by simp at h
  | n + 1, [a], h => by simp at h; omega
theorem srtIs_len {m : Option FuncId} {n : Nat} {zs : List Int} (h : zs.length = n * srtSz m) : (srtIs m zs).length = zs.length := by
  cases m with
  | none => exact (sortI_perm zs).length_eq
  | some g =>
    have h : zs.length = n * 2 := h
    show (flatI (sortP (pairsI zs))).length = _
    rw [flatI_len, sortP_len, pairsI_len n zs h, h]
theorem sortI_merge (l : List Int) : l.mergeSort (fun x y => decide (x ≤ y)) = sortI l := by
  refine perm_one ((List.mergeSort_perm l _).trans (sortI_perm l).symm) ?_ (sortI_pw l)
  have := List.pairwise_mergeSort (le := fun x y : Int => decide (x ≤ y)) (fun a b c h1 h2 => by simp at *; omega) (fun a b => by simp; omega) l
  exact this.imp fun h => by simpa using h
section
variable {P : Program} {E : Env} {w0 w : World} {I0 : IMap} {γ : Nat → Option Place} {I : IMap} {st : St}
/-- An object that is no map is changed; more blocks come. -/
theorem Sh.turnG (h : Sh E w0 I0 γ I st w) {l u b : Nat} {k : Kd} {body : OBody} (hl : st.ob l = some ⟨u, body⟩) (hu : γ u = some (.obj b k)) (hro : Nat.ble st.ro u = true) {o' : Obj} {w' : World} {body' : OBody}
    (hos : w'.os = w.os ∧ w'.tape = w.tape ∧ w'.output = w.output) (hsz : w.heap.size ≤ w'.heap.size) (hk : ∀ j, j < w.heap.size → j ≠ b → w'.heap[j]? = w.heap[j]?) (hb : w'.heap[b]? = some o')
    (hbody : ObjOk γ I st.ob w.heap k (some o') body') (hnm : ∀ v es, body' ≠ .mp v es) :
    Sh E w0 I0 γ I { st with ob := upd st.ob l (some ⟨u, body'⟩) } w' := by
  obtain ⟨Ω, ho⟩ := h.own
  obtain ⟨b', k', h1, h2, h3, _, h5⟩ := ho.ob l _ hl
  rw [hu] at h1
  cases h1
  have hkeep : MapsKeep γ st.ob (upd st.ob l (some ⟨u, body'⟩)) w.heap w'.heap := by
    intro l2 u2 ver' es' mb mk hu2 hl2
    rw [upd_apply] at hl2
    split at hl2
    · simp only [Option.some.injEq, Obj'.mk.injEq] at hl2
      exact absurd hl2.2 (hnm _ _)
    · rename_i hne
      refine .inl ⟨hl2, fun m c hm => ?_⟩
      obtain ⟨b2, k2, q1, q2, _⟩ := ho.ob l2 _ hl2
      rw [hu2] at q1
      cases q1
      rw [hk _ (ho.lt _ _ q2) (fun e => by
        subst e
        rw [h2] at q2
        cases q2
        exact hne rfl)]
      exact hm
  refine ⟨fun b2 o2 x hx => ?_, h.gl, ⟨Ω, ⟨fun l2 x hl2 => ?_, fun u2 hu2 => ?_, fun b2 ow hb2 => ?_⟩⟩, ?_, h.old⟩
  · have hne : b2 ≠ b := fun e => by rw [e, h5] at hx; cases hx
    have hc := h.imm _ _ _ hx
    rw [World.cell?_of_block (w := w) (w' := w') (a := ⟨b2, o2, none⟩) (hk b2 (World.block_lt_of_cell? _ _ hc) hne)]
    exact hc
  · simp only at hl2
    rw [upd_apply] at hl2
    split at hl2
    · rename_i e
      subst e
      cases hl2
      refine ⟨b, k, hu, h2, h3, ?_, h5⟩
      rw [hb]
      exact hbody.keep hkeep
    · rename_i hne
      obtain ⟨b2, k2, q1, q2, q3, q4, q5⟩ := ho.ob l2 x hl2
      have hbb : b2 ≠ b := fun e => by
        subst e
        rw [h2] at q2
        cases q2
        exact hne rfl
      exact ⟨b2, k2, q1, q2, q3, by rw [hk _ (ho.lt _ _ q2) hbb]; exact q4.keep hkeep, q5⟩
  · obtain ⟨b2, n, cap, sz, q1, q2, q3, q4, q5⟩ := ho.tk u2 hu2
    have hbb : b2 ≠ b := fun e => by subst e; rw [h2] at q2; cases q2
    exact ⟨b2, n, cap, sz, q1, q2, q3, by rw [hk _ (ho.lt _ _ q2) hbb]; exact q4, q5⟩
  · exact Nat.lt_of_lt_of_le (ho.lt _ _ hb2) hsz
  · exact Grow.frame h.fr (T := fun k => k = b) ⟨hos.1, hos.2.1, hos.2.2, hsz, fun k hk' hne => hk k hk' hne, fun k hk' => hk' ▸ h3 (by simpa [Nat.ble_eq] using hro)⟩
theorem ints_map {l : List V} {zs : List Int} (h : l.mapM int64? = some zs) : l = zs.map (.int .i64) := by
  obtain ⟨h1, h2⟩ := mapM_some h
  apply List.ext_getElem?
  intro j
  rcases Nat.lt_or_ge j l.length with hj | hj
  · have hj' : j < zs.length := by omega
    have := h2 j _ _ (List.getElem?_eq_getElem hj) (List.getElem?_eq_getElem hj')
    rw [List.getElem?_map, List.getElem?_eq_getElem hj', List.getElem?_eq_getElem hj]
    unfold int64? at this
    split at this
    · rename_i n e; cases this; rw [e]; rfl
    · cases this
  · rw [List.getElem?_eq_none hj, List.getElem?_eq_none (by simp; omega)]
theorem sort_ok {γ0 : Nat → Option Place} {Iy : IMap} {f : FuncId} {args : List V} {ob ob' : Nat → Option Obj'} {tk tk' : Nat → Bool} {ro ub ub' : Nat} {r : V} {m : Option FuncId} (hl : SortLaw P f m) (h : sortA m ob tk ro ub args = some (r, ob', tk', ub')) :
    SharedOk P E γ0 Iy f args ob tk ro ub [(r, ob', tk', ub')] := by
  intro w0 w I0 I γ xs st hg0 hI0 hob htk hro hSh hfr hsz hrep
  subst hob htk hro
  have nothing : ∀ {p cap}, xs = srtArgs m (.slice p 0 cap) → Calls P f xs w fun e w' => ∃ r ∈ [(V.tup [], st.ob, st.tk, ub)], SharedPost E w0 I0 γ I st.ro r.1 r.2.1 r.2.2.1 r.2.2.2 e w' := by
    rintro p cap rfl
    refine (hl.2.1 p cap w).mono ?_
    rintro e w' ⟨rfl, rfl⟩
    exact ⟨_, List.mem_singleton.2 rfl, _, γ, I, rfl, fun st' h1 h2 h3 => hSh.congr h1 h2 h3, .tup _ _ rfl (fun j x v hx => by simp at hx), SubG.refl _, SubI.refl _, hfr⟩
  have harg : ∀ v, srtArg m args = some v → ∃ x, xs = srtArgs m x ∧ Rep γ I x v := by
    intro v hv
    unfold srtArg at hv
    split at hv
    · cases hv
      have hx1 : xs.size = 1 := hsz
      obtain ⟨x, rfl⟩ : ∃ x, xs = #[x] := ⟨xs[0], by
        apply Array.ext
        · simp [hx1]
        · intro i h1 h2
          have : i = 0 := by simp at h2; omega
          subst this
          rfl⟩
      exact ⟨x, rfl, hrep 0 x _ rfl rfl⟩
    · split at hv
      · rename_i hg
        cases hv
        subst hg
        have hx1 : xs.size = 2 := hsz
        obtain ⟨x, y, rfl⟩ : ∃ x y, xs = #[x, y] := ⟨xs[0], xs[1], by
          apply Array.ext
          · simp [hx1]
          · intro i h1 h2
            have : i = 0 ∨ i = 1 := by simp at h2; omega
            rcases this with rfl | rfl <;> rfl⟩
        have hy := hrep 1 y _ rfl rfl
        obtain ⟨as, bs, rfl, h1, h2, _, _⟩ := inv_fn hy
        obtain rfl : as = #[] := Array.eq_empty_of_size_eq_zero h1
        obtain rfl : bs = #[] := Array.eq_empty_of_size_eq_zero h2
        exact ⟨x, rfl, hrep 0 x _ rfl rfl⟩
      · cases hv
    · cases hv
  unfold sortA at h
  split at h
  · rename_i l u off n sz ha
    obtain ⟨x, rfl, hxr⟩ := harg _ ha
    obtain ⟨cs, hcs, hq⟩ := bind_some h
    simp only [Option.ite_none_right_eq_some] at hq
    obtain ⟨⟨hr, hz1, hle, hbig⟩, hq⟩ := hq
    obtain ⟨zs, hzs, he⟩ := bind_some hq
    simp only [Option.ite_none_right_eq_some, Option.some.injEq, Prod.mk.injEq] at he
    clear h hq
    obtain ⟨hmay, rfl, rfl, rfl, rfl⟩ := he
    subst hz1
    obtain ⟨B0, hob, hB0⟩ := objCells_inv hcs
    have hs0 : 0 < srtSz m := by cases m <;> exact Nat.le_of_ble_eq_true rfl
    have hcell := ints_map hzs
    have hlen : zs.length = n * srtSz m := by
      have := congrArg List.length hcell
      rw [List.length_take, List.length_drop, List.length_map] at this
      omega
    rcases Nat.eq_zero_or_pos n with h0 | h0
    · subst h0
      have hz0 : zs = [] := List.length_eq_zero_iff.1 (by rw [hlen, Nat.zero_mul])
      subst hz0
      have hnil : srtIs m [] = [] := by cases m <;> rfl
      have hspl : splice cs off ((srtIs m []).map (.int .i64)) = cs := by simp [splice, hnil]
      rw [hspl]
      cases hxr with
      | pure _ _ h => cases h
      | osl l u off n sz cap b k a hu ha hc hm =>
        obtain ⟨arr, e, hw, q1, q2, q3⟩ := row_ok (ob_get hSh hob hu) hB0
        have h2 := hSh.turnG hob hu hr (o' := .cells arr e (0, 0)) (w' := w) (body' := .cells cs) ⟨rfl, rfl, rfl⟩ (Nat.le_refl _) (fun _ _ _ => rfl) hw ⟨arr, e, rfl, q1, q2, q3⟩ (fun _ _ h => by cases h)
        refine (hl.2.1 _ cap w).mono ?_
        rintro e' w' ⟨rfl, rfl⟩
        exact ⟨_, List.mem_singleton.2 rfl, _, γ, I, rfl, fun st' h1 h3 h4 => h2.congr h1 h3 h4, .tup _ _ rfl (fun j x v hx => by simp at hx), SubG.refl _, SubI.refl _, hfr⟩
    · cases hxr with
      | pure _ _ h => cases h
      | osl l u off n sz cap b k a hu ha hc hm =>
        obtain ⟨rfl, hak⟩ := ha (by omega)
        obtain ⟨arr, e, hw, hsize, hcl, hels⟩ := row_ok (ob_get hSh hob hu) hB0
        have hblt : b < w.heap.size := (Array.getElem?_eq_some_iff.1 hw).1
        have hint : ∀ j (hj : j < zs.length), arr[off + j]? = some (.int .i64 zs[j]) := fun j hj => by
          have h1 : off + j < arr.size := by omega
          have h2 : cs[off + j]? = some (.int .i64 zs[j]) := by
            have := congrArg (fun l => l[j]?) hcell
            simp only [List.getElem?_map, List.getElem?_eq_getElem hj, Option.map_some] at this
            rw [List.getElem?_take_of_lt (by omega), List.getElem?_drop] at this
            exact this
          have h3 := (hels (off + j) _ _ (Array.getElem?_eq_getElem h1) h2).2
          rw [Array.getElem?_eq_getElem h1]
          generalize arr[off + j] = y at h3
          cases h3 with
          | pure _ _ h => cases h; rfl
        have hH : Holds (Value.int .i64) w b off zs.toArray := fun j hj => by
          have hj' : j < zs.length := by simpa using hj
          refine ⟨?_, by simp [World.frozen?, hw]⟩
          simp only [World.cell?, hw]
          simp only [Option.isSome_none, Bool.false_eq_true, if_false]
          rw [hint j hj']
          simp [hj']
        have hcall := hl.2.2 b off cap n zs w hlen hmay hH hblt (by omega)
        refine hcall.mono ?_
        rintro e' w' ⟨rfl, q, os, rfl⟩
        have hsl : (srtIs m zs).length = zs.length := srtIs_len hlen
        refine ⟨_, List.mem_singleton.2 rfl, _, γ, I, rfl, fun st' h1 h2 h3 => ?_, .tup _ _ rfl (fun j x v hx => by simp at hx), SubG.refl _, SubI.refl _, hfr⟩
        have hheap : ∀ j, j < w.heap.size → (grow (putRow (Value.int .i64) (Go.Sort.ahead w q) b off (srtIs m zs).toArray) os).heap[j]? = if j = b then some (.cells (putCells (Value.int .i64) off (srtIs m zs).toArray arr) e (0, 0)) else w.heap[j]? := fun j hj => by
          simp only [grow, putRow, mapBlock, Go.Sort.ahead]
          rw [Array.getElem?_append_left (by simpa using hj), Array.getElem?_modify]
          by_cases hjb : b = j
          · subst hjb
            simp [hw, onCells]
          · have : ¬ j = b := fun e => hjb e.symm
            simp [hjb, this]
        refine Sh.congr (st := { st with ob := upd st.ob l (some ⟨u, .cells (splice cs off ((srtIs m zs).map (.int .i64)))⟩) }) (hSh.turnG hob hu hr (o' := .cells (putCells (Value.int .i64) off (srtIs m zs).toArray arr) e (0, 0)) ⟨rfl, rfl, rfl⟩ (by simp [Go.Sort.ahead]) (fun j hj hne => by rw [hheap j hj, if_neg hne]) (by rw [hheap b hblt, if_pos rfl]) ?_ (fun v es h => by cases h)) h1 h2 h3
        have hspl : (splice cs off ((srtIs m zs).map (.int .i64))).length = cs.length := by
          simp [splice]
          omega
        refine ⟨_, e, rfl, by simpa [putCells] using hsize, by omega, fun j y v hy hv => ?_⟩
        simp only [putCells, Array.getElem?_mapIdx] at hy
        have hszz : (srtIs m zs).toArray.size = zs.length := by simpa using hsl
        obtain ⟨y0, hy0, hy1⟩ := map_some hy
        by_cases hin : off ≤ j ∧ j < off + zs.length
        · rw [if_pos (by rw [hszz]; exact hin)] at hy1
          have hjz : j - off < (srtIs m zs).length := by omega
          have hv' : v = .int .i64 (srtIs m zs)[j - off] := by
            rw [splice, List.append_assoc, List.getElem?_append_right (by simp; omega), List.getElem?_append_left (by simp; omega)] at hv
            simp only [List.length_take, List.getElem?_map] at hv
            rw [show j - min off cs.length = j - off by omega, List.getElem?_eq_getElem hjz] at hv
            simpa using hv.symm
          subst hv' hy1
          refine ⟨rfl, ?_⟩
          have : (srtIs m zs).toArray[j - off]! = (srtIs m zs)[j - off] := by simp [hjz]
          rw [this]
          exact .pure _ _ (.int _ _)
        · rw [if_neg (by rw [hszz]; exact hin)] at hy1
          subst hy1
          refine hels j y0 v hy0 ?_
          rw [← hv, splice]
          rcases Nat.lt_or_ge j off with hj | hj
          · rw [List.append_assoc, List.getElem?_append_left (by simp; omega), List.getElem?_take_of_lt hj]
          · rw [List.getElem?_append_right (by simp; omega), List.getElem?_drop]
            congr 1
            simp
            omega
  · rename_i tk2 nl ha
    obtain ⟨x, rfl, hxr⟩ := harg _ ha
    cases h
    cases hxr with
    | pure _ _ h => cases h <;> exact nothing rfl
    | tsl u b n cap sz cs xs hu hlen hc hm hi hl hr => exact nothing rfl
  · cases h
end
end Go.Pv
