/- What a function hands back. -/
import Derived.Test.YtopjfnbonjmnjaaGreatDoorWtB
import Derived.RangeFuncLeaves
namespace Go.Pv
open Go

def wantP (γ : Nat → Option Place) (x : Value) : V → Option Place
  | .sl (some (u, _)) _ _ _ => γ u
  | .osl _ u _ n sz => match γ u, x with
    | some (.obj b _), .slice _ _ cap => some (.tok b n cap sz)
    | _, _ => none
  | _ => none

def keepsO (st : St) (keep : Bool) (l u off n sz : Nat) : Bool :=
  match objCells st.ob l u with
  | some cs0 => keep && Nat.beq off 0 && Nat.blt 0 n && Nat.beq (n * sz) cs0.length
  | none => false

def plLeaf (γ : Nat → Option Place) (st : St) (keep : Bool) (i : Nat) (x : Value) : V → List (Nat × Nat × Option Place)
  | .sl (some (u, z)) nl n cs => if keep && st.tk u then [(i, u, wantP γ x (.sl (some (u, z)) nl n cs))] else []
  | .osl l u off n sz => if keepsO st keep l u off n sz then [(i, u, wantP γ x (.osl l u off n sz))] else []
  | _ => []
def plList (γ : Nat → Option Place) (st : St) (keep : Bool) : Nat → List Value → List V → List (Nat × Nat × Option Place)
  | i, x :: xs, v :: vs => plLeaf γ st keep i x v ++ plList γ st keep (i + 1) xs vs
  | _, _, _ => []
def aggL : Value → List Value
  | .agg xs => xs.toList
  | _ => []
def plTop (γ : Nat → Option Place) (st : St) (keep : Bool) (i : Nat) (x : Value) : V → List (Nat × Nat × Option Place)
  | .agg cs => plList γ st keep i (aggL x) cs
  | v => plLeaf γ st keep i x v
def plTops (γ : Nat → Option Place) (st : St) (keep : Bool) : Nat → List Value → List V → List (Nat × Nat × Option Place)
  | i, x :: xs, v :: vs => plTop γ st keep i x v ++ plTops γ st keep (i + 16) xs vs
  | _, _, _ => []

theorem nodup_spec : ∀ {l : List Nat}, nodup l = true → l.Nodup
  | [], _ => List.nodup_nil
  | a :: l, h => by
    simp only [nodup, Bool.and_eq_true, Bool.not_eq_true'] at h
    refine List.nodup_cons.2 ⟨fun hm => ?_, nodup_spec h.2⟩
    have : (l.any fun b => Nat.beq a b) = true := List.any_eq_true.2 ⟨a, hm, Nat.beq_refl a⟩
    rw [h.1] at this
    cases this

section
variable {P : Program} {E : Env} {w0 w : World} {I0 : IMap} {nt : Nat} {γ τ : Nat → Option Place} {I I' : IMap} {st : St} {a : Act} {B : Nat} {Ω : Nat → Option Owner} {keep : Bool}

def PlOk (γ : Nat → Option Place) (_ : IMap) (st : St) (keep : Bool) (p : Nat × Nat × Option Place) : Prop :=
  keep = true ∧ ((st.tk p.2.1 = true ∧ p.2.2 = γ p.2.1) ∨
    ∃ l cs b k n cap sz, st.ob l = some ⟨p.2.1, .cells cs⟩ ∧ γ p.2.1 = some (.obj b k) ∧ p.2.2 = some (.tok b n cap sz) ∧ 0 < n ∧ n * sz = cs.length ∧ n ≤ cap ∧ cap ≤ maxLen ∧ cap * sz ≤ k.size ∧ Nat.ble st.ro p.2.1 = true)

theorem pl_leaf_sub (i : Nat) {x : Value} {v v' : V} (hx : Rep γ I x v) (hv : outLeaf st keep i v = some v') : ((plLeaf γ st keep i x v).map (·.2.1)).Sublist v.tok ∧ ∀ p ∈ plLeaf γ st keep i x v, PlOk γ I st keep p := by
  unfold plLeaf
  split
  · split
    · rename_i h
      simp only [Bool.and_eq_true] at h
      exact ⟨List.Sublist.refl _, fun p hp => by rw [List.mem_singleton.1 hp]; exact ⟨h.1, .inl ⟨h.2, rfl⟩⟩⟩
    · exact ⟨List.nil_sublist _, fun p hp => by cases hp⟩
  · rename_i l u off n sz
    split
    · rename_i h
      refine ⟨List.Sublist.refl _, fun p hp => ?_⟩
      rw [List.mem_singleton.1 hp]
      unfold keepsO at h
      split at h
      case h_2 => cases h
      rename_i cs0 hcs
      simp only [Bool.and_eq_true] at h
      obtain ⟨⟨⟨h1, h2⟩, h3⟩, h4⟩ := h
      have h2 := Nat.eq_of_beq_eq_true h2
      have h3 : 0 < n := by simpa [Nat.blt_eq] using h3
      have h4 := Nat.eq_of_beq_eq_true h4
      subst h2
      obtain ⟨b, k, ad, cap, hu, rfl, ha, hc, hm⟩ := inv_osl hx
      have hro : Nat.ble st.ro u = true := by
        simp only [outLeaf] at hv
        obtain ⟨q, hq, _⟩ := bind_some hv
        simp only [solid, hcs, Option.bind_some, Option.ite_none_right_eq_some] at hq
        exact hq.1.1
      refine ⟨h1, .inr ⟨l, cs0, b, k, n, cap, sz, objCells_inv hcs, hu, by simp only [wantP, hu], h3, h4, hc, hm, ?_, hro⟩⟩
      have := (ha (by omega)).2
      omega
    · exact ⟨List.nil_sublist _, fun p hp => by cases hp⟩
  · exact ⟨List.nil_sublist _, fun p hp => by cases hp⟩

theorem pl_list_sub : ∀ (i : Nat) (xs : List Value) (vs vs' : List V), xs.length = vs.length → (∀ (j : Nat) (x : Value) (v : V), xs[j]? = some x → vs[j]? = some v → Rep γ I x v) → outList st keep i vs = some vs' →
    ((plList γ st keep i xs vs).map (·.2.1)).Sublist (vs.flatMap V.tok) ∧ ∀ p ∈ plList γ st keep i xs vs, PlOk γ I st keep p
  | _, [], [], _, _, _, _ => ⟨List.Sublist.refl _, fun p hp => by cases hp⟩
  | i, x :: xs, v :: vs, vs', hl, hr, ho => by
    simp only [outList] at ho
    obtain ⟨q, hq, ho⟩ := bind_some ho
    obtain ⟨r, hr', rfl⟩ := map_some ho
    obtain ⟨h1, h2⟩ := pl_leaf_sub i (hr 0 x v rfl rfl) hq
    obtain ⟨h3, h4⟩ := pl_list_sub (i + 1) xs vs r (by simpa using hl) (fun j x v hx hv => hr (j + 1) x v (by simpa using hx) (by simpa using hv)) hr'
    simp only [plList, List.map_append, List.flatMap_cons]
    exact ⟨h1.append h3, fun p hp => (List.mem_append.1 hp).elim (h2 p) (h4 p)⟩
  | _, [], _ :: _, _, h, _, _ => by simp at h
  | _, _ :: _, [], _, h, _, _ => by simp at h

theorem pl_top_sub (i : Nat) {x : Value} {v v' : V} (hx : Rep γ I x v) (hv : outTop st keep i v = some v') : ((plTop γ st keep i x v).map (·.2.1)).Sublist v.toks ∧ ∀ p ∈ plTop γ st keep i x v, PlOk γ I st keep p := by
  cases v with
  | agg cs =>
    obtain ⟨xs, rfl, h1, h2, h3⟩ := inv_agg hx
    simp only [outTop] at hv
    obtain ⟨r, hr, rfl⟩ := map_some hv
    exact pl_list_sub i xs.toList cs r (by simpa using h1) (fun j x v hx hv => h3 j x v (by simpa using hx) hv) hr
  | fn f as bs => exact ⟨List.nil_sublist _, fun p hp => by cases hp⟩
  | _ => exact pl_leaf_sub i hx hv

theorem pl_tops_sub : ∀ (i : Nat) (xs : List Value) (vs vs' : List V), xs.length = vs.length → (∀ (j : Nat) (x : Value) (v : V), xs[j]? = some x → vs[j]? = some v → Rep γ I x v) → outTops st keep i vs = some vs' →
    ((plTops γ st keep i xs vs).map (·.2.1)).Sublist (vs.flatMap V.toks) ∧ ∀ p ∈ plTops γ st keep i xs vs, PlOk γ I st keep p
  | _, [], [], _, _, _, _ => ⟨List.Sublist.refl _, fun p hp => by cases hp⟩
  | i, x :: xs, v :: vs, vs', hl, hr, ho => by
    simp only [outTops] at ho
    obtain ⟨q, hq, ho⟩ := bind_some ho
    obtain ⟨r, hr', rfl⟩ := map_some ho
    obtain ⟨h1, h2⟩ := pl_top_sub i (hr 0 x v rfl rfl) hq
    obtain ⟨h3, h4⟩ := pl_tops_sub (i + 16) xs vs r (by simpa using hl) (fun j x v hx hv => hr (j + 1) x v (by simpa using hx) (by simpa using hv)) hr'
    simp only [plTops, List.map_append, List.flatMap_cons]
    exact ⟨h1.append h3, fun p hp => (List.mem_append.1 hp).elim (h2 p) (h4 p)⟩
  | _, [], _ :: _, _, h, _, _ => by simp at h
  | _, _ :: _, [], _, h, _, _ => by simp at h

def Frozen (γ : Nat → Option Place) (B : Nat) (st : St) (w : World) (I I' : IMap) : Prop :=
  (∀ b o x, I b o = some x → I' b o = some x) ∧ (∀ b k o x l u cs, B ≤ b → st.ob l = some ⟨u, .cells cs⟩ → γ u = some (.obj b k) → o < cs.length → w.cell? ⟨b, o, none⟩ = some x → I' b o = some x)

theorem pure_strip {v : V} (h : v.pureLeaf = true) : v.strip1 = v := strip1_of_pure h

theorem pure_rep {x : Value} {v : V} (h : Rep γ I x v) (hp : v.pureLeaf = true) : RepP I x v := by
  have := pureRep h (by rw [pure_strip hp]; exact hp)
  rwa [pure_strip hp] at this

theorem solid_ok (ho : Own γ I B st w Ω) (hz : Frozen γ B st w I I') : ∀ (k : Nat) (x : Value) (v v' : V), Rep γ I x v → solid st k v = some v' → RepP I' x v' ∧ v'.pureLeaf = true
  | 0, _, _, _, _, h => by cases h
  | k + 1, x, v, v', hx, hv => by
    have other : (if v.pureLeaf then some v else none) = some v' → RepP I' x v' ∧ v'.pureLeaf = true := by
      intro h
      simp only [Option.ite_none_right_eq_some, Option.some.injEq] at h
      obtain ⟨hp, rfl⟩ := h
      exact ⟨(pure_rep hx hp).mono hz.1, hp⟩
    cases v with
    | sl t nl n cs =>
      cases t with
      | none => exact other hv
      | some q =>
        simp only [solid, Option.some.injEq] at hv
        subst hv
        exact ⟨(pureRep hx (by simp [V.strip1, V.pureLeaf])).mono hz.1, rfl⟩
    | osl l u off n sz =>
      simp only [solid] at hv
      obtain ⟨cs, hcs, hv⟩ := bind_some hv
      simp only [Option.ite_none_right_eq_some] at hv
      obtain ⟨⟨hro, hle⟩, hv⟩ := hv
      obtain ⟨cs', hcs', rfl⟩ := map_some hv
      refine ⟨?_, rfl⟩
      obtain ⟨b, kb, ad, cap, hu, rfl, ha, hc, hm⟩ := inv_osl hx
      have hob := objCells_inv hcs
      obtain ⟨b', kb', k1, k2, k3, ⟨arr, e, m1, m2, m4, m3⟩, k5⟩ := ho.ob l _ hob
      rw [hu] at k1
      cases k1
      have hB : B ≤ b := k3 (by simpa [Nat.ble_eq] using hro)
      obtain ⟨hlen', hget'⟩ := mapM_some hcs'
      have hlen : ((cs.drop off).take (n * sz)).length = n * sz := by simp only [List.length_take, List.length_drop]; omega
      have hget : ∀ j, j < cs.length → arr[j]? = some (arr.getD j undef) := by
        intro j hj
        have : j < arr.size := by omega
        simp [this]
      have hne : 0 < n * sz → 0 < n := fun h => Nat.pos_of_ne_zero fun h0 => by subst h0; simp at h
      have hone : ∀ (j : Nat) (q : V), cs'[j]? = some q → j < n * sz ∧ RepP I' (arr.getD (off + j) undef) q ∧ q.pureLeaf = true := by
        intro j q hq
        have hj : j < n * sz := by have := (List.getElem?_eq_some_iff.1 hq).1; omega
        have hv : ((cs.drop off).take (n * sz))[j]? = some (((cs.drop off).take (n * sz))[j]'(by omega)) := List.getElem?_eq_getElem _
        have hsol := hget' j _ _ hv hq
        rw [List.getElem?_take_of_lt hj, List.getElem?_drop] at hv
        obtain ⟨q1, q2⟩ := m3 _ _ _ (hget (off + j) (List.getElem?_eq_some_iff.1 hv).1) hv
        exact ⟨hj, solid_ok ho hz k _ _ _ q2 hsol⟩
      refine .sl ad n cap _ (fun j => arr.getD (off + j) undef) (fun hcs => ?_) hc hm (fun j hj => ?_) (fun j v hv => (hone j v hv).2.2) (fun j v hv => (hone j v hv).2.1)
      · have hpos : 0 < cs'.length := List.length_pos_iff.2 hcs
        rw [(ha (by have := hne (by omega); omega)).1]
      · have hj' : j < n * sz := by omega
        rw [(ha (by have := hne (by omega); omega)).1]
        refine hz.2 b kb (off + j) _ l u cs hB hob hu (by omega) ?_
        simp only [World.cell?, m1, Option.isSome_none, Bool.false_eq_true, if_false]
        exact hget (off + j) (by omega)
    | _ => exact other hv

theorem outLeaf_pos {i : Nat} {x : Value} {v v' : V} (hv : outLeaf st keep i v = some v') : v'.leaf = true ∧ v'.tok = (plLeaf γ st keep i x v).map (·.1) := by
  have other : ∀ k, solid st (k + 1) v = (if v.pureLeaf then some v else none) → outLeaf st keep i v = solid st (k + 1) v → v.tok = [] → plLeaf γ st keep i x v = [] → v'.leaf = true ∧ v'.tok = (plLeaf γ st keep i x v).map (·.1) := by
    intro k h1 h2 h3 h4
    rw [h2, h1] at hv
    simp only [Option.ite_none_right_eq_some, Option.some.injEq] at hv
    obtain ⟨hp, rfl⟩ := hv
    exact ⟨pure_leaf hp, by rw [h4, h3]; rfl⟩
  cases v with
  | sl t nl n cs =>
    cases t with
    | none => exact other 5 rfl rfl rfl rfl
    | some q =>
      obtain ⟨u, z⟩ := q
      simp only [outLeaf, Option.some.injEq] at hv
      subst hv
      refine ⟨rfl, ?_⟩
      cases hk : (keep && st.tk u) <;> simp [V.tok, plLeaf, hk]
  | osl l u off n sz =>
    simp only [outLeaf] at hv
    obtain ⟨q, hq, hv⟩ := bind_some hv
    split at hv
    case h_2 => cases hv
    rename_i t nl n' cs
    obtain ⟨cs0, hcs, rfl⟩ := map_some hv
    refine ⟨rfl, ?_⟩
    have hk : keepsO st keep l u off n sz = (keep && Nat.beq off 0 && Nat.blt 0 n && Nat.beq (n * sz) cs0.length) := by simp only [keepsO, hcs]
    rw [← hk]
    cases hkk : keepsO st keep l u off n sz <;> simp [V.tok, plLeaf, hkk]
  | agg | tup | undef =>
    simp only [outLeaf, solid, V.pureLeaf, Bool.false_eq_true, if_false, reduceCtorEq] at hv
  | _ => exact other 5 rfl rfl rfl rfl

theorem outLeaf_ok (ho : Own γ I B st w Ω) (hz : Frozen γ B st w I I') {x : Value} {v v' : V} {i : Nat} (hx : Rep γ I x v) (hv : outLeaf st keep i v = some v') (hτ : ∀ p ∈ plLeaf γ st keep i x v, τ p.1 = p.2.2) :
    LRep τ I' x v' := by
  have other : outLeaf st keep i v = solid st 6 v → LRep τ I' x v' := by
    intro h
    rw [h] at hv
    obtain ⟨h1, h2⟩ := solid_ok ho hz 6 x v v' hx hv
    cases v' with
    | sl t nl n cs =>
      cases t with
      | none => exact h1
      | some q => simp [V.pureLeaf] at h2
    | _ => exact h1
  cases v with
  | sl t nl n cs =>
    cases t with
    | none => exact other rfl
    | some q =>
      obtain ⟨u, z⟩ := q
      simp only [outLeaf, Option.some.injEq] at hv
      subst hv
      cases hk : (keep && st.tk u) with
      | true =>
        have hm : (i, u, γ u) ∈ plLeaf γ st keep i x (.sl (some (u, z)) nl n cs) := by simp [plLeaf, hk, wantP]
        have ht := hτ _ hm
        simp only [if_true]
        have := hx.mono (γ' := γ) (fun _ _ h => h) hz.1
        cases this with
        | tsl _ b _ cap _ _ xs hu hlen hc hm' hi hl hr => exact Rep.tsl i b n cap z cs xs (ht.trans hu) hlen hc hm' hi hl hr
        | pure _ _ h => cases h
      | false =>
        simp only [Bool.false_eq_true, if_false]
        exact (pureRep hx (by simp [V.strip1, V.pureLeaf])).mono hz.1
  | osl l u off n sz =>
    simp only [outLeaf] at hv
    obtain ⟨q, hq, hv⟩ := bind_some hv
    obtain ⟨hrep, hpl⟩ := solid_ok ho hz 6 x _ q hx hq
    split at hv
    case h_2 => cases hv
    rename_i t nl n' cs
    have htn : t = none := by cases t <;> simp_all [V.pureLeaf]
    subst htn
    obtain ⟨cs0, hcs, rfl⟩ := map_some hv
    have hk : keepsO st keep l u off n sz = (keep && Nat.beq off 0 && Nat.blt 0 n && Nat.beq (n * sz) cs0.length) := by simp only [keepsO, hcs]
    rw [← hk]
    cases hkk : keepsO st keep l u off n sz with
    | false => exact hrep
    | true =>
      simp only [if_true]
      rw [hkk] at hk
      have hk := hk.symm
      simp only [Bool.and_eq_true] at hk
      obtain ⟨⟨⟨h1, h2⟩, h3⟩, h4⟩ := hk
      have h2 := Nat.eq_of_beq_eq_true h2
      have h3 : 0 < n := by simpa [Nat.blt_eq] using h3
      have h4 := Nat.eq_of_beq_eq_true h4
      subst h2
      obtain ⟨b, kb, ad, cap, hu, rfl, ha, hc, hm⟩ := inv_osl hx
      have hmem : (i, u, some (Place.tok b n cap sz)) ∈ plLeaf γ st keep i (.slice (some ad) n cap) (.osl l u 0 n sz) := by simp [plLeaf, hkk, wantP, hu]
      have ht := hτ _ hmem
      have hada := (ha (by omega)).1
      subst hada
      -- the form of what is solid
      simp only [solid, hcs, Option.bind_some, Option.ite_none_right_eq_some] at hq
      obtain ⟨_, hq⟩ := hq
      obtain ⟨cs', hcs', he⟩ := map_some hq
      simp only [V.sl.injEq, true_and] at he
      obtain ⟨rfl, rfl, rfl⟩ := he
      have hlen : cs'.length = n * sz := by
        have := (mapM_some hcs').1
        rw [this]
        simp only [List.length_take, List.length_drop]; omega
      cases hrep with
      | sl _ _ _ _ xs hs hc' hm' hi hl hr => exact Rep.tsl i b n cap sz cs' xs ht hlen hc hm (by simpa using hi) hl hr
  | agg | tup | undef =>
    simp only [outLeaf, solid, V.pureLeaf, Bool.false_eq_true, if_false, reduceCtorEq] at hv
  | _ => exact other rfl

theorem outList_ok (ho : Own γ I B st w Ω) (hz : Frozen γ B st w I I') : ∀ (xs : List Value) (vs vs' : List V) (i : Nat), xs.length = vs.length → (∀ (j : Nat) (x : Value) (v : V), xs[j]? = some x → vs[j]? = some v → Rep γ I x v) →
    outList st keep i vs = some vs' → (∀ p ∈ plList γ st keep i xs vs, τ p.1 = p.2.2) →
    vs'.length = vs.length ∧ (∀ (j : Nat) (x : Value) (v' : V), xs[j]? = some x → vs'[j]? = some v' → v'.leaf = true ∧ LRep τ I' x v')
  | [], [], vs', i, _, _, h, _ => by
    simp only [outList, Option.some.injEq] at h
    subst h
    exact ⟨rfl, fun j x v' h => by simp at h⟩
  | x :: xs, v :: vs, vs', i, hl, hr, h, hτ => by
    simp only [outList] at h
    obtain ⟨q, hq, h⟩ := bind_some h
    obtain ⟨r, hr', rfl⟩ := map_some h
    simp only [plList] at hτ
    obtain ⟨h1, h2⟩ := outList_ok ho hz xs vs r (i + 1) (by simpa using hl) (fun j x v hx hv => hr (j + 1) x v (by simpa using hx) (by simpa using hv)) hr' (fun p hp => hτ p (List.mem_append_right _ hp))
    have hleaf := outLeaf_ok ho hz (hr 0 x v rfl rfl) hq (fun p hp => hτ p (List.mem_append_left _ hp))
    have hpos := outLeaf_pos (γ := γ) (x := x) hq
    refine ⟨by simp [h1], fun j y u' hy hu' => ?_⟩
    cases j with
    | zero =>
      simp only [List.getElem?_cons_zero, Option.some.injEq] at hy hu'
      subst hy; subst hu'
      exact ⟨hpos.1, hleaf⟩
    | succ j => exact h2 j y u' (by simpa using hy) (by simpa using hu')
  | [], _ :: _, _, _, h, _, _, _ => by simp at h
  | _ :: _, [], _, _, h, _, _, _ => by simp at h

theorem lrep_trep {x : Value} {v : V} (h : LRep τ I x v) (hl : v.leaf = true) : TRep τ I x v ∧ (∀ vs, v ≠ .tup vs) := by
  cases v with
  | agg | tup | undef => cases hl
  | _ => exact ⟨h, fun _ h => by cases h⟩

theorem outTop_ok (ho : Own γ I B st w Ω) (hz : Frozen γ B st w I I') {x : Value} {v v' : V} {i : Nat} (hx : Rep γ I x v) (hv : outTop st keep i v = some v') (hτ : ∀ p ∈ plTop γ st keep i x v, τ p.1 = p.2.2) :
    TRep τ I' x v' ∧ (∀ vs, v' ≠ .tup vs) := by
  have leafCase : outLeaf st keep i v = some v' → plTop γ st keep i x v = plLeaf γ st keep i x v → TRep τ I' x v' ∧ (∀ vs, v' ≠ .tup vs) := by
    intro h1 h2
    rw [h2] at hτ
    exact lrep_trep (outLeaf_ok ho hz hx h1 hτ) (outLeaf_pos (γ := γ) (x := x) h1).1
  cases v with
  | agg cs =>
    simp only [outTop] at hv
    obtain ⟨r, hr, rfl⟩ := map_some hv
    obtain ⟨xs, rfl, h1, h2, h3⟩ := inv_agg hx
    obtain ⟨k1, k2⟩ := outList_ok ho hz xs.toList cs r i (by simpa using h1) (fun j x v hx hv => h3 j x v (by simpa using hx) hv) hr hτ
    refine ⟨⟨xs, rfl, h1.trans k1.symm, fun j u hu => ?_, fun j y u hy hu => (k2 j y u (by simpa using hy) hu).2⟩, (fun vs h => by cases h)⟩
    have hj : j < xs.size := by have := (List.getElem?_eq_some_iff.1 hu).1; omega
    exact (k2 j xs[j] u (by rw [Array.getElem?_toList]; exact Array.getElem?_eq_getElem hj) hu).1
  | fn f as bs =>
    simp only [outTop, Option.ite_none_right_eq_some, Option.some.injEq] at hv
    obtain ⟨hp, rfl⟩ := hv
    exact ⟨(strip_pure hx hp).mono hz.1, (fun vs h => by simp [V.strip] at h)⟩
  | _ => exact leafCase hv rfl

theorem outTops_ok (ho : Own γ I B st w Ω) (hz : Frozen γ B st w I I') : ∀ (xs : List Value) (vs vs' : List V) (i : Nat), xs.length = vs.length → (∀ (j : Nat) (x : Value) (v : V), xs[j]? = some x → vs[j]? = some v → Rep γ I x v) →
    outTops st keep i vs = some vs' → (∀ p ∈ plTops γ st keep i xs vs, τ p.1 = p.2.2) →
    vs'.length = vs.length ∧ (∀ (j : Nat) (x : Value) (v' : V), xs[j]? = some x → vs'[j]? = some v' → TRep τ I' x v' ∧ ∀ vs, v' ≠ .tup vs)
  | [], [], vs', i, _, _, h, _ => by
    simp only [outTops, Option.some.injEq] at h
    subst h
    exact ⟨rfl, fun j x v' h => by simp at h⟩
  | x :: xs, v :: vs, vs', i, hl, hr, h, hτ => by
    simp only [outTops] at h
    obtain ⟨q, hq, h⟩ := bind_some h
    obtain ⟨r, hr', rfl⟩ := map_some h
    simp only [plTops] at hτ
    obtain ⟨h1, h2⟩ := outTops_ok ho hz xs vs r (i + 16) (by simpa using hl) (fun j x v hx hv => hr (j + 1) x v (by simpa using hx) (by simpa using hv)) hr' (fun p hp => hτ p (List.mem_append_right _ hp))
    have htop := outTop_ok ho hz (hr 0 x v rfl rfl) hq (fun p hp => hτ p (List.mem_append_left _ hp))
    refine ⟨by simp [h1], fun j y u' hy hu' => ?_⟩
    cases j with
    | zero =>
      simp only [List.getElem?_cons_zero, Option.some.injEq] at hy hu'
      subst hy; subst hu'
      exact htop
    | succ j => exact h2 j y u' (by simpa using hy) (by simpa using hu')
  | [], _ :: _, _, _, h, _, _, _ => by simp at h
  | _ :: _, [], _, _, h, _, _, _ => by simp at h

theorem leaf_toks {v : V} (h : v.leaf = true) : v.toks = v.tok := by
  cases v with
  | agg | tup | undef => cases h
  | _ => rfl
theorem outList_pos : ∀ (xs : List Value) (vs vs' : List V) (i : Nat), xs.length = vs.length → outList st keep i vs = some vs' → vs'.flatMap V.tok = (plList γ st keep i xs vs).map (·.1)
  | [], [], vs', i, _, h => by
    simp only [outList, Option.some.injEq] at h
    subst h
    rfl
  | x :: xs, v :: vs, vs', i, hl, h => by
    simp only [outList] at h
    obtain ⟨q, hq, h⟩ := bind_some h
    obtain ⟨r, hr, rfl⟩ := map_some h
    simp only [plList, List.map_append, List.flatMap_cons, (outLeaf_pos (γ := γ) (x := x) hq).2, outList_pos xs vs r (i + 1) (by simpa using hl) hr]
  | [], _ :: _, _, _, h, _ => by simp at h
  | _ :: _, [], _, _, h, _ => by simp at h
theorem outTop_pos {x : Value} {v v' : V} {i : Nat} (hx : Rep γ I x v) (hv : outTop st keep i v = some v') : v'.toks = (plTop γ st keep i x v).map (·.1) := by
  have leafCase : outLeaf st keep i v = some v' → plTop γ st keep i x v = plLeaf γ st keep i x v → v'.toks = (plTop γ st keep i x v).map (·.1) := fun h1 h2 => by
    obtain ⟨h3, h4⟩ := outLeaf_pos (γ := γ) (x := x) h1
    rw [h2, leaf_toks h3, h4]
  cases v with
  | agg cs =>
    simp only [outTop] at hv
    obtain ⟨r, hr, rfl⟩ := map_some hv
    obtain ⟨xs, rfl, h1, h2, h3⟩ := inv_agg hx
    exact outList_pos xs.toList cs r i (by simpa using h1) hr
  | fn f as bs =>
    simp only [outTop, Option.ite_none_right_eq_some, Option.some.injEq] at hv
    obtain ⟨hp, rfl⟩ := hv
    rfl
  | _ => exact leafCase hv rfl
theorem outTops_pos : ∀ (xs : List Value) (vs vs' : List V) (i : Nat), xs.length = vs.length → (∀ (j : Nat) (x : Value) (v : V), xs[j]? = some x → vs[j]? = some v → Rep γ I x v) → outTops st keep i vs = some vs' →
    vs'.flatMap V.toks = (plTops γ st keep i xs vs).map (·.1)
  | [], [], vs', i, _, _, h => by
    simp only [outTops, Option.some.injEq] at h
    subst h
    rfl
  | x :: xs, v :: vs, vs', i, hl, hr, h => by
    simp only [outTops] at h
    obtain ⟨q, hq, h⟩ := bind_some h
    obtain ⟨r, hr', rfl⟩ := map_some h
    simp only [plTops, List.map_append, List.flatMap_cons, outTop_pos (hr 0 x v rfl rfl) hq, outTops_pos xs vs r (i + 16) (by simpa using hl) (fun j x v hx hv => hr (j + 1) x v (by simpa using hx) (by simpa using hv)) hr']
  | [], _ :: _, _, _, h, _, _ => by simp at h
  | _ :: _, [], _, _, h, _, _ => by simp at h

def resVal (xs : List Value) : Value :=
  match xs with
  | [x] => x
  | xs => .tuple xs.toArray
end
end Go.Pv

/- Functions do what the interpreter says. -/
namespace Go.Pv
open Go

section
variable {P : Program} {E : Env} {w0 w : World} {I0 : IMap} {nt : Nat} {γ τ : Nat → Option Place} {I I' : IMap} {st : St} {a : Act} {B : Nat} {Ω : Nat → Option Owner}

def resOne (tmps : Array Value) : ResultVar → Sem Value
  | .tmp t => pure (tmps.getD t undef)
  | .cell a t => do loadVar t (← asAddr (tmps.getD a undef))

theorem resOne_ok (hR : R E w0 I0 nt γ I st a w) {rv : ResultVar} {r : ARes} {v : V} (hc : compRes P rv = some r) (hv : resOf st r = some v) : ∃ x, (resOne a.tmps rv).run P w = .ok x w ∧ Rep γ I x v := by
  cases rv with
  | tmp t =>
    simp only [compRes, Option.some.injEq] at hc
    subst hc
    simp only [resOf, Option.some.injEq] at hv
    subst hv
    exact ⟨_, rfl, hR.tm t⟩
  | cell n t =>
    simp only [compRes] at hc
    obtain ⟨g, hg, rfl⟩ := map_some hc
    simp only [resOf] at hv
    split at hv
    · rename_i l u off he
      have hr := hR.tm n
      rw [he] at hr
      obtain ⟨b, kb, hu, hx'⟩ := inv_ptr hr
      obtain ⟨cs, hcs, hpk⟩ := bind_some hv
      obtain ⟨arr, e, m1, m2, m4, m3⟩ := obj_row hR (objCells_inv hcs) hu
      have hget : ∀ j, off + j < cs.length → arr[off + j]? = some (arr.getD (off + j) undef) := by
        intro j hj
        have : off + j < arr.size := by omega
        simp [this]
      obtain ⟨h4, h5⟩ := load_rep (γ := γ) (I := I) hpk (fun j => arr.getD (off + j) undef) (fun j u hj hu => m3 _ _ _ (hget j (List.getElem?_eq_some_iff.1 hu).1) hu)
      refine ⟨_, ?_, h5⟩
      simp only [resOne, hx', asAddr, Sem.run_bind, Sem.run_pure, Result.andThen_ok]
      exact run_loadRow hg (fun j => arr.getD (off + j) undef) _ rfl (fun j hj => by
        simp only [World.cell?, m1, Option.isSome_none, Bool.false_eq_true, if_false]
        exact hget j (h4 j hj))
    · cases hv

theorem resList_ok (hR : R E w0 I0 nt γ I st a w) : ∀ (rvs : List ResultVar) (rs : List ARes) (vs : List V), rvs.mapM (compRes P) = some rs → rs.mapM (resOf st) = some vs →
    ∃ xs : List Value, xs.length = vs.length ∧ (rvs.mapM (resOne a.tmps)).run P w = .ok xs w ∧ ∀ (j : Nat) (x : Value) (v : V), xs[j]? = some x → vs[j]? = some v → Rep γ I x v
  | [], rs, vs, h1, h2 => by
    simp at h1
    subst h1
    simp at h2
    subst h2
    exact ⟨[], rfl, rfl, fun j x v h => by simp at h⟩
  | rv :: rvs, rs, vs, h1, h2 => by
    simp only [List.mapM_cons] at h1
    cases ha : compRes P rv with
    | none => simp [ha] at h1
    | some r =>
      cases hl : rvs.mapM (compRes P) with
      | none => simp [ha, hl] at h1
      | some rs' =>
        simp [ha, hl] at h1
        subst h1
        simp only [List.mapM_cons] at h2
        cases hv : resOf st r with
        | none => simp [hv] at h2
        | some v =>
          cases hvl : rs'.mapM (resOf st) with
          | none => simp [hv, hvl] at h2
          | some vs' =>
            simp [hv, hvl] at h2
            subst h2
            obtain ⟨x, k1, k2⟩ := resOne_ok hR ha hv
            obtain ⟨xs, k3, k4, k5⟩ := resList_ok hR rvs rs' vs' hl hvl
            refine ⟨x :: xs, by simp [k3], ?_, fun j y u hy hu => ?_⟩
            · simp only [List.mapM_cons, Sem.run_bind, k1, Result.andThen_ok, k4, Sem.run_pure]
            · cases j with
              | zero =>
                simp only [List.getElem?_cons_zero, Option.some.injEq] at hy hu
                subst hy; subst hu
                exact k2
              | succ j => exact k5 j y u (by simpa using hy) (by simpa using hu)

theorem results_ok (hR : R E w0 I0 nt γ I st a w) {fn : Func} {rs : List ARes} {vs : List V} (h1 : fn.results.toList.mapM (compRes P) = some rs) (h2 : rs.mapM (resOf st) = some vs) :
    ∃ xs : List Value, xs.length = vs.length ∧ (results fn a.tmps).run P w = .ok (resVal xs) w ∧ ∀ (j : Nat) (x : Value) (v : V), xs[j]? = some x → vs[j]? = some v → Rep γ I x v := by
  obtain ⟨xs, k1, k2, k3⟩ := resList_ok hR _ _ _ h1 h2
  refine ⟨xs, k1, ?_, k3⟩
  have he : (results fn a.tmps) = (fn.results.mapM (resOne a.tmps) >>= fun vs => pure (if h : vs.size = 1 then vs[0] else .tuple vs)) := by
    unfold results
    congr 1
  rw [he, Array.mapM_eq_mapM_toList]
  simp only [map_eq_pure_bind, Sem.run_bind, k2, Result.andThen_ok, Sem.run_pure]
  congr 1
  match xs with
  | [] => rfl
  | [x] => rfl
  | x :: y :: r => simp [resVal]

theorem assoc_find {β : Type} {l : List (Nat × β)} (hn : (l.map (·.1)).Nodup) {i : Nat} {u : β} (hm : (i, u) ∈ l) : (l.find? fun p => Nat.beq p.1 i) = some (i, u) := by
  induction l with
  | nil => cases hm
  | cons p l ih =>
    obtain ⟨j, v⟩ := p
    simp only [List.map_cons, List.nodup_cons] at hn
    rcases List.mem_cons.1 hm with he | hm
    · cases he
      simp [List.find?, Nat.beq_refl]
    · have hne : ¬ j = i := fun e => hn.1 (List.mem_map.2 ⟨_, hm, e.symm⟩)
      have : Nat.beq j i = false := by
        cases h : Nat.beq j i with
        | false => rfl
        | true => exact absurd (Nat.eq_of_beq_eq_true h) hne
      simp only [List.find?, this]
      exact ih hn.2 hm

theorem out_ok (hR : R E w0 I0 nt γ I st a w) {xs : List Value} {vs : List V} {r : V} (hlen : xs.length = vs.length) (hr : ∀ (j : Nat) (x : Value) (v : V), xs[j]? = some x → vs[j]? = some v → Rep γ I x v)
    (ho : outRes st vs = some r) :
    ∃ τ I', (∀ b o x, I b o = some x → I' b o = some x) ∧ ImmOk I' w ∧ (∀ b o, b < w0.heap.size → I' b o = I b o) ∧ RRep τ I' (resVal xs) r ∧ TokNew w0.heap.size τ I' w r := by
  classical
  obtain ⟨Ω, hown⟩ := hR.own
  let C : Nat → Nat → Prop := fun b o => w0.heap.size ≤ b ∧ ∃ l u cs k, st.ob l = some ⟨u, .cells cs⟩ ∧ γ u = some (.obj b k) ∧ o < cs.length
  let I' : IMap := fun b o => match I b o with
    | some x => some x
    | none => if C b o then w.cell? ⟨b, o, none⟩ else none
  have hmono : ∀ b o x, I b o = some x → I' b o = some x := by
    intro b o x h
    simp only [I', h]
  have hz : Frozen γ w0.heap.size st w I I' := ⟨hmono, fun b k o x l u cs hb hl hu hlt hc => by
    obtain ⟨b', k', k1, _, _, _, k5⟩ := hown.ob l _ hl
    rw [hu] at k1
    cases k1
    simp only [I', k5]
    rw [if_pos ⟨hb, l, u, cs, k, hl, hu, hlt⟩]
    exact hc⟩
  have himm : ImmOk I' w := by
    intro b o x h
    simp only [I'] at h
    split at h
    · rename_i y hy
      cases h
      exact hR.imm _ _ _ hy
    · split at h
      · exact h
      · cases h
  have hold : ∀ b o, b < w0.heap.size → I' b o = I b o := by
    intro b o hb
    simp only [I']
    split
    · rename_i y hy; exact hy.symm
    · rename_i hy
      rw [if_neg (fun h => Nat.not_lt_of_le h.1 hb)]
      exact hy.symm
  unfold outRes at ho
  obtain ⟨l, hl, ho⟩ := bind_some ho
  simp only [Option.ite_none_right_eq_some] at ho
  obtain ⟨hnd, hre⟩ := ho
  generalize hkeep : nodup (vs.flatMap V.toks) = keep at hl
  let pl := plTops γ st keep 0 xs vs
  let τ : Nat → Option Place := fun i => (pl.find? fun p => Nat.beq p.1 i).bind fun p => p.2.2
  obtain ⟨hsub, hpk⟩ := pl_tops_sub (γ := γ) (I := I) 0 xs vs l hlen hr hl
  have hpos := outTops_pos (γ := γ) (I := I) xs vs l 0 hlen hr hl
  have hfst : (pl.map (·.1)).Nodup := by
    rw [← hpos]
    exact nodup_spec hnd
  have hτ : ∀ p ∈ pl, τ p.1 = p.2.2 := by
    intro p hp
    obtain ⟨i, u⟩ := p
    simp only [τ, assoc_find hfst hp, Option.bind_some]
  obtain ⟨h1, h2⟩ := outTops_ok (τ := τ) hown hz xs vs l 0 hlen hr hl hτ
  have htoks : toksRes r = pl.map (·.1) := by
    rw [← hpos]
    match l, h2, hre with
    | [], _, rfl => rfl
    | [v], h2, rfl =>
      match xs, hlen, h1 with
      | [x], _, _ =>
        have := (h2 0 x v rfl rfl).2
        simp only [List.flatMap_cons, List.flatMap_nil, List.append_nil]
        cases v <;> first | rfl | exact absurd rfl (this _)
      | [], e1, e2 => simp at e1 e2; omega
      | _ :: _ :: _, e1, e2 => simp at e1 e2; omega
    | v :: v' :: l', _, rfl => rfl
  have hrep : RRep τ I' (resVal xs) r := by
    have hll : xs.length = l.length := hlen.trans h1.symm
    match l, xs, hll, h2, hre with
    | [], [], _, _, rfl => exact ⟨#[], rfl, rfl, fun j y u hy => by simp at hy⟩
    | [v], [x], _, h2, rfl =>
      obtain ⟨k1, k2⟩ := h2 0 x v rfl rfl
      cases v <;> first | exact k1 | exact absurd rfl (k2 _)
    | v :: v' :: l', x :: x' :: xs', e, h2, rfl => exact ⟨(x :: x' :: xs').toArray, rfl, by simpa using e, fun j y u hy hu => (h2 j y u (by simpa using hy) hu).1⟩
  refine ⟨τ, I', hmono, himm, hold, hrep, ?_⟩
  have hsnd : keep = true → (pl.map (·.2.1)).Nodup := fun hk => hsub.nodup (nodup_spec (by rw [hkeep, hk]))
  -- whose block it is
  have hwho : ∀ p ∈ pl, ∃ b n cap sz, p.2.2 = some (.tok b n cap sz) ∧ w0.heap.size ≤ b ∧ b < w.heap.size ∧ TokOk w.heap[b]? n cap sz ∧ (∀ j, n * sz ≤ j → I' b j = none) ∧
      (Ω b = some (.tk p.2.1) ∨ ∃ l cs k, Ω b = some (.ob l) ∧ st.ob l = some ⟨p.2.1, .cells cs⟩ ∧ γ p.2.1 = some (.obj b k)) := by
    intro p hp
    obtain ⟨hk, hu | ⟨l, cs, b, k, n, cap, sz, q1, q2, q3, q4, q5, q6, q7, q8, q9⟩⟩ := hpk p hp
    · obtain ⟨b, n, cap, sz, q1, q2, q3, q4, q5⟩ := hown.tk p.2.1 hu.1
      refine ⟨b, n, cap, sz, hu.2.trans q1, q3, hown.lt _ _ q2, q4, fun j hj => ?_, .inl q2⟩
      have hn := q5 j hj
      simp only [I', hn]
      rw [if_neg]
      rintro ⟨_, l', u', cs', k', r1, r2, _⟩
      obtain ⟨b', k'', t1, t2, _⟩ := hown.ob l' _ r1
      rw [r2] at t1
      cases t1
      rw [q2] at t2
      cases t2
    · obtain ⟨b', k', t1, t2, t3, ⟨arr, e, g1, g2, g3, g4⟩, t5⟩ := hown.ob l _ q1
      rw [q2] at t1
      cases t1
      refine ⟨b, n, cap, sz, q3, t3 (by simpa [Nat.ble_eq] using q9), hown.lt _ _ t2, ⟨arr, e, g1, by rw [g2]; exact q8, q6, q7⟩, fun j hj => ?_, .inr ⟨l, cs, k, t2, q1, q2⟩⟩
      simp only [I', t5]
      rw [if_neg]
      rintro ⟨_, l', u', cs', k', r1, r2, r3⟩
      obtain ⟨b', k'', s1, s2, _⟩ := hown.ob l' _ r1
      rw [r2] at s1
      cases s1
      rw [t2] at s2
      cases s2
      rw [q1] at r1
      cases r1
      omega
  intro i hi
  rw [htoks] at hi
  obtain ⟨⟨i', u, pp⟩, hp, rfl⟩ := List.mem_map.1 hi
  obtain ⟨b, n, cap, sz, q1, q2, q3, q4, q5, q6⟩ := hwho _ hp
  refine ⟨b, n, cap, sz, (hτ _ hp).trans q1, q2, q3, q4, q5, fun i2 hi2 n' c' s' he => ?_⟩
  rw [htoks] at hi2
  obtain ⟨⟨i3, u3, pp3⟩, hp3, rfl⟩ := List.mem_map.1 hi2
  obtain ⟨b3, n3, cap3, sz3, r1, r2, r3, r4, r5, r6⟩ := hwho _ hp3
  have e3 := (hτ _ hp3).symm.trans he
  simp only at e3
  simp only at r1
  rw [r1] at e3
  cases e3
  have hk := (hpk _ hp).1
  have huu : u3 = u := by
    simp only at q6 r6
    rcases q6 with q6 | ⟨l, cs, k, q6, q7, q8⟩ <;> rcases r6 with r6 | ⟨l', cs', k', r6, r7, r8⟩
    · rw [q6] at r6; cases r6; rfl
    · rw [q6] at r6; cases r6
    · rw [q6] at r6; cases r6
    · rw [q6] at r6; cases r6
      rw [q7] at r7; cases r7; rfl
  subst huu
  have := hsnd hk
  obtain ⟨k, hk1, hk2⟩ := List.getElem_of_mem hp
  obtain ⟨k', hk3, hk4⟩ := List.getElem_of_mem hp3
  have hkk : k' = k := by
    refine (List.getElem_inj (xs := pl.map (·.2.1)) (h₀ := by simpa using hk3) (h₁ := by simpa using hk1) this).1 ?_
    simp [hk2, hk4]
  subst hkk
  rw [hk2] at hk4
  cases hk4
  rfl
end
end Go.Pv

/- What is handed to a callee as it stands, as if for good. -/
namespace Go.Pv
open Go

section
variable {P : Program} {E : Env} {τ : Nat → Option Place} {I I' I1 : IMap} {B : Nat}

theorem scal_rep {x : Value} {v : V} (h : RepP I x v) (hs : v.scal = true) : RepP I' x v := by
  cases h <;> first | (simp [V.scal] at hs; done) | constructor
theorem free_leaf (hII : ∀ b o, B ≤ b → I' b o = I1 b o) {x : Value} {v : V} (h : LRep τ I1 x v) (hf : v.freeL = true) (ht : ∀ i ∈ v.tok, ∃ b n cap sz, τ i = some (.tok b n cap sz) ∧ B ≤ b) : LRep τ I' x v := by
  cases v with
  | sl t nl n cs =>
    cases t with
    | none => exact scal_rep (show RepP I1 x _ from h) hf
    | some q =>
      obtain ⟨u, z⟩ := q
      have h' : Rep τ I1 x (.sl (some (u, z)) nl n cs) := h
      cases h' with
      | pure _ _ h => cases h
      | tsl _ b _ cap _ _ xs hu hlen hc hm hi hl hr =>
        obtain ⟨b', n', cap', sz', k1, k2⟩ := ht u (by simp [V.tok])
        rw [hu] at k1
        cases k1
        refine Rep.tsl u b n cap z cs xs hu hlen hc hm (fun j hj => (hII _ _ k2).trans (hi j hj)) hl (fun j v hv => scal_rep (hr j v hv) ?_)
        exact List.all_eq_true.1 (show cs.all V.scal = true from hf) v (List.mem_of_getElem? hv)
  | osl l u off n sz => cases hf
  | _ => first | (cases hf; done) | exact scal_rep (show RepP I1 x _ from h) hf
theorem trepL_eq {x : Value} {v : V} (h : ∀ cs, v ≠ .agg cs) : TRep τ I x v = LRep τ I x v := by
  cases v <;> first | rfl | exact absurd rfl (h _)
theorem rrepT_eq {x : Value} {v : V} (h : ∀ cs, v ≠ .tup cs) : RRep τ I x v = TRep τ I x v := by
  cases v <;> first | rfl | exact absurd rfl (h _)
theorem free_top (hII : ∀ b o, B ≤ b → I' b o = I1 b o) {x : Value} {v : V} (h : TRep τ I1 x v) (hf : v.freeT = true) (ht : ∀ i ∈ v.toks, ∃ b n cap sz, τ i = some (.tok b n cap sz) ∧ B ≤ b) : TRep τ I' x v := by
  cases v with
  | agg cs =>
    obtain ⟨xs, rfl, h1, h2, h3⟩ := h
    refine ⟨xs, rfl, h1, h2, fun j y u hy hu => ?_⟩
    have hm := List.mem_of_getElem? hu
    exact free_leaf hII (h3 j y u hy hu) (List.all_eq_true.1 (show cs.all V.freeL = true from hf) u hm) (fun i hi => ht i (List.mem_flatMap.2 ⟨u, hm, hi⟩))
  | _ => rw [trepL_eq (fun _ h => by cases h)] at h ⊢; exact free_leaf hII h hf ht
theorem free_res (hII : ∀ b o, B ≤ b → I' b o = I1 b o) {x : Value} {v : V} (h : RRep τ I1 x v) (hf : v.freeR = true) (ht : ∀ i ∈ toksRes v, ∃ b n cap sz, τ i = some (.tok b n cap sz) ∧ B ≤ b) : RRep τ I' x v := by
  cases v with
  | tup vs =>
    obtain ⟨xs, rfl, h1, h2⟩ := h
    refine ⟨xs, rfl, h1, fun j y u hy hu => ?_⟩
    have hm := List.mem_of_getElem? hu
    exact free_top hII (h2 j y u hy hu) (List.all_eq_true.1 (show vs.all V.freeT = true from hf) u hm) (fun i hi => ht i (List.mem_flatMap.2 ⟨u, hm, hi⟩))
  | _ => rw [rrepT_eq (fun _ h => by cases h)] at h ⊢; exact free_top hII h hf ht

theorem frz_top {γ : Nat → Option Place} {st : St} {w : World} {Ω : Nat → Option Owner} {ob : Nat → Option Obj'} (ho : Own γ I 0 (startS [] ob (fun _ => false) 0 0 0) w Ω) (hz : Frozen γ 0 (startS [] ob (fun _ => false) 0 0 0) w I I')
    {x : Value} {v v' : V} (hx : Rep γ I x v) (hv : frzTop ob v = some v') : RepP I' x v' := by
  cases v with
  | agg cs =>
    obtain ⟨xs, rfl, h1, h2, h3⟩ := inv_agg hx
    simp only [frzTop] at hv
    obtain ⟨cs', hcs, rfl⟩ := map_some hv
    obtain ⟨k1, k2⟩ := mapM_some hcs
    have key : ∀ (j : Nat) (y : Value) (u : V), xs[j]? = some y → cs'[j]? = some u → RepP I' y u ∧ u.pureLeaf = true := by
      intro j y u hy hu
      have hj : j < cs.length := by have := (List.getElem?_eq_some_iff.1 hu).1; omega
      have hc : cs[j]? = some (cs[j]) := List.getElem?_eq_getElem hj
      exact solid_ok ho hz 6 _ _ _ (h3 j y _ hy hc) (k2 j _ _ hc hu)
    refine .agg xs cs' (by omega) (fun j u hu => ?_) (fun j y u hy hu => (key j y u hy hu).1)
    have hj : j < xs.size := by have := (List.getElem?_eq_some_iff.1 hu).1; omega
    exact pure_leaf (key j _ u (Array.getElem?_eq_getElem hj) hu).2
  | fn f as bs => cases hv
  | _ => exact (solid_ok ho hz 6 _ _ _ hx hv).1

theorem frz_ok {f : FuncId} {args args' : List V} {ob : Nat → Option Obj'} {ub : Nat} {r : V} (hp : PureOk P E f args' r) (ha : args.mapM (frzTop ob) = some args') (hr : r.freeR = true) : ObsOk P E f args ob ub r := by
  intro w0 w I0 I γ xs st hob hSh hfr hsz hrep
  obtain ⟨Ω, ho⟩ := hSh.own
  have ho' : Own γ I 0 (startS [] ob (fun _ => false) 0 0 0) w Ω := by
    refine ⟨fun l o hl => ?_, fun u h => (by cases h), ho.lt⟩
    obtain ⟨b, k, h1, h2, h3, h4, h5⟩ := ho.ob l o (hob l o hl)
    exact ⟨b, k, h1, h2, fun _ => Nat.zero_le _, h4.keep (fun l2 u2 ver' es' mb mk _ hl2 => .inl ⟨hob _ _ hl2, fun m c hm => hm⟩), h5⟩
  have hz : Frozen γ 0 (startS [] ob (fun _ => false) 0 0 0) w I (fun b o => w.cell? ⟨b, o, none⟩) := ⟨hSh.imm, fun b k o x l u cs _ _ _ _ hc => hc⟩
  obtain ⟨hlen, hget⟩ := mapM_some ha
  have hlt : ∀ b o x, I b o = some x → b < w.heap.size := by
    intro b o x hx
    have := hSh.imm b o x hx
    apply Classical.byContradiction
    intro hn
    have hb : w.heap[b]? = none := Array.getElem?_eq_none (by omega)
    simp [World.cell?, hb] at this
  refine (hp w (fun b o => w.cell? ⟨b, o, none⟩) xs (fun _ _ _ h => h) (fun g cs hg => (hSh.gl g cs hg).mono hSh.imm) (hsz.trans hlen.symm) (fun j x v hx hv => ?_)).mono fun e w' he => ?_
  · have hj : j < args.length := by have := (List.getElem?_eq_some_iff.1 hv).1; omega
    have hc : args[j]? = some (args[j]) := List.getElem?_eq_getElem hj
    exact frz_top (st := st) ho' hz (hrep j x _ hx hc) (hget j _ _ hc hv)
  · obtain ⟨x, τ, I1, rfl, hg, hI, him, hold, hx, ht⟩ := he
    have hge : ∀ b o, w.heap.size ≤ b → (fun b o => if b < w.heap.size then I b o else I1 b o) b o = I1 b o := fun b o h => if_neg (by omega)
    refine ⟨x, τ, fun b o => if b < w.heap.size then I b o else I1 b o, rfl, hg, fun b o y hy => ?_, fun b o y hy => ?_, fun b o hb => if_pos hb, free_res hge hx hr (fun i hi => ?_), fun i hi => ?_⟩
    · simp only [hlt b o y hy, if_true]; exact hy
    · simp only at hy
      split at hy
      · exact him b o y (hI b o y (hSh.imm b o y hy))
      · exact him b o y hy
    · obtain ⟨b, n, cap, sz, k1, k2, _⟩ := ht i hi
      exact ⟨b, n, cap, sz, k1, k2⟩
    · obtain ⟨b, n, cap, sz, k1, k2, k3, k4, k5, k6⟩ := ht i hi
      exact ⟨b, n, cap, sz, k1, k2, k3, k4, fun j hj => (hge b j k2).trans (k5 j hj), k6⟩
end
end Go.Pv

/- Calls do what the interpreter says. -/
namespace Go.Pv
open Go

theorem dstOk_mono {n m : Nat} (h : n ≤ m) : ∀ c : C, c.dstOk n = true → c.dstOk m = true := by
  have one : ∀ ops : List AOpr, (ops.all fun o => match o.dst with | some d => Nat.blt d n | none => true) = true → (ops.all fun o => match o.dst with | some d => Nat.blt d m | none => true) = true := by
    intro ops hd
    refine List.all_eq_true.2 fun o ho => ?_
    have := List.all_eq_true.1 hd o ho
    split
    · rename_i d hdd
      simp only [hdd, Nat.blt_eq] at this
      simp only [Nat.blt_eq]
      omega
    · rfl
  intro c
  induction c with
  | region ops => exact one ops
  | draw ops f => exact one ops
  | seq a b iha ihb => simp only [C.dstOk, Bool.and_eq_true]; exact fun ⟨h1, h2⟩ => ⟨iha h1, ihb h2⟩
  | cond q a b iha ihb => simp only [C.dstOk, Bool.and_eq_true]; exact fun ⟨h1, h2⟩ => ⟨iha h1, ihb h2⟩
  | block i a ih => exact ih
  | loop a ih => exact ih
  | rangeFunc f ps a b iha ihb =>
    simp only [C.dstOk, Bool.and_eq_true]
    rintro ⟨⟨h1, h2⟩, h3⟩
    refine ⟨⟨List.all_eq_true.2 fun p hp => ?_, iha h2⟩, ihb h3⟩
    have := List.all_eq_true.1 h1 p hp
    simp only [Nat.blt_eq] at this ⊢
    omega
  | _ => exact fun _ => rfl

section
variable {P : Program} {E : Env}

theorem init_tm {γ : Nat → Option Place} {I : IMap} {xs : Array Value} {args : List V} {k : Nat} (hs : xs.size = args.length) (h : ∀ (j : Nat) (x : Value) (v : V), xs[j]? = some x → args[j]? = some v → Rep γ I x v) (t : Nat) :
    Rep γ I ((xs ++ Array.replicate k undef).getD t undef) (args.getD t none') := by
  by_cases ht : t < xs.size
  · have h1 : (xs ++ Array.replicate k undef).getD t undef = xs[t] := by
      simp [ht, Array.getElem?_append_left]
    have h2 : args.getD t none' = args[t]'(by omega) := by
      have : t < args.length := by omega
      simp [this]
    rw [h1, h2]
    exact h t _ _ (Array.getElem?_eq_getElem ht) (List.getElem?_eq_getElem (by omega))
  · have h1 : (xs ++ Array.replicate k undef).getD t undef = undef := by
      simp only [Array.getD_eq_getD_getElem?]
      rw [Array.getElem?_append_right (by omega)]
      by_cases hk : t - xs.size < k <;> simp [hk]
    have h2 : args.getD t none' = none' := by
      have : args.length ≤ t := by omega
      simp [this]
    rw [h1, h2]
    exact rep_undef

theorem leaves_ok {w0 : World} {I0 I : IMap} {γ : Nat → Option Place} {fn : Func} {tmps : Array Value} {Rp : Ending → World → Prop} {st : St} : ∀ (df : List (Nat × Nat)) (ds : List Deferred) (ob : Nat → Option Obj') (w : World),
    Sh E w0 I0 γ I { st with ob := ob } w → DfOk γ df ds → (∀ x ∈ df, ob x.1 = some ⟨x.2, .dfr⟩ ∧ Nat.ble st.ro x.2 = true) → (df.map (·.1)).Nodup →
    (∀ w', Sh E w0 I0 γ I { st with ob := fun k => if df.any (fun x => Nat.beq x.1 k) then none else ob k } w' → LeavesIn (FW none) 0 P fn tmps Rp [] .returning w') → LeavesInM (FW none) 0 P fn tmps Rp ds .returning w
  | [], [], ob, w, hSh, _, _, _, hK => hK w (hSh.congr (funext fun k => by simp) rfl rfl)
  | x :: df, d :: ds, ob, w, hSh, hdf, hob, hnd, hK => by
    obtain ⟨⟨b, k, rfl, hu⟩, hdf'⟩ := hdf
    obtain ⟨h1, h2⟩ := hob x (List.mem_cons_self ..)
    have hblk : w.heap[b]? = some (.deferred (some [])) := ob_get hSh h1 hu
    have htk := run_takeDeferred (P := P) hblk
    simp only [List.map_cons, List.nodup_cons] at hnd
    have hSh2 := hSh.turn (ob' := fun k => if Nat.beq x.1 k then none else ob k) (o' := .deferred none) h1 hu h2 (fun l2 y hy => by
      split at hy
      · cases hy
      · rename_i hne; exact .inl ⟨fun e => hne (by rw [e]; exact Nat.beq_refl _), hy⟩)
    refine ⟨(fun h => by cases h), .inl ⟨b, _, rfl, htk, ?_⟩⟩
    refine leaves_ok df ds (fun k => if Nat.beq x.1 k then none else ob k) _ (hSh2.congr rfl rfl rfl) hdf' (fun y hy => ?_) hnd.2 (fun w' h => ?_)
    · obtain ⟨q1, q2⟩ := hob y (List.mem_cons_of_mem _ hy)
      refine ⟨?_, q2⟩
      have hne : ¬ Nat.beq x.1 y.1 = true := fun e => hnd.1 (by rw [Nat.eq_of_beq_eq_true e]; exact List.mem_map.2 ⟨y, hy, rfl⟩)
      simp only [hne, Bool.false_eq_true, if_false]
      exact q1
    · refine hK w' (h.congr (funext fun k => ?_) rfl rfl)
      simp only [List.any_cons, Bool.or_eq_true]
      have key : ∀ p q : Bool, (if p = true ∨ q = true then none else ob k) = if q = true then none else if p = true then none else ob k := by
        intro p q
        cases p <;> cases q <;> rfl
      exact key _ _
  | [], _ :: _, _, _, _, h, _, _, _ => h.elim
  | _ :: _, [], _, _, _, h, _, _, _ => h.elim

theorem leave_ok {w0 w : World} {I0 I : IMap} {γ : Nat → Option Place} {nt : Nat} {fn : Func} {st : St} {a : Act} {Rp : Ending → World → Prop} (hR : R E w0 I0 nt γ I st a w) (hd : dfOk st = true)
    (hK : ∀ w', R E w0 I0 nt γ I st.noDf { tmps := a.tmps, defers := [] } w' → ∃ v, (results fn a.tmps).run P w' = .ok v w' ∧ Rp (.returned v) w') : LeavesInM (FW none) 0 P fn a.tmps Rp a.defers .returning w := by
  unfold dfOk at hd
  simp only [Bool.and_eq_true] at hd
  refine leaves_ok (st := st) st.df a.defers st.ob w (hR.sh.congr rfl rfl rfl) hR.df (fun x hx => ?_) (nodup_spec hd.2) (fun w' h => ?_)
  · have := List.all_eq_true.1 hd.1 x hx
    split at this
    · rename_i u hu
      simp only [Bool.and_eq_true] at this
      have e := Nat.eq_of_beq_eq_true this.1
      subst e
      exact ⟨hu, this.2⟩
    · cases this
  · have hn : st.noDf.tm = st.tm ∧ st.noDf.tk = st.tk ∧ st.noDf.ro = st.ro ∧ st.noDf.df = [] ∧ st.noDf.ob = fun k => if st.df.any (fun x => Nat.beq x.1 k) then none else st.ob k := by
      unfold St.noDf
      split
      · rename_i e; exact ⟨rfl, rfl, rfl, e, by rw [e]; funext k; simp⟩
      · exact ⟨rfl, rfl, rfl, rfl, rfl⟩
    exact hK w' ⟨hR.sz, by rw [hn.2.2.2.1]; trivial, by rw [hn.1]; exact hR.tm, h.congr hn.2.2.2.2 hn.2.1 hn.2.2.1⟩

theorem bodyPostM_of {fn : Func} {Rp : Ending → World → Prop} {e : Ex} {a : Act} {w : World} (h : e = .nrm ∨ e = .ret) (hl : LeavesInM (FW none) 0 P fn a.tmps Rp a.defers .returning w) : bodyPostM (FW none) 0 P fn Rp (exOf e) a w := by
  rcases h with rfl | rfl <;> exact hl

theorem callers_ok (hm : P.follows .mixedOrders = true) (hE : EnvOk P E) : ∀ n, CallersOk P E (callers E n)
  | 0 => fun γ0 Iy y hy => ⟨fun f args r h => (by cases h), fun f args ob tk b u r h => (by cases h), fun f args ob tk ro base ub r ob' tk' ub' h => (by cases h), hy⟩
  | n + 1 => by
    have ih := callers_ok hm hE n
    intro γ0 Iy y hy
    -- the results of a function that shares nothing, and of one that only looks
    have alone : ∀ {fn : Func} {af : AF} {r : V} {w0 w : World} {I0 I : IMap} {γ : Nat → Option Place} {nt : Nat} {st : St} {a : Act} {e : Ex} {Rp : Ending → World → Prop}, fn.results.toList.mapM (compRes P) = some af.res → R E w0 I0 nt γ I st a w → endV af.res (e, st) = some r →
        (∀ x τ I' w', w0.grownBy w' none → (∀ b o x, I b o = some x → I' b o = some x) → ImmOk I' w' → (∀ b o, b < w0.heap.size → I' b o = I0 b o) → RRep τ I' x r → TokNew w0.heap.size τ I' w' r → Rp (.returned x) w') →
        bodyPostM (FW none) 0 P fn Rp (exOf e) a w := by
      intro fn af r w0 w I0 I γ nt st a e Rp hres hR he hK
      have hne : e = .nrm ∨ e = .ret := by cases e <;> first | exact .inl rfl | exact .inr rfl | cases he
      have he' : (if dfOk st then (af.res.mapM (resOf st.noDf)).bind (outRes st.noDf) else none) = some r := by rcases hne with rfl | rfl <;> exact he
      simp only [Option.ite_none_right_eq_some] at he'
      obtain ⟨hd, he'⟩ := he'
      refine bodyPostM_of hne (leave_ok hR hd fun w' hR' => ?_)
      obtain ⟨vs, hvs, hout⟩ := bind_some he'
      obtain ⟨ys, k1, k2, k3⟩ := results_ok hR' hres hvs
      obtain ⟨τ, I2, q1, q2, q3, q4, q5⟩ := out_ok hR' k1 k3 hout
      exact ⟨_, k2, hK _ τ I2 _ hR'.fr q1 q2 (fun b o hb => (q3 b o hb).trans (hR'.old b o hb)) q4 q5⟩
    refine ⟨fun f args r h => ?_, fun f args ob tk base ub r h => ?_, fun f args ob tk ro base ub r ob' tk' ub' h => ?_, hy⟩
    · simp only [callers] at h
      obtain ⟨af, haf, h⟩ := bind_some h
      obtain ⟨m, fn, c, hfn, hb, hcomp, hres, hname, hdst⟩ := hE.fc f af haf
      refine ⟨⟨fn, c, hfn, hb, hname⟩, fun w I xs himm hgl hsz hrep => ?_⟩
      obtain ⟨l, hx, hall⟩ := one1_spec h
      refine callsWide (callsIn_of_wp_marks (F := FW none) (n := 0) hfn hb trivial ?_)
      have hnt : fn.ntmps ≤ (xs ++ Array.replicate (fn.ntmps - xs.size) undef).size := by simp; omega
      have hR : R E w I (xs ++ Array.replicate (fn.ntmps - xs.size) undef).size (fun _ => none) I (start args) { tmps := xs ++ Array.replicate (fn.ntmps - xs.size) undef, defers := [] } w :=
        ⟨rfl, trivial, fun t => init_tm hsz (fun j x v hx hv => .pure _ _ (hrep j x v hx hv)) t, ⟨himm, hgl, ⟨fun _ => none, ⟨fun l o h => (by cases h), fun u h => (by cases h), fun b o h => (by cases h)⟩⟩, ⟨rfl, rfl, rfl, Nat.le_refl _, fun _ _ _ => rfl⟩, fun _ _ _ => rfl⟩⟩
      refine code_ok hm ih n (y := noY) (γ0 := fun _ => none) (Iy := I) noY_ok c af.body m false none (.inr rfl) hcomp (dstOk_mono hnt _ hdst) w I _ _ l _ _ _ _ (SubG.refl _) (SubI.refl _) hx hR (fun _ _ => rfl) (fun y hy => ?_)
      obtain ⟨e, s⟩ := y
      intro γ' I' a' w' hR' hf' hg hI
      refine alone hres hR' (hall _ hy) (fun x τ I2 w2 h2 h3 h4 h5 h6 h7 => ?_)
      exact ⟨x, τ, I2, rfl, h2, fun b o x h => h3 b o x (hI b o x h), h4, h5, h6, h7⟩
    · simp only [callers] at h
      by_cases hfz : E.fz f
      · simp only [hfz, if_true] at h
        obtain ⟨args', ha, h⟩ := bind_some h
        obtain ⟨r', h1, h2⟩ := bind_some h
        simp only [Option.ite_none_right_eq_some, Option.some.injEq] at h2
        obtain ⟨h2, rfl⟩ := h2
        have hd := (ih γ0 Iy noY noY_ok).d f args' r' h1
        exact ⟨hd.1, frz_ok hd.2 ha h2⟩
      simp only [hfz, Bool.false_eq_true, if_false] at h
      obtain ⟨af, haf, h⟩ := bind_some h
      obtain ⟨m, fn, c, hfn, hb, hcomp, hres, hname, hdst⟩ := hE.fs f af haf
      refine ⟨⟨fn, c, hfn, hb, hname⟩, fun w0 w I0 I γ xs st hob hSh hfr hsz hrep => ?_⟩
      obtain ⟨l, hx, hall⟩ := one1_spec h
      refine callsWide (callsIn_of_wp_marks (F := FW none) (n := 0) hfn hb trivial ?_)
      have hnt : fn.ntmps ≤ (xs ++ Array.replicate (fn.ntmps - xs.size) undef).size := by simp; omega
      have hR : R E w I (xs ++ Array.replicate (fn.ntmps - xs.size) undef).size γ I (startS args ob (fun _ => false) ub base ub) { tmps := xs ++ Array.replicate (fn.ntmps - xs.size) undef, defers := [] } w := by
        obtain ⟨Ω, ho⟩ := hSh.own
        refine ⟨rfl, trivial, fun t => init_tm hsz hrep t, ⟨hSh.imm, hSh.gl, ⟨Ω, ⟨fun l o hl => ?_, fun u h => (by cases h), ho.lt⟩⟩, ⟨rfl, rfl, rfl, Nat.le_refl _, fun _ _ _ => rfl⟩, fun _ _ _ => rfl⟩⟩
        have hl' : st.ob l = some o := hob l o hl
        obtain ⟨b, k, h1, h2, h3, h4, h5⟩ := ho.ob l o hl'
        refine ⟨b, k, h1, h2, fun hro => ?_, h4.keep (fun l2 u2 ver' es' mb mk _ hl2 => .inl ⟨hob _ _ hl2, fun m c hm => hm⟩), h5⟩
        rw [hfr _ hro] at h1
        cases h1
      refine code_ok hm ih n (y := noY) (γ0 := γ) (Iy := I) noY_ok c af.body m true none (.inr rfl) hcomp (dstOk_mono hnt _ hdst) w I _ _ l _ _ _ _ (SubG.refl _) (SubI.refl _) hx hR hfr (fun y hy => ?_)
      obtain ⟨e, s⟩ := y
      intro γ' I' a' w' hR' hf' hg hI
      refine alone hres hR' (hall _ hy) (fun x τ I2 w2 h2 h3 h4 h5 h6 h7 => ?_)
      exact ⟨x, τ, I2, rfl, h2, fun b o x h => h3 b o x (hI b o x h), h4, h5, h6, h7⟩
    · simp only [callers] at h
      obtain ⟨af, haf, h⟩ := bind_some h
      obtain ⟨m, fn, c, hfn, hb, hcomp, hres, hname, hdst⟩ := hE.fs f af haf
      refine ⟨⟨fn, c, hfn, hb, hname⟩, fun w0 w I0 I γ xs st hg0 hI0 hob htk hro hSh hfr hsz hrep => ?_⟩
      split at h
      case h_2 => cases h
      rename_i x hx
      refine callsWide (callsIn_of_wp_marks (F := FW none) (n := 0) hfn hb trivial ?_)
      have hnt : fn.ntmps ≤ (xs ++ Array.replicate (fn.ntmps - xs.size) undef).size := by simp; omega
      have hR : R E w0 I0 (xs ++ Array.replicate (fn.ntmps - xs.size) undef).size γ I (startS args ob tk ro base ub) { tmps := xs ++ Array.replicate (fn.ntmps - xs.size) undef, defers := [] } w :=
        ⟨rfl, trivial, fun t => init_tm hsz hrep t, hSh.congr hob.symm htk.symm hro.symm⟩
      refine code_ok hm ih n (y := y) hy c af.body m true none (.inr rfl) hcomp (dstOk_mono hnt _ hdst) w0 I0 _ _ [x] _ _ _ _ hg0 hI0 hx hR hfr (fun z hz => ?_)
      rw [List.mem_singleton] at hz
      subst hz
      have hro' := codeL_ro _ hx _ (List.mem_singleton.2 rfl)
      obtain ⟨e, s⟩ := z
      intro γ' I' a' w' hR' hf' hg hI
      have hne : e = .nrm ∨ e = .ret := by cases e <;> first | exact .inl rfl | exact .inr rfl | cases h
      have h' : (if s.df.isEmpty then (af.res.mapM (resOf s)).map fun l => (match l with | [v] => v | l => .tup l, s.ob, s.tk, s.nx) else none) = some (r, ob', tk', ub') := by rcases hne with rfl | rfl <;> exact h
      simp only [Option.ite_none_right_eq_some] at h'
      obtain ⟨hde, h'⟩ := h'
      have hde : s.df = [] := List.isEmpty_iff.1 hde
      have hdn : a'.defers = [] := by
        have := hR'.df
        simp only [hde] at this
        cases hds : a'.defers with
        | nil => rfl
        | cons d ds => rw [hds] at this; exact this.elim
      refine bodyPostM_of hne ?_
      rw [hdn]
      obtain ⟨vs, hvs, he⟩ := map_some h'
      obtain ⟨ys, k1, k2, k3⟩ := results_ok hR' hres hvs
      simp only [Prod.mk.injEq] at he
      obtain ⟨he, rfl, rfl, rfl⟩ := he
      refine ⟨_, k2, _, γ', I', rfl, fun st' h1 h2 h3 => hR'.sh.congr h1 h2 (h3.trans hro'.symm), ?_, hg, hI, hf'⟩
      match ys, vs, k1, k3, he with
      | [], [], _, _, rfl => exact .tup _ _ rfl (fun j y u hy => by simp at hy)
      | [y], [v], _, k3, rfl => exact k3 0 y v rfl rfl
      | y :: y' :: ys, v :: v' :: vs, e, k3, rfl => exact .tup _ _ (by simpa using e) (fun j z u hz hu => k3 j z u (by simpa using hz) hu)

theorem Ev.sound (hm : P.follows .mixedOrders = true) (hE : EnvOk P E) {f : FuncId} {args : List V} {r : V} (h : Ev E f args r) : PureOk P E f args r := by
  obtain ⟨n, h⟩ := h
  exact ((callers_ok hm hE n (fun _ => none) (fun _ _ => none) noY noY_ok).d f args r h).2
end
end Go.Pv

/- What code does, as a condition that is reckoned: for proofs about whatever input. -/
namespace Go.Pv
open Go

def EvO (E : Env) (f : FuncId) (args : List V) (ob : Nat → Option Obj') (tk : Nat → Bool) (base ub : Nat) (r : V) : Prop := ∃ n, (callers E n noY).o f args ob tk base ub = some r
def EvS (E : Env) (y : Nat → Y) (f : FuncId) (args : List V) (ob : Nat → Option Obj') (tk : Nat → Bool) (ro base ub : Nat) (r : V × (Nat → Option Obj') × (Nat → Bool) × Nat) : Prop := ∃ n, (callers E n (y n)).s f args ob tk ro base ub = some r

structure YF where
  y : Nat → Y
  mono : ∀ {n m : Nat}, n ≤ m → YLe (y n) (y m)
def noYF : YF := ⟨fun _ => noY, fun _ => YLe.refl _⟩
def EvY (Yf : YF) (l u : Nat) (xs : List V) (ob : Nat → Option Obj') (tk : Nat → Bool) (ro ub : Nat) (r : V × (Nat → Option Obj') × (Nat → Bool) × Nat) : Prop := ∃ n, Yf.y n l u xs ob tk ro ub = some r
def WY (E : Env) (Yf : YF) (c : C) (st : St) (Q : Ex → St → Prop) : Prop := ∃ n l, codeL E (callers E n) (Yf.y n) n c st = some l ∧ l ≠ [] ∧ ∀ x ∈ l, Q x.1 x.2

def wpCall (E : Env) (f : FuncId) (xs : List V) (st : St) (dst : Option Nat) (ub : Nat) (K : St → Nat → Prop) : Prop :=
  xs.all V.pureTop = true ∧ ∃ v, Ev E f xs v ∧ ∃ δ, retA ub v = some δ ∧ K (st.app dst δ) (ub + 64)

def wpStep (E : Env) (Yf : YF) (o : AOpr) (st : St) (ub : Nat) (K : St → Nat → Prop) : Prop :=
  match wanted o st.tm with
  | none => False
  | some false => K { st with tm := put st.tm o.dst none' } ub
  | some true => match yieldCall (eval E st.tm) o.op with
   | some (l, u, xs) => ∃ r, EvY Yf l u xs st.ob st.tk st.ro ub r ∧ K { st with tm := put st.tm o.dst r.1, ob := r.2.1, tk := r.2.2.1 } r.2.2.2
   | none => match sharedCall E o.nm (eval E st.tm) o.op with
    | some (f, xs) => (E.sh o.nm f = true ∧ ∃ r, EvS E Yf.y f xs st.ob st.tk st.ro ((st.fb + o.dst.getD 0 + 1) * 1024) ub r ∧ K { st with tm := put st.tm o.dst r.1, ob := r.2.1, tk := r.2.2.1 } r.2.2.2) ∨
        (E.sh o.nm f = false ∧ ∃ v, EvO E f xs st.ob st.tk ((st.fb + o.dst.getD 0 + 1) * 1024) ub v ∧ ∃ δ, retA ub v = some δ ∧ K (st.app o.dst δ) (ub + 64))
    | none => match o.op with
      | .call f xs => wpCall E f (xs.map fun x => (eval E st.tm x).strip) st o.dst ub K
      | .callV q xs => ∃ f first captured, eval E st.tm q = .fn (.func f) first captured ∧ wpCall E f ((first ++ xs.map (eval E st.tm) ++ captured).map V.strip) st o.dst ub K
      | .nextMap x => ∃ l, nextL st.ob st.ro (eval E st.tm x) = some l ∧ ∀ δ ∈ l, K (st.app o.dst δ) (ub + 64)
      | op => ∃ δ, aop (fun _ _ => none) (eval E st.tm) st.ob st.tk st.ro (o.name st.fb ub) ub op = some δ ∧ K (st.app o.dst δ) (ub + 64)

def wpOps' (E : Env) (Yf : YF) : List AOpr → St → Nat → (St → Prop) → Prop
  | [], st, ub, K => K { st with nx := ub }
  | o :: r, st, ub, K => wpStep E Yf o st ub fun st ub => wpOps' E Yf r st ub K

def wpDraw (E : Env) : List AOpr → St → Nat → (List FP → St → Prop) → Prop
  | [], st, ub, K => K [] { st with nx := ub }
  | o :: r, st, ub, K =>
    match wanted o st.tm with
    | none => False
    | some false => wpDraw E r (st.app o.dst { v := none' }) (ub + 64) fun fs s => K ({} :: fs) s
    | some true => match sharedCall E o.nm (eval E st.tm) o.op with
      | some (f, xs) => E.sh o.nm f = false ∧ ∃ v, EvO E f xs st.ob st.tk ((st.fb + o.dst.getD 0 + 1) * 1024) (ub + 64 * (r.length + 1)) v ∧ ∃ δ, retA ub v = some δ ∧
          wpDraw E r (st.app o.dst δ) (ub + 64) fun fs s => K ({ wt := δ.wt, all := true, seen := fun l => (st.ob l).isSome } :: fs) s
      | none => o.op.far = false ∧ match o.op with
        | .call f xs => (xs.all fun x => (eval E st.tm x).strip.pureTop) = true ∧ ∃ v, Ev E f (xs.map fun x => (eval E st.tm x).strip) v ∧ ∃ δ, retA ub v = some δ ∧ wpDraw E r (st.app o.dst δ) (ub + 64) fun fs s => K (fpOf (eval E st.tm) o.op δ :: fs) s
        | .callV q xs => ∃ f first captured, eval E st.tm q = .fn (.func f) first captured ∧ ((first ++ xs.map (eval E st.tm) ++ captured).map V.strip).all V.pureTop = true ∧ ∃ v, Ev E f ((first ++ xs.map (eval E st.tm) ++ captured).map V.strip) v ∧ ∃ δ, retA ub v = some δ ∧
            wpDraw E r (st.app o.dst δ) (ub + 64) fun fs s => K (fpOf (eval E st.tm) o.op δ :: fs) s
        | op => ∃ δ, aop (fun _ _ => none) (eval E st.tm) st.ob st.tk st.ro (o.name st.fb ub) ub op = some δ ∧ wpDraw E r (st.app o.dst δ) (ub + 64) fun fs s => K (fpOf (eval E st.tm) o.op δ :: fs) s

def wpLoop (W : St → (Ex → St → Prop) → Prop) : Nat → St → (Ex → St → Prop) → Prop
  | 0, _, _ => False
  | n + 1, st, Q => W st fun e s => match e with
    | .nrm => wpLoop W n s Q
    | e => Q e s

def wpC (E : Env) (Yf : YF) : C → St → (Ex → St → Prop) → Prop
  | .skip, st, Q => Q .nrm st
  | .region ops, st, Q => wpOps' E Yf ops st st.nx fun s => Q .nrm s
  | .draw ops free, st, Q => wpDraw E ops st st.nx fun fs s => drawOk free fs = true ∧ Q .nrm s
  | .seq a b, st, Q => wpC E Yf a st fun e s => match e with
    | .nrm => wpC E Yf b s Q
    | e => Q e s
  | .cond c a b, st, Q => ∃ t, eval E st.tm c = .bool t ∧ (t = true → wpC E Yf a st Q) ∧ (t = false → wpC E Yf b st Q)
  | .block id a, st, Q => wpC E Yf a st fun e s => match e with
    | .exit i => if i = id then Q .nrm s else Q (.exit i) s
    | e => Q e s
  | .loop a, st, Q => ∃ N, wpLoop (wpC E Yf a) N st Q
  | .exit id, st, Q => Q (.exit id) st
  | .ret, st, Q => Q .ret st
  | .rangeFunc f ps as bd, st, Q => WY E Yf (.rangeFunc f ps as bd) st Q
  | .stuck, _, _ => False

theorem callers_d (E : Env) (n : Nat) (y : Y) : (callers E n y).d = (callers E n noY).d := by cases n <;> rfl
theorem callers_o (E : Env) (n : Nat) (y : Y) : (callers E n y).o = (callers E n noY).o := by cases n <;> rfl
theorem callers_y (E : Env) (n : Nat) (y : Y) : (callers E n y).y = y := by cases n <;> rfl
section
variable {E : Env} {Yf : YF}

theorem mem_append_all {α : Type} {p : α → Prop} {l m : List α} (h1 : ∀ x ∈ l, p x) (h2 : ∀ x ∈ m, p x) : ∀ x ∈ l ++ m, p x := fun x hx => (List.mem_append.1 hx).elim (h1 x) (h2 x)

theorem bindLs_of {α β : Type} {f : Nat → α → Option (List β)} (hmono : ∀ n m, n ≤ m → ∀ a, le (f n a) (f m a)) {Q : β → Prop} : ∀ (l : List α), l ≠ [] → (∀ a ∈ l, ∃ n r, f n a = some r ∧ r ≠ [] ∧ ∀ x ∈ r, Q x) →
    ∃ n r, (∀ m, n ≤ m → bindLs (f m) l = some r) ∧ r ≠ [] ∧ ∀ x ∈ r, Q x
  | [], h, _ => absurd rfl h
  | [x], _, h => by
    obtain ⟨n, r, h1, h2, h3⟩ := h x (List.mem_singleton.2 rfl)
    exact ⟨n, r, fun m hm => hmono n m hm x r h1, h2, h3⟩
  | x :: y :: l, _, h => by
    obtain ⟨n, r, h1, h2, h3⟩ := h x (List.mem_cons_self ..)
    obtain ⟨n', r', h1', h2', h3'⟩ := bindLs_of hmono (y :: l) (by simp) (fun a ha => h a (List.mem_cons_of_mem _ ha))
    refine ⟨max n n', r ++ r', fun m hm => ?_, by simp [h2], mem_append_all h3 h3'⟩
    simp only [bindLs]
    rw [hmono n m (by omega) x r h1, h1' m (by omega)]
    rfl

abbrev cs (E : Env) (n : Nat) : Y → Callers := callers E n
theorem cs_mono (n m : Nat) (h : n ≤ m) : FLe (cs E n) (cs E m) := callers_mono n m h

theorem step_of {o : AOpr} {st : St} {ub : Nat} {K : St → Nat → Prop} (h : wpStep E Yf o st ub K) : ∃ n l, step E (cs E n (Yf.y n)) o st ub = some l ∧ l ≠ [] ∧ ∀ x ∈ l, K x.1 x.2 := by
  have one : ∀ {s : St} {u : Nat}, K s u → ∀ x ∈ [(s, u)], K x.1 x.2 := fun h x hx => by rw [List.mem_singleton] at hx; subst hx; exact h
  unfold wpStep at h
  unfold step
  cases hw : wanted o st.tm with
  | none => simp only [hw] at h
  | some b =>
    cases b with
    | false =>
      simp only [hw] at h
      exact ⟨0, _, rfl, List.cons_ne_nil _ _, one h⟩
    | true =>
      simp only [hw] at h
      cases hy : yieldCall (eval E st.tm) o.op with
      | some x =>
       obtain ⟨l, u, xs⟩ := x
       simp only [hy] at h
       obtain ⟨r, ⟨n, hr⟩, hK⟩ := h
       exact ⟨n, [({ st with tm := put st.tm o.dst r.1, ob := r.2.1, tk := r.2.2.1 }, r.2.2.2)], by simp only [cs, callers_y, hr, Option.map_some], List.cons_ne_nil _ _, one hK⟩
      | none =>
      simp only [hy] at h ⊢
      cases hsh : sharedCall E o.nm (eval E st.tm) o.op with
      | some fx =>
        obtain ⟨f, xs⟩ := fx
        simp only [hsh] at h
        rcases h with ⟨h1, r, ⟨n, hr⟩, hK⟩ | ⟨h1, v, ⟨n, hv⟩, δ, hδ, hK⟩
        · refine ⟨n, [({ st with tm := put st.tm o.dst r.1, ob := r.2.1, tk := r.2.2.1 }, r.2.2.2)], ?_, List.cons_ne_nil _ _, one hK⟩
          simp only [h1, if_true, cs, hr, Option.map_some]
        · refine ⟨n, [(st.app o.dst δ, ub + 64)], ?_, List.cons_ne_nil _ _, one hK⟩
          simp only [h1, Bool.false_eq_true, if_false, cs, callers_o, hv, Option.bind_some, hδ, Option.map_some]
      | none =>
        simp only [hsh] at h
        have call : ∀ {f : FuncId} {xs : List V}, wpCall E f xs st o.dst ub K → ∃ n δ, callA (cs E n (Yf.y n)).d ub f xs = some δ ∧ K (st.app o.dst δ) (ub + 64) := by
          rintro f xs ⟨hp, v, ⟨n, hv⟩, δ, hδ, hK⟩
          exact ⟨n, δ, by simp only [callA, hp, if_true, cs, callers_d, hv, Option.bind_some, hδ], hK⟩
        split at h
        · rename_i f xs ho
          obtain ⟨n, δ, hc, hK⟩ := call h
          refine ⟨n, [(st.app o.dst δ, ub + 64)], ?_, List.cons_ne_nil _ _, one hK⟩
          simp only [ho, AOp.next?, aop, hc, Option.map_some]
        · rename_i q xs ho
          obtain ⟨f, first, captured, hev, h⟩ := h
          obtain ⟨n, δ, hc, hK⟩ := call h
          refine ⟨n, [(st.app o.dst δ, ub + 64)], ?_, List.cons_ne_nil _ _, one hK⟩
          simp only [ho, AOp.next?, aop, hev, hc, Option.map_some]
        · rename_i x ho
          obtain ⟨l, hl, hK⟩ := h
          refine ⟨0, l.map fun δ => (st.app o.dst δ, ub + 64), ?_, ?_, fun y hy => ?_⟩
          · simp only [ho, AOp.next?, hl, Option.map_some]
          · intro e
            have hl0 : l = [] := List.map_eq_nil_iff.1 e
            subst hl0
            unfold nextL at hl
            split at hl
            · split at hl
              · split at hl
                · split at hl
                  · cases hl
                  · rename_i es hne
                    simp only [Option.some.injEq] at hl
                    unfold picks at hl
                    split at hl
                    · exact hne rfl
                    · cases hl
                · cases hl
              · split at hl
                · cases hl
                · cases hl
              · cases hl
            · cases hl
          · obtain ⟨δ, hδ, rfl⟩ := List.mem_map.1 hy
            exact hK δ hδ
        · rename_i op h1 h2 h3
          obtain ⟨δ, hδ, hK⟩ := h
          refine ⟨0, [(st.app o.dst δ, ub + 64)], ?_, List.cons_ne_nil _ _, one hK⟩
          have hn : o.op.next? = none := by
            cases ho : o.op with
            | nextMap x => exact absurd ho (h3 x)
            | _ => rfl
          have hδ' : aop (cs E 0 (Yf.y 0)).d (eval E st.tm) st.ob st.tk st.ro (o.name st.fb ub) ub o.op = some δ := aop_mono (fun _ _ _ h => by cases h) _ _ _ _ _ _ _ _ hδ
          simp only [hn, hδ', Option.map_some]

theorem ops_of : ∀ {ops : List AOpr} {st : St} {ub : Nat} {K : St → Prop}, wpOps' E Yf ops st ub K → ∃ n l, opsR E (cs E n (Yf.y n)) ops st ub = some l ∧ l ≠ [] ∧ ∀ x ∈ l, K x
  | [], st, ub, K, h => ⟨0, _, rfl, List.cons_ne_nil _ _, fun x hx => by rw [List.mem_singleton] at hx; subst hx; exact h⟩
  | o :: r, st, ub, K, h => by
    obtain ⟨n, l, h1, h2, h3⟩ := step_of h
    obtain ⟨n', l', h1', h2', h3'⟩ := bindLs_of (f := fun n (x : St × Nat) => opsR E (cs E n (Yf.y n)) r x.1 x.2) (fun n m hm x => opsR_mono (cs_mono n m hm _ _ (Yf.mono hm)) r x.1 x.2) l h2 (fun x hx => ops_of (h3 x hx))
    refine ⟨max n n', l', ?_, h2', h3'⟩
    simp only [opsR, bindL]
    rw [step_mono (cs_mono n (max n n') (by omega) _ _ (Yf.mono (by omega))) o st ub l h1]
    exact h1' _ (by omega)

theorem draw_of : ∀ {ops : List AOpr} {st : St} {ub : Nat} {K : List FP → St → Prop}, wpDraw E ops st ub K → ∃ n p, drawR E (cs E n (Yf.y n)) ops st ub = some p ∧ K p.1 p.2
  | [], st, ub, K, h => ⟨0, _, rfl, h⟩
  | o :: r, st, ub, K, h => by
    unfold wpDraw at h
    unfold drawR
    cases hw : wanted o st.tm with
    | none => simp only [hw] at h
    | some b =>
      cases b with
      | false =>
        simp only [hw] at h
        obtain ⟨n, p, h1, h2⟩ := draw_of h
        exact ⟨n, ({} :: p.1, p.2), by simp only [h1, Option.map_some], h2⟩
      | true =>
        simp only [hw] at h
        simp only
        cases hsh : sharedCall E o.nm (eval E st.tm) o.op with
        | some fx =>
          obtain ⟨f, xs⟩ := fx
          simp only [hsh] at h
          obtain ⟨h0, v, ⟨n, hv⟩, δ, hδ, h⟩ := h
          obtain ⟨n', p, h1, h2⟩ := draw_of h
          refine ⟨max n n', ({ wt := δ.wt, all := true, seen := fun l => (st.ob l).isSome } :: p.1, p.2), ?_, h2⟩
          simp only [h0, Bool.false_eq_true, if_false]
          have hv' : (cs E n (Yf.y n)).o f xs st.ob st.tk ((st.fb + o.dst.getD 0 + 1) * 1024) (ub + 64 * (r.length + 1)) = some v := by rw [cs, callers_o]; exact hv
          rw [(cs_mono n (max n n') (by omega) _ _ (Yf.mono (by omega))).o _ _ _ _ _ _ _ hv']
          simp only [Option.bind_some, hδ]
          rw [drawR_mono (cs_mono n' (max n n') (by omega) _ _ (Yf.mono (by omega))) _ _ _ _ h1]
          rfl
        | none =>
          simp only [hsh] at h
          obtain ⟨hfar, h⟩ := h
          simp only [hfar, Bool.false_eq_true, if_false]
          have fin : ∀ {n : Nat} {δ : Delta}, aop (cs E n (Yf.y n)).d (eval E st.tm) st.ob st.tk st.ro (o.name st.fb ub) ub o.op = some δ → wpDraw E r (st.app o.dst δ) (ub + 64) (fun fs s => K (fpOf (eval E st.tm) o.op δ :: fs) s) →
              ∃ n p, ((aop (cs E n (Yf.y n)).d (eval E st.tm) st.ob st.tk st.ro (o.name st.fb ub) ub o.op).bind fun δ => (drawR E (cs E n (Yf.y n)) r (st.app o.dst δ) (ub + 64)).map fun x => (fpOf (eval E st.tm) o.op δ :: x.1, x.2)) = some p ∧ K p.1 p.2 := by
            intro n δ hδ h
            obtain ⟨n', p, h1, h2⟩ := draw_of h
            refine ⟨max n n', (fpOf (eval E st.tm) o.op δ :: p.1, p.2), ?_, h2⟩
            rw [aop_mono (cs_mono n (max n n') (by omega) _ _ (Yf.mono (by omega))).d _ _ _ _ _ _ _ _ hδ, Option.bind_some, drawR_mono (cs_mono n' (max n n') (by omega) _ _ (Yf.mono (by omega))) _ _ _ _ h1]
            rfl
          split at h
          · rename_i f xs ho
            obtain ⟨hp, v, ⟨n, hv⟩, δ, hδ, h⟩ := h
            refine fin (n := n) (δ := δ) ?_ h
            have hp' : (xs.map fun x => (eval E st.tm x).strip).all V.pureTop = true := by rw [List.all_map]; exact hp
            simp only [ho, aop, callA, hp', if_true, cs, callers_d, hv, Option.bind_some, hδ]
          · rename_i q xs ho
            obtain ⟨f, first, captured, hev, hp, v, ⟨n, hv⟩, δ, hδ, h⟩ := h
            refine fin (n := n) (δ := δ) ?_ h
            simp only [ho, aop, hev, callA, hp, if_true, cs, callers_d, hv, Option.bind_some, hδ]
          · obtain ⟨δ, hδ, h⟩ := h
            exact fin (n := 0) (aop_mono (fun _ _ _ h => by cases h) _ _ _ _ _ _ _ _ hδ) h

theorem wp_of : ∀ {c : C} {st : St} {Q : Ex → St → Prop}, wpC E Yf c st Q → WY E Yf c st Q := by
  intro c
  induction c with
  | skip => intro st Q h; exact ⟨0, _, rfl, by simp, fun x hx => by rw [List.mem_singleton] at hx; subst hx; exact h⟩
  | ret => intro st Q h; exact ⟨0, _, rfl, by simp, fun x hx => by rw [List.mem_singleton] at hx; subst hx; exact h⟩
  | exit id => intro st Q h; exact ⟨0, _, rfl, by simp, fun x hx => by rw [List.mem_singleton] at hx; subst hx; exact h⟩
  | stuck => intro st Q h; exact h.elim
  | rangeFunc f ps a b => intro st Q h; exact h
  | region ops =>
    intro st Q h
    obtain ⟨n, l, h1, h2, h3⟩ := ops_of h
    refine ⟨n, l.map fun s => (.nrm, s), by simp only [codeL]; rw [h1]; rfl, by simpa using h2, fun x hx => ?_⟩
    obtain ⟨s, hs, rfl⟩ := List.mem_map.1 hx
    exact h3 s hs
  | draw ops free =>
    intro st Q h
    obtain ⟨n, p, h1, h2, h3⟩ := draw_of h
    refine ⟨n, [(.nrm, p.2)], ?_, by simp, fun x hx => by rw [List.mem_singleton] at hx; subst hx; exact h3⟩
    simp only [codeL]
    rw [h1]
    simp only [Option.bind_some, h2, if_true]
  | seq a b iha ihb =>
    intro st Q h
    obtain ⟨n, l, h1, h2, h3⟩ := iha h
    obtain ⟨n', l', h1', h2', h3'⟩ := bindLs_of (f := fun n (x : Ex × St) => match x with
      | (.nrm, st') => codeL E (cs E n) (Yf.y n) n b st'
      | (e, st') => some [(e, st')]) (Q := fun x => Q x.1 x.2) (fun n m hm x => by
        obtain ⟨e, s⟩ := x
        cases e
        · exact codeL_mono (cs_mono n m hm) hm b _ _ (Yf.mono hm) s
        · exact le.rfl' _
        · exact le.rfl' _) l h2 (fun x hx => by
        obtain ⟨e, s⟩ := x
        have := h3 _ hx
        cases e with
        | nrm => exact ihb this
        | exit i => exact ⟨0, _, rfl, by simp, fun x hx => by rw [List.mem_singleton] at hx; subst hx; exact this⟩
        | ret => exact ⟨0, _, rfl, by simp, fun x hx => by rw [List.mem_singleton] at hx; subst hx; exact this⟩)
    refine ⟨max n n', l', ?_, h2', h3'⟩
    simp only [codeL, bindL]
    rw [codeL_mono (cs_mono n (max n n') (by omega)) (by omega) a _ _ (Yf.mono (by omega)) st l h1]
    exact h1' _ (by omega)
  | cond q a b iha ihb =>
    intro st Q h
    obtain ⟨t, ht, h1, h2⟩ := h
    cases t with
    | true =>
      obtain ⟨n, l, k1, k2, k3⟩ := iha (h1 rfl)
      exact ⟨n, l, by simp only [codeL, ht]; exact k1, k2, k3⟩
    | false =>
      obtain ⟨n, l, k1, k2, k3⟩ := ihb (h2 rfl)
      exact ⟨n, l, by simp only [codeL, ht]; exact k1, k2, k3⟩
  | block id a ih =>
    intro st Q h
    obtain ⟨n, l, h1, h2, h3⟩ := ih h
    refine ⟨n, _, by simp only [codeL]; rw [h1]; rfl, by simpa using h2, fun x hx => ?_⟩
    obtain ⟨p, hp, rfl⟩ := List.mem_map.1 hx
    have := h3 p hp
    obtain ⟨e, s⟩ := p
    cases e with
    | nrm => exact this
    | ret => exact this
    | exit i =>
      simp only at this ⊢
      split at this
      · rename_i hi; simp only [hi, if_true]; exact this
      · rename_i hi; simp only [hi, if_false]; exact this
  | loop a ih =>
    intro st Q h
    obtain ⟨N, h⟩ := h
    have key : ∀ (N : Nat) (st : St), wpLoop (wpC E Yf a) N st Q → ∃ n l, (∀ m k, n ≤ m → n ≤ k → loopL (codeL E (cs E m) (Yf.y m) m a) k st = some l) ∧ l ≠ [] ∧ ∀ x ∈ l, Q x.1 x.2 := by
      intro N
      induction N with
      | zero => intro st h; exact h.elim
      | succ N ihN =>
        intro st h
        obtain ⟨n, l, h1, h2, h3⟩ := ih h
        obtain ⟨n', l', h1', h2', h3'⟩ := bindLs_of (f := fun n (x : Ex × St) => match x with
          | (.nrm, st') => loopL (codeL E (cs E n) (Yf.y n) n a) n st'
          | (e, st') => some [(e, st')]) (Q := fun x => Q x.1 x.2) (fun n m hm x => by
            obtain ⟨e, s⟩ := x
            cases e
            · exact loopL_mono (fun s => codeL_mono (cs_mono n m hm) hm a _ _ (Yf.mono hm) s) n m hm s
            · exact le.rfl' _
            · exact le.rfl' _) l h2 (fun x hx => by
            obtain ⟨e, s⟩ := x
            have := h3 _ hx
            cases e with
            | nrm =>
              obtain ⟨k, r, q1, q2, q3⟩ := ihN s this
              exact ⟨k, r, q1 k k (Nat.le_refl _) (Nat.le_refl _), q2, q3⟩
            | exit i => exact ⟨0, _, rfl, by simp, fun x hx => by rw [List.mem_singleton] at hx; subst hx; exact this⟩
            | ret => exact ⟨0, _, rfl, by simp, fun x hx => by rw [List.mem_singleton] at hx; subst hx; exact this⟩)
        refine ⟨max n n' + 1, l', fun m k hm hk => ?_, h2', h3'⟩
        obtain ⟨k, rfl⟩ : ∃ k', k = k' + 1 := ⟨k - 1, by omega⟩
        simp only [loopL, bindL]
        rw [codeL_mono (cs_mono n m (by omega)) (by omega) a _ _ (Yf.mono (by omega)) st l h1]
        have e1 := h1' (max n n') (by omega)
        refine bindLs_mono (fun x => ?_) l l' e1
        obtain ⟨e, s⟩ := x
        cases e
        · exact loopL_mono (fun s => codeL_mono (cs_mono _ m (by omega)) (by omega) a _ _ (Yf.mono (by omega)) s) _ k (by omega) s
        · exact le.rfl' _
        · exact le.rfl' _
    obtain ⟨n, l, h1, h2, h3⟩ := key N st h
    exact ⟨n, l, h1 n n (Nat.le_refl _) (Nat.le_refl _), h2, h3⟩

theorem Ev_wp {f : FuncId} {af : AF} {args : List V} {r : V} (hf : E.fc f = some af) (h : wpC E noYF af.body (start args) fun e s => endV af.res (e, s) = some r) : Ev E f args r := Ev_of hf (wp_of h)

theorem wpOps_mono : ∀ {ops : List AOpr} {st : St} {ub : Nat} {K K' : St → Prop}, (∀ s, K s → K' s) → wpOps' E Yf ops st ub K → wpOps' E Yf ops st ub K'
  | [], _, _, _, _, h, hk => h _ hk
  | o :: r, st, ub, K, K', h, hk => by
    have key : ∀ {K K' : St → Nat → Prop}, (∀ s u, K s u → K' s u) → wpStep E Yf o st ub K → wpStep E Yf o st ub K' := by
      intro K K' h hk
      have call : ∀ {f : FuncId} {xs : List V}, wpCall E f xs st o.dst ub K → wpCall E f xs st o.dst ub K' := by
        rintro f xs ⟨hp, v, hv, δ, hδ, hK⟩
        exact ⟨hp, v, hv, δ, hδ, h _ _ hK⟩
      unfold wpStep at hk ⊢
      cases hw : wanted o st.tm with
      | none => simp only [hw] at hk
      | some b =>
        cases b with
        | false => simp only [hw] at hk ⊢; exact h _ _ hk
        | true =>
          simp only [hw] at hk ⊢
          cases hy : yieldCall (eval E st.tm) o.op with
          | some x =>
           obtain ⟨l, u, xs⟩ := x
           simp only [hy] at hk ⊢
           obtain ⟨r, hr, hK⟩ := hk
           exact ⟨r, hr, h _ _ hK⟩
          | none =>
          simp only [hy] at hk ⊢
          cases hsh : sharedCall E o.nm (eval E st.tm) o.op with
          | some fx =>
            simp only [hsh] at hk ⊢
            rcases hk with ⟨h1, r, hr, hK⟩ | ⟨h1, v, hv, δ, hδ, hK⟩
            · exact .inl ⟨h1, r, hr, h _ _ hK⟩
            · exact .inr ⟨h1, v, hv, δ, hδ, h _ _ hK⟩
          | none =>
            simp only [hsh] at hk ⊢
            cases ho : o.op <;> simp only [ho] at hk ⊢
            case call f xs => exact call hk
            case callV q xs =>
              obtain ⟨f, first, captured, hev, hk⟩ := hk
              exact ⟨f, first, captured, hev, call hk⟩
            case nextMap x =>
              obtain ⟨l, hl, hK⟩ := hk
              exact ⟨l, hl, fun δ hδ => h _ _ (hK δ hδ)⟩
            all_goals
              obtain ⟨δ, hδ, hK⟩ := hk
              exact ⟨δ, hδ, h _ _ hK⟩
    exact key (fun s u => wpOps_mono h) hk

theorem wpDraw_mono : ∀ {ops : List AOpr} {st : St} {ub : Nat} {K K' : List FP → St → Prop}, (∀ f s, K f s → K' f s) → wpDraw E ops st ub K → wpDraw E ops st ub K'
  | [], _, _, _, _, h, hk => h _ _ hk
  | o :: r, st, ub, K, K', h, hk => by
    unfold wpDraw at hk ⊢
    cases hw : wanted o st.tm with
    | none => simp only [hw] at hk
    | some b =>
      cases b with
      | false => simp only [hw] at hk ⊢; exact wpDraw_mono (fun _ _ => h _ _) hk
      | true =>
        simp only [hw] at hk ⊢
        cases hsh : sharedCall E o.nm (eval E st.tm) o.op with
        | some fx =>
          simp only [hsh] at hk ⊢
          obtain ⟨h1, v, hv, δ, hδ, hK⟩ := hk
          exact ⟨h1, v, hv, δ, hδ, wpDraw_mono (fun _ _ => h _ _) hK⟩
        | none =>
          simp only [hsh] at hk ⊢
          refine ⟨hk.1, ?_⟩
          have hk := hk.2
          cases ho : o.op <;> simp only [ho] at hk ⊢
          case call f xs =>
            obtain ⟨h1, v, hv, δ, hδ, hK⟩ := hk
            exact ⟨h1, v, hv, δ, hδ, wpDraw_mono (fun _ _ => h _ _) hK⟩
          case callV q xs =>
            obtain ⟨f, first, captured, hev, h1, v, hv, δ, hδ, hK⟩ := hk
            exact ⟨f, first, captured, hev, h1, v, hv, δ, hδ, wpDraw_mono (fun _ _ => h _ _) hK⟩
          all_goals
            obtain ⟨δ, hδ, hK⟩ := hk
            exact ⟨δ, hδ, wpDraw_mono (fun _ _ => h _ _) hK⟩

theorem wpLoop_mono {W : St → (Ex → St → Prop) → Prop} (hW : ∀ (st : St) (Q Q' : Ex → St → Prop), (∀ e s, Q e s → Q' e s) → W st Q → W st Q') : ∀ {n : Nat} {st : St} {Q Q' : Ex → St → Prop}, (∀ e s, Q e s → Q' e s) → wpLoop W n st Q → wpLoop W n st Q'
  | 0, _, _, _, _, h => h
  | n + 1, st, Q, Q', h, hk => hW st _ _ (fun e s he => by
    cases e
    · exact wpLoop_mono (W := W) hW h he
    · exact h _ _ he
    · exact h _ _ he) hk

theorem wpC_mono : ∀ {c : C} {st : St} {Q Q' : Ex → St → Prop}, (∀ e s, Q e s → Q' e s) → wpC E Yf c st Q → wpC E Yf c st Q' := by
  intro c
  induction c with
  | skip => intro st Q Q' h hk; exact h _ _ hk
  | ret => intro st Q Q' h hk; exact h _ _ hk
  | exit id => intro st Q Q' h hk; exact h _ _ hk
  | stuck => intro st Q Q' h hk; exact hk
  | rangeFunc f ps a b => intro st Q Q' h hk; obtain ⟨n, l, h1, h2, h3⟩ := hk; exact ⟨n, l, h1, h2, fun x hx => h _ _ (h3 x hx)⟩
  | region ops => intro st Q Q' h hk; exact wpOps_mono (fun s => h _ s) hk
  | draw ops free => intro st Q Q' h hk; exact wpDraw_mono (fun f s hs => ⟨hs.1, h _ _ hs.2⟩) hk
  | seq a b iha ihb =>
    intro st Q Q' h hk
    refine iha (fun e s he => ?_) hk
    cases e
    · exact ihb h he
    · exact h _ _ he
    · exact h _ _ he
  | cond q a b iha ihb =>
    intro st Q Q' h hk
    obtain ⟨t, ht, h1, h2⟩ := hk
    exact ⟨t, ht, fun e => iha h (h1 e), fun e => ihb h (h2 e)⟩
  | block id a ih =>
    intro st Q Q' h hk
    refine ih (fun e s he => ?_) hk
    cases e
    · exact h _ _ he
    · simp only at he ⊢
      split at he
      · rename_i hi; simp only [hi, if_true]; exact h _ _ he
      · rename_i hi; simp only [hi, if_false]; exact h _ _ he
    · exact h _ _ he
  | loop a ih =>
    intro st Q Q' h hk
    obtain ⟨N, hk⟩ := hk
    exact ⟨N, wpLoop_mono (W := wpC E Yf a) (fun _ _ _ h hk => ih h hk) h hk⟩

theorem wp_loop {a : C} {Q : Ex → St → Prop} (I : Nat → St → Prop) {n : Nat} {st : St} (h0 : I n st)
    (hs : ∀ k s, I k s → wpC E Yf a s fun e s' => match e with | .nrm => ∃ j, j < k ∧ I j s' | e => Q e s') : wpC E Yf (.loop a) st Q := by
  refine ⟨n + 1, ?_⟩
  have key : ∀ n st j, j ≤ n → I j st → wpLoop (wpC E Yf a) (n + 1) st Q := by
    intro n
    induction n with
    | zero =>
      intro st j hj hI
      refine wpC_mono (fun e s he => ?_) (hs j st hI)
      cases e
      · obtain ⟨i, hi, _⟩ := he; omega
      · exact he
      · exact he
    | succ n ih =>
      intro st j hj hI
      refine wpC_mono (fun e s he => ?_) (hs j st hI)
      cases e
      · obtain ⟨i, hi, hI'⟩ := he
        exact ih s i (by omega) hI'
      · exact he
      · exact he
  exact key n st n (Nat.le_refl _) h0
end
end Go.Pv

/- Reckoning a condition, operation by operation. -/
namespace Go.Pv
open Go

def wpGuard : V → Bool → Prop → Prop → Prop
  | .bool c, b, p, q => (c = b → p) ∧ (c = !b → q)
  | .tup [], _, _, q => q
  | _, _, _, _ => False
def wpIf : V → Prop → Prop → Prop
  | .bool c, p, q => (c = true → p) ∧ (c = false → q)
  | _, _, _ => False
def wpV (o : Option V) (k : V → Prop) : Prop := ∃ v, o = some v ∧ k v
def wpD (o : Option Delta) (k : Delta → Prop) : Prop := ∃ v, o = some v ∧ k v

theorem wpV_some (v : V) (k : V → Prop) : wpV (some v) k = k v := by simp [wpV]
theorem wpV_none (k : V → Prop) : wpV none k = False := by simp [wpV]
theorem wpV_ite (c : Prop) [Decidable c] (o : Option V) (k : V → Prop) : wpV (if c then o else none) k = (c ∧ wpV o k) := by by_cases h : c <;> simp [h, wpV]
theorem wpV_ite' (c : Prop) [Decidable c] (o : Option V) (k : V → Prop) : wpV (if c then none else o) k = (¬ c ∧ wpV o k) := by by_cases h : c <;> simp [h, wpV]
theorem wpD_some (v : Delta) (k : Delta → Prop) : wpD (some v) k = k v := by simp [wpD]
theorem wpD_none (k : Delta → Prop) : wpD none k = False := by simp [wpD]
theorem wpD_ite (c : Prop) [Decidable c] (o : Option Delta) (k : Delta → Prop) : wpD (if c then o else none) k = (c ∧ wpD o k) := by by_cases h : c <;> simp [h, wpD]
theorem wpD_ite' (c : Prop) [Decidable c] (o : Option Delta) (k : Delta → Prop) : wpD (if c then none else o) k = (¬ c ∧ wpD o k) := by by_cases h : c <;> simp [h, wpD]

def St.setT (st : St) (d : Option Nat) (v : V) : St := { st with tm := put st.tm d v }
theorem app_v (st : St) (d : Option Nat) (v : V) : st.app d { v := v } = st.setT d v := by simp [St.app, setObs, setToks, St.setT]

theorem setT_tm (st : St) (d n : Nat) (v : V) : (st.setT (some d) v).tm n = if n = d then v else st.tm n := by simp [St.setT, put, upd_apply]
theorem setT_tm0 (st : St) (n : Nat) (v : V) : (st.setT none v).tm n = st.tm n := rfl
theorem setT_ob (st : St) (d : Option Nat) (v : V) : (st.setT d v).ob = st.ob := rfl
theorem setT_tk (st : St) (d : Option Nat) (v : V) : (st.setT d v).tk = st.tk := rfl
theorem setT_ro (st : St) (d : Option Nat) (v : V) : (st.setT d v).ro = st.ro := rfl
theorem setT_nx (st : St) (d : Option Nat) (v : V) : (st.setT d v).nx = st.nx := rfl
theorem setT_fb (st : St) (d : Option Nat) (v : V) : (st.setT d v).fb = st.fb := rfl
theorem setT_df (st : St) (d : Option Nat) (v : V) : (st.setT d v).df = st.df := rfl

def St.setN (st : St) (n : Nat) : St := { st with nx := n }
theorem setN_tm (st : St) (n : Nat) : (st.setN n).tm = st.tm := rfl
theorem setN_ob (st : St) (n : Nat) : (st.setN n).ob = st.ob := rfl
theorem setN_tk (st : St) (n : Nat) : (st.setN n).tk = st.tk := rfl
theorem setN_ro (st : St) (n : Nat) : (st.setN n).ro = st.ro := rfl
theorem setN_nx (st : St) (n : Nat) : (st.setN n).nx = n := rfl
theorem setN_fb (st : St) (n : Nat) : (st.setN n).fb = st.fb := rfl
theorem setN_df (st : St) (n : Nat) : (st.setN n).df = st.df := rfl

theorem app_tm (st : St) (d n : Nat) (δ : Delta) : (st.app (some d) δ).tm n = if n = d then δ.v else st.tm n := by simp [St.app, put, upd_apply]
theorem app_tm0 (st : St) (n : Nat) (δ : Delta) : (st.app none δ).tm n = st.tm n := rfl
theorem app_ro (st : St) (d : Option Nat) (δ : Delta) : (st.app d δ).ro = st.ro := rfl
theorem app_nx (st : St) (d : Option Nat) (δ : Delta) : (st.app d δ).nx = st.nx := rfl
theorem app_fb (st : St) (d : Option Nat) (δ : Delta) : (st.app d δ).fb = st.fb := rfl
theorem app_df (st : St) (d : Option Nat) (δ : Delta) : (st.app d δ).df = st.df := rfl
theorem app_ob (st : St) (d : Option Nat) (v : V) (del : Option Nat) (add : List Nat) : (st.app d { v := v, del := del, add := add }).ob = st.ob := by simp [St.app, setObs]
theorem app_tk (st : St) (d : Option Nat) (δ : Delta) (u : Nat) : (st.app d δ).tk u = if u ∈ δ.add then true else if u ∈ δ.del.toList then false else st.tk u := by simp only [St.app, setToks_one]
theorem app_ob1 (st : St) (d : Option Nat) (v : V) (l k : Nat) (o : Obj') (add : List Nat) : (st.app d { v := v, obs := [(l, o)], add := add }).ob k = if k = l then some o else st.ob k := by simp [St.app, setObs, upd_apply]

theorem start_tm (args : List V) (n : Nat) : (start args).tm n = args.getD n none' := rfl
theorem start_ob (args : List V) (n : Nat) : (start args).ob n = none := rfl
theorem start_tk (args : List V) (n : Nat) : (start args).tk n = false := rfl
theorem start_ro (args : List V) : (start args).ro = 0 := rfl
theorem start_nx (args : List V) : (start args).nx = 0 := rfl
theorem start_fb (args : List V) : (start args).fb = 0 := rfl
theorem start_df (args : List V) : (start args).df = [] := rfl

theorem eval_t (E : Env) (tm : Nat → V) (n : Nat) : eval E tm (.t n) = tm n := rfl
theorem eval_c (E : Env) (tm : Nat → V) (v : V) : eval E tm (.c v) = v := rfl

def pickV : V → V → V → Option V
  | .bool t, a, b => some (cond t a b)
  | _, _, _ => none
theorem pickV_bool (t : Bool) (a b : V) : pickV (.bool t) a b = some (cond t a b) := rfl
def loadV (ob : Nat → Option Obj') (g : Option Nat) : V → Option V
  | .eptr cs off => pick1 g cs off
  | .ptr l u off => (objCells ob l u).bind fun cs => pick1 g cs off
  | _ => none
theorem loadV_e (ob : Nat → Option Obj') (g : Option Nat) (cs : List V) (off : Nat) : loadV ob g (.eptr cs off) = pick1 g cs off := rfl
theorem loadV_p (ob : Nat → Option Obj') (g : Option Nat) (l u off : Nat) : loadV ob g (.ptr l u off) = (objCells ob l u).bind fun cs => pick1 g cs off := rfl
def nilCheckV : V → Option V
  | .ptr l u o => some (.ptr l u o)
  | .eptr cs o => some (.eptr cs o)
  | .fn (.func f) a b => some (.fn (.func f) a b)
  | _ => none
def fieldAddrV (off : Nat) : V → Option V
  | .ptr l u o => some (.ptr l u (o + off))
  | .eptr cs o => some (.eptr cs (o + off))
  | _ => none
def idxSlV (sz : Nat) : V → V → Option V
  | .sl _ _ n cs, .int _ i => if 0 ≤ i ∧ i < n ∧ cs.length = n * sz then some (.eptr cs (i.toNat * sz)) else none
  | .osl l u off n sz', .int _ i => if 0 ≤ i ∧ i < n ∧ sz' = sz then some (.ptr l u (off + i.toNat * sz)) else none
  | _, _ => none
def idxArrV (len sz : Nat) : V → V → Option V
  | .ptr l u off, .int _ i => if 0 ≤ i ∧ i < len then some (.ptr l u (off + i.toNat * sz)) else none
  | .eptr cs off, .int _ i => if 0 ≤ i ∧ i < len then some (.eptr cs (off + i.toNat * sz)) else none
  | _, _ => none
def partV (g : Option Nat) (off : Nat) : V → Option V
  | .agg cs => pick1 g cs off
  | _ => none
def idxStrV : V → V → Option V
  | .str s, .int _ i => if 0 ≤ i then (s[i.toNat]?).map fun b => .int .u8 b.toNat else none
  | _, _ => none
def idxValV (g : Option Nat) (len sz : Nat) : V → V → Option V
  | .agg cs, .int _ i => if 0 ≤ i ∧ i < len then pick1 g cs (i.toNat * sz) else none
  | _, _ => none
def slStrV (lo hi : Option V) : V → Option V
  | .str s => (bounds s.length s.length lo hi).map fun (l, h) => .str ((s.take h).drop l)
  | _ => none
def slSlV (sz : Nat) (lo hi : Option V) : V → Option V
  | .sl _ nl n cs => if cs.length = n * sz then (bounds n n lo hi).map fun (l, h) => .sl none nl (h - l) ((cs.take (h * sz)).drop (l * sz)) else none
  | .osl a u off n sz' => if sz' = sz then (bounds n n lo hi).map fun (l, h) => .osl a u (off + l * sz) (h - l) sz else none
  | _ => none
def lenStrV : V → Option V
  | .str s => some (.int .i64 s.length)
  | _ => none
def lenSlV : V → Option V
  | .sl _ _ n _ => some (.int .i64 n)
  | .osl _ _ _ n _ => some (.int .i64 n)
  | _ => none
def lenMapV (ob : Nat → Option Obj') : V → Option V
  | .nilmap => some (.int .i64 0)
  | .map l u => (objMap ob l u).map fun es => .int .i64 es.length
  | _ => none
def extractV (i : Nat) : V → Option V
  | .tup vs => vs[i]?
  | _ => none
def convV (k : IntKind) : V → Option V
  | .int _ n => some (.int k (k.wrap n))
  | _ => none
def minmaxV (isMax : Bool) : List V → Option V
  | [] => none
  | x :: r => minmaxL isMax x r
def eqVV (ob : Nat → Option Obj') (neg : Bool) (k : EqK) (x y : V) : Option V :=
  match k, x, y with
  | .ptr, .ptr l u off, .ptr l' u' off' => if (objCells ob l u).isSome && (objCells ob l' u').isSome then some (.bool (xor neg (Nat.beq l l' && Nat.beq off off'))) else none
  | k, a, b => (eqV k a b).map fun b => .bool (xor neg b)
def lookupV (ob : Nat → Option Obj') (q : LK) (zero : V) (ok : Bool) (m k : V) : Option V :=
  if isKey q k then match m with
    | .nilmap => some (if ok then .tup [zero, .bool false] else zero)
    | .map l u => (objMap ob l u).bind fun es => (findKey q k es).map fun r => match r with
      | some (_, v) => if ok then .tup [v, .bool true] else v
      | none => if ok then .tup [zero, .bool false] else zero
    | _ => none else none

section
variable {E : Env} {Yf : YF} {st : St} {ub : Nat} {K : St → Nat → Prop} {d : Option Nat} {nm : Bool}

theorem wpC_cond {c : A} {a b : C} {Q : Ex → St → Prop} : wpC E Yf (.cond c a b) st Q = wpIf (eval E st.tm c) (wpC E Yf a st Q) (wpC E Yf b st Q) := by
  simp only [wpC]
  cases h : eval E st.tm c <;> simp [wpIf]

theorem wpStep_guard {op : AOp} {t : Nat} {b : Bool} : wpStep E Yf ⟨d, op, some (t, b), nm⟩ st ub K = wpGuard (st.tm t) b (wpStep E Yf ⟨d, op, none, nm⟩ st ub K) (K (st.setT d none') ub) := by
  have hn : AOpr.name ⟨d, op, some (t, b), nm⟩ = AOpr.name ⟨d, op, none, nm⟩ := rfl
  unfold wpStep
  simp only [wanted, hn]
  cases h : st.tm t with
  | bool c =>
    simp only [wpGuard]
    cases c <;> cases b <;> simp [St.setT]
  | tup l => cases l <;> simp [wpGuard, St.setT]
  | _ => simp [wpGuard]

theorem wpStep_of (op : AOp) (h : op.isCall = false) (h2 : op.isNext = false) : wpStep E Yf ⟨d, op, none, nm⟩ st ub K = wpD (aop (fun _ _ => none) (eval E st.tm) st.ob st.tk st.ro (AOpr.name ⟨d, op, none, nm⟩ st.fb ub) ub op) fun δ => K (st.app d δ) (ub + 64) := by
  cases op <;> first | cases h; done | cases h2; done | simp only [wpStep, wanted, yieldCall, sharedCall, wpD]

theorem wpD_one (v : V) (k : Delta → Prop) : wpD (one v) k = k { v := v } := by simp [one, wpD]
theorem wpD_bind (o : Option V) (k : Delta → Prop) : wpD (o.bind one) k = wpV o fun v => k { v := v } := by cases o <;> simp [wpD, wpV, one]

theorem wpS_mov {x : A} : wpStep E Yf ⟨d, .mov x, none, nm⟩ st ub K = K (st.setT d (eval E st.tm x)) (ub + 64) := by rw [wpStep_of _ rfl rfl]; simp only [aop, wpD_one, app_v]
theorem wpS_pick {c a b : A} : wpStep E Yf ⟨d, .pick c a b, none, nm⟩ st ub K = wpV (pickV (eval E st.tm c) (eval E st.tm a) (eval E st.tm b)) fun v => K (st.setT d v) (ub + 64) := by
  rw [wpStep_of _ rfl rfl]; simp only [aop]; cases eval E st.tm c <;> simp only [pickV, wpD_one, wpV_some, wpV_none, wpD_none, app_v]
theorem wpS_bin {op : BinOp} {x y : A} : wpStep E Yf ⟨d, .bin op x y, none, nm⟩ st ub K = wpV (binV op (eval E st.tm x) (eval E st.tm y)) fun v => K (st.setT d v) (ub + 64) := by
  rw [wpStep_of _ rfl rfl]; simp only [aop, wpD_bind, app_v]
theorem wpS_un {op : UnOp} {x : A} : wpStep E Yf ⟨d, .un op x, none, nm⟩ st ub K = wpV (unV op (eval E st.tm x)) fun v => K (st.setT d v) (ub + 64) := by
  rw [wpStep_of _ rfl rfl]; simp only [aop, wpD_bind, app_v]
theorem bind_map_one {α : Type} (o : Option α) (f : α → V) : (o.bind fun x => one (f x)) = (o.map f).bind one := by cases o <;> rfl
theorem ite_bind_one (c : Prop) [Decidable c] (v : Option V) : (if c then v.bind one else none) = (if c then v else none).bind one := by split <;> rfl
theorem ite_one (c : Prop) [Decidable c] (v : V) : (if c then one v else none) = (if c then some v else none).bind one := by split <;> rfl
theorem ite_bind_map {α : Type} (c : Prop) [Decidable c] (o : Option α) (f : α → V) : (if c then o.bind fun x => one (f x) else none) = (if c then o.map f else none).bind one := by split; exact bind_map_one _ _; rfl
theorem wpS_val {op : AOp} {o : Option V} (h : op.isCall = false) (h2 : op.isNext = false) (ha : ∀ du, aop (fun _ _ => none) (eval E st.tm) st.ob st.tk st.ro du ub op = o.bind one) : wpStep E Yf ⟨d, op, none, nm⟩ st ub K = wpV o fun v => K (st.setT d v) (ub + 64) := by
  rw [wpStep_of _ h h2, ha, wpD_bind]
  simp only [app_v]

theorem wpS_eq {neg : Bool} {k : EqK} {x y : A} : wpStep E Yf ⟨d, .eq neg k x y, none, nm⟩ st ub K = wpV (eqVV st.ob neg k (eval E st.tm x) (eval E st.tm y)) fun v => K (st.setT d v) (ub + 64) := by
  refine wpS_val rfl rfl fun du => ?_
  simp only [aop, eqVV]
  generalize eval E st.tm x = vx
  generalize eval E st.tm y = vy
  cases k <;> first | rfl | exact bind_map_one _ _ | (cases vx <;> first | rfl | exact bind_map_one _ _ | (cases vy <;> (first | rfl | exact ite_one _ _ | exact ite_bind_one _ _ | exact bind_map_one _ _ | exact (Option.bind_assoc ..).symm)))
theorem wpS_load {g : Option Nat} {x : A} : wpStep E Yf ⟨d, .load g x, none, nm⟩ st ub K = wpV (loadV st.ob g (eval E st.tm x)) fun v => K (st.setT d v) (ub + 64) := by
  refine wpS_val rfl rfl fun du => ?_
  simp only [aop, loadV]
  generalize eval E st.tm x = vx
  cases vx <;> (first | rfl | exact ite_one _ _ | exact ite_bind_one _ _ | exact bind_map_one _ _ | exact (Option.bind_assoc ..).symm)
theorem wpS_nilCheck {x : A} : wpStep E Yf ⟨d, .nilCheck x, none, nm⟩ st ub K = wpV (nilCheckV (eval E st.tm x)) fun v => K (st.setT d v) (ub + 64) := by
  refine wpS_val rfl rfl fun du => ?_
  simp only [aop, nilCheckV]
  generalize eval E st.tm x = vx
  cases vx <;> (first | rfl | exact ite_one _ _ | exact ite_bind_one _ _ | exact bind_map_one _ _ | exact (Option.bind_assoc ..).symm | (rename_i f _ _; cases f <;> rfl) | exact ite_bind_map _ _ _)
theorem wpS_fieldAddr {off : Nat} {x : A} : wpStep E Yf ⟨d, .fieldAddr off x, none, nm⟩ st ub K = wpV (fieldAddrV off (eval E st.tm x)) fun v => K (st.setT d v) (ub + 64) := by
  refine wpS_val rfl rfl fun du => ?_
  simp only [aop, fieldAddrV]
  generalize eval E st.tm x = vx
  cases vx <;> (first | rfl | exact ite_one _ _ | exact ite_bind_one _ _ | exact bind_map_one _ _ | exact (Option.bind_assoc ..).symm)
theorem wpS_idxSl {sz : Nat} {x i : A} : wpStep E Yf ⟨d, .idxSl sz x i, none, nm⟩ st ub K = wpV (idxSlV sz (eval E st.tm x) (eval E st.tm i)) fun v => K (st.setT d v) (ub + 64) := by
  refine wpS_val rfl rfl fun du => ?_
  simp only [aop, idxSlV]
  generalize eval E st.tm x = vx
  generalize eval E st.tm i = vi
  cases vx <;> first | rfl | (cases vi <;> (first | rfl | exact ite_one _ _ | exact ite_bind_one _ _ | exact bind_map_one _ _ | exact (Option.bind_assoc ..).symm))
theorem wpS_idxArr {len sz : Nat} {x i : A} : wpStep E Yf ⟨d, .idxArr len sz x i, none, nm⟩ st ub K = wpV (idxArrV len sz (eval E st.tm x) (eval E st.tm i)) fun v => K (st.setT d v) (ub + 64) := by
  refine wpS_val rfl rfl fun du => ?_
  simp only [aop, idxArrV]
  generalize eval E st.tm x = vx
  generalize eval E st.tm i = vi
  cases vx <;> first | rfl | (cases vi <;> (first | rfl | exact ite_one _ _ | exact ite_bind_one _ _ | exact bind_map_one _ _ | exact (Option.bind_assoc ..).symm))
theorem wpS_part {g : Option Nat} {off : Nat} {x : A} : wpStep E Yf ⟨d, .part g off x, none, nm⟩ st ub K = wpV (partV g off (eval E st.tm x)) fun v => K (st.setT d v) (ub + 64) := by
  refine wpS_val rfl rfl fun du => ?_
  simp only [aop, partV]
  generalize eval E st.tm x = vx
  cases vx <;> (first | rfl | exact ite_one _ _ | exact ite_bind_one _ _ | exact bind_map_one _ _ | exact (Option.bind_assoc ..).symm)
theorem wpS_idxStr {x i : A} : wpStep E Yf ⟨d, .idxStr x i, none, nm⟩ st ub K = wpV (idxStrV (eval E st.tm x) (eval E st.tm i)) fun v => K (st.setT d v) (ub + 64) := by
  refine wpS_val rfl rfl fun du => ?_
  simp only [aop, idxStrV]
  generalize eval E st.tm x = vx
  generalize eval E st.tm i = vi
  cases vx <;> first | rfl | (cases vi <;> (first | rfl | exact ite_one _ _ | exact ite_bind_one _ _ | exact bind_map_one _ _ | exact (Option.bind_assoc ..).symm | (rename_i f _ _; cases f <;> rfl) | exact ite_bind_map _ _ _))
theorem wpS_idxVal {g : Option Nat} {len sz : Nat} {x i : A} : wpStep E Yf ⟨d, .idxVal g len sz x i, none, nm⟩ st ub K = wpV (idxValV g len sz (eval E st.tm x) (eval E st.tm i)) fun v => K (st.setT d v) (ub + 64) := by
  refine wpS_val rfl rfl fun du => ?_
  simp only [aop, idxValV]
  generalize eval E st.tm x = vx
  generalize eval E st.tm i = vi
  cases vx <;> first | rfl | (cases vi <;> (first | rfl | exact ite_one _ _ | exact ite_bind_one _ _ | exact bind_map_one _ _ | exact (Option.bind_assoc ..).symm))
theorem wpS_slStr {x : A} {lo hi : Option A} : wpStep E Yf ⟨d, .slStr x lo hi, none, nm⟩ st ub K = wpV (slStrV (lo.map (eval E st.tm)) (hi.map (eval E st.tm)) (eval E st.tm x)) fun v => K (st.setT d v) (ub + 64) := by
  refine wpS_val rfl rfl fun du => ?_
  simp only [aop, slStrV]
  generalize eval E st.tm x = vx
  cases vx <;> (first | rfl | exact ite_one _ _ | exact ite_bind_one _ _ | exact bind_map_one _ _ | exact (Option.bind_assoc ..).symm)
theorem wpS_slSl {sz : Nat} {x : A} {lo hi : Option A} : wpStep E Yf ⟨d, .slSl sz x lo hi, none, nm⟩ st ub K = wpV (slSlV sz (lo.map (eval E st.tm)) (hi.map (eval E st.tm)) (eval E st.tm x)) fun v => K (st.setT d v) (ub + 64) := by
  refine wpS_val rfl rfl fun du => ?_
  simp only [aop, slSlV]
  generalize eval E st.tm x = vx
  cases vx <;> (first | rfl | exact ite_one _ _ | exact ite_bind_one _ _ | exact bind_map_one _ _ | exact (Option.bind_assoc ..).symm | (rename_i f _ _; cases f <;> rfl) | exact ite_bind_map _ _ _)
theorem wpS_lenStr {x : A} : wpStep E Yf ⟨d, .lenStr x, none, nm⟩ st ub K = wpV (lenStrV (eval E st.tm x)) fun v => K (st.setT d v) (ub + 64) := by
  refine wpS_val rfl rfl fun du => ?_
  simp only [aop, lenStrV]
  generalize eval E st.tm x = vx
  cases vx <;> (first | rfl | exact ite_one _ _ | exact ite_bind_one _ _ | exact bind_map_one _ _ | exact (Option.bind_assoc ..).symm)
theorem wpS_lenSl {x : A} : wpStep E Yf ⟨d, .lenSl x, none, nm⟩ st ub K = wpV (lenSlV (eval E st.tm x)) fun v => K (st.setT d v) (ub + 64) := by
  refine wpS_val rfl rfl fun du => ?_
  simp only [aop, lenSlV]
  generalize eval E st.tm x = vx
  cases vx <;> (first | rfl | exact ite_one _ _ | exact ite_bind_one _ _ | exact bind_map_one _ _ | exact (Option.bind_assoc ..).symm)
theorem wpS_lenMap {x : A} : wpStep E Yf ⟨d, .lenMap x, none, nm⟩ st ub K = wpV (lenMapV st.ob (eval E st.tm x)) fun v => K (st.setT d v) (ub + 64) := by
  refine wpS_val rfl rfl fun du => ?_
  simp only [aop, lenMapV]
  generalize eval E st.tm x = vx
  cases vx <;> (first | rfl | exact ite_one _ _ | exact ite_bind_one _ _ | exact bind_map_one _ _ | exact (Option.bind_assoc ..).symm)
theorem wpS_extract {x : A} {i : Nat} : wpStep E Yf ⟨d, .extract x i, none, nm⟩ st ub K = wpV (extractV i (eval E st.tm x)) fun v => K (st.setT d v) (ub + 64) := by
  refine wpS_val rfl rfl fun du => ?_
  simp only [aop, extractV]
  generalize eval E st.tm x = vx
  cases vx <;> (first | rfl | exact ite_one _ _ | exact ite_bind_one _ _ | exact bind_map_one _ _ | exact (Option.bind_assoc ..).symm)
theorem wpS_conv {k : IntKind} {x : A} : wpStep E Yf ⟨d, .conv k x, none, nm⟩ st ub K = wpV (convV k (eval E st.tm x)) fun v => K (st.setT d v) (ub + 64) := by
  refine wpS_val rfl rfl fun du => ?_
  simp only [aop, convV]
  generalize eval E st.tm x = vx
  cases vx <;> (first | rfl | exact ite_one _ _ | exact ite_bind_one _ _ | exact bind_map_one _ _ | exact (Option.bind_assoc ..).symm)
theorem wpS_minmax {b : Bool} {xs : List A} : wpStep E Yf ⟨d, .minmax b xs, none, nm⟩ st ub K = wpV (minmaxV b (xs.map (eval E st.tm))) fun v => K (st.setT d v) (ub + 64) := by
  refine wpS_val rfl rfl fun du => ?_
  simp only [aop, minmaxV]
  generalize xs.map (eval E st.tm) = vxs
  cases vxs <;> (first | rfl | exact ite_one _ _ | exact ite_bind_one _ _ | exact bind_map_one _ _ | exact (Option.bind_assoc ..).symm)
theorem wpS_mkFn {f : Fn} {a b : List A} : wpStep E Yf ⟨d, .mkFn f a b, none, nm⟩ st ub K = K (st.setT d (.fn f (a.map (eval E st.tm)) (b.map (eval E st.tm)))) (ub + 64) := by rw [wpStep_of _ rfl rfl]; simp only [aop, wpD_one, app_v]
theorem wpS_build {z : List V} {ps : List (Nat × Nat × A)} : wpStep E Yf ⟨d, .build z ps, none, nm⟩ st ub K = wpV ((fill z (evalParts (eval E st.tm) ps)).map .agg) fun v => K (st.setT d v) (ub + 64) := by
  rw [wpStep_of _ rfl rfl]; simp only [aop, bind_map_one, wpD_bind, app_v]
theorem wpS_lookup {q : LK} {z : V} {ok : Bool} {m k : A} : wpStep E Yf ⟨d, .lookup q z ok m k, none, nm⟩ st ub K = wpV (lookupV st.ob q z ok (eval E st.tm m) (eval E st.tm k)) fun v => K (st.setT d v) (ub + 64) := by
  refine wpS_val rfl rfl fun du => ?_
  simp only [aop, lookupV]
  generalize eval E st.tm m = vm
  generalize eval E st.tm k = vk
  cases isKey q vk with
  | false => rfl
  | true =>
    simp only [if_true]
    cases vm <;> first | rfl | skip
    rename_i l u
    simp only
    cases objMap st.ob l u with
    | none => rfl
    | some es =>
      simp only [Option.bind_some]
      cases findKey q vk es with
      | none => rfl
      | some r => cases r <;> rfl

def pureArgs (E : Env) (nm : Bool) (f : FuncId) (vs : List V) : Prop := E.sh nm f = false ∧ (vs.all fun v => v.strip.pureTop) = true

theorem all_map_strip (vs : List V) : (vs.map V.strip).all V.pureTop = vs.all fun v => v.strip.pureTop := by rw [List.all_map]; rfl

theorem wpS_call {f : FuncId} {xs : List A} (h : pureArgs E nm f (xs.map (eval E st.tm)) ∧ ∃ v, Ev E f ((xs.map (eval E st.tm)).map V.strip) v ∧ wpD (retA ub v) fun δ => K (st.app d δ) (ub + 64)) : wpStep E Yf ⟨d, .call f xs, none, nm⟩ st ub K := by
  obtain ⟨⟨h1, h2⟩, v, hv, δ, hδ, hK⟩ := h
  have hp : (xs.all fun x => (eval E st.tm x).strip.pureTop) = true := by rw [List.all_map] at h2; exact h2
  have hs : sharedCall E nm (eval E st.tm) (.call f xs) = none := by simp only [sharedCall, h1, hp, Bool.not_false, Bool.and_self, if_true]
  simp only [wpStep, wanted, yieldCall, hs, wpCall]
  refine ⟨by rw [List.all_map]; exact hp, v, ?_, δ, hδ, hK⟩
  rw [List.map_map] at hv
  exact hv
theorem wpS_callV {q : A} {xs : List A} {f : FuncId} {first captured : List V} (hq : eval E st.tm q = .fn (.func f) first captured)
    (h : pureArgs E nm f (first ++ xs.map (eval E st.tm) ++ captured) ∧ ∃ v, Ev E f ((first ++ xs.map (eval E st.tm) ++ captured).map V.strip) v ∧ wpD (retA ub v) fun δ => K (st.app d δ) (ub + 64)) : wpStep E Yf ⟨d, .callV q xs, none, nm⟩ st ub K := by
  obtain ⟨⟨h1, h2⟩, v, hv, δ, hδ, hK⟩ := h
  have hs : sharedCall E nm (eval E st.tm) (.callV q xs) = none := by simp only [sharedCall, hq, h1, h2, Bool.not_false, Bool.and_self, if_true]
  simp only [wpStep, wanted, yieldCall, hq, hs, wpCall]
  exact ⟨f, first, captured, rfl, by rw [all_map_strip]; exact h2, v, hv, δ, hδ, hK⟩
end
end Go.Pv

/- Values, the end of a walk. -/
namespace Go.Pv
open Go

attribute [simp] setT_tm setT_tm0 setT_ob setT_tk setT_ro setT_nx setT_fb setT_df
  setN_tm setN_ob setN_tk setN_ro setN_nx setN_fb setN_df start_tm start_ob start_tk start_ro start_nx start_fb start_df eval_t eval_c pickV_bool loadV_e loadV_p wpV_some wpV_none wpD_some wpD_none app_v

@[simp] theorem binV_add (k : IntKind) (a b : Int) : binV .add (.int k a) (.int k b) = some (.int k (k.wrap (a + b))) := by simp [binV, intBin]
@[simp] theorem binV_sub (k : IntKind) (a b : Int) : binV .sub (.int k a) (.int k b) = some (.int k (k.wrap (a - b))) := by simp [binV, intBin]
@[simp] theorem binV_mul (k : IntKind) (a b : Int) : binV .mul (.int k a) (.int k b) = some (.int k (k.wrap (a * b))) := by simp [binV, intBin]
@[simp] theorem binV_quo (k : IntKind) (a b : Int) : binV .quo (.int k a) (.int k b) = if b = 0 then none else some (.int k (k.wrap (a.tdiv b))) := by simp [binV, intBin]
@[simp] theorem binV_rem (k : IntKind) (a b : Int) : binV .rem (.int k a) (.int k b) = if b = 0 then none else some (.int k (a.tmod b)) := by simp [binV, intBin]
@[simp] theorem binV_lss (k : IntKind) (a b : Int) : binV .lss (.int k a) (.int k b) = some (.bool (decide (a < b))) := by simp [binV, intBin]
@[simp] theorem binV_leq (k : IntKind) (a b : Int) : binV .leq (.int k a) (.int k b) = some (.bool (decide (a ≤ b))) := by simp [binV, intBin]
@[simp] theorem binV_gtr (k : IntKind) (a b : Int) : binV .gtr (.int k a) (.int k b) = some (.bool (decide (b < a))) := by simp [binV, intBin]
@[simp] theorem binV_geq (k : IntKind) (a b : Int) : binV .geq (.int k a) (.int k b) = some (.bool (decide (b ≤ a))) := by simp [binV, intBin]
@[simp] theorem binV_eql (k : IntKind) (a b : Int) : binV .eql (.int k a) (.int k b) = some (.bool (a == b)) := by simp [binV, intBin]
@[simp] theorem binV_neq (k : IntKind) (a b : Int) : binV .neq (.int k a) (.int k b) = some (.bool (a != b)) := by simp [binV, intBin]
@[simp] theorem binV_seql (a b : List UInt8) : binV .eql (.str a) (.str b) = some (.bool (a == b)) := by simp [binV, strBin]
@[simp] theorem binV_sneq (a b : List UInt8) : binV .neq (.str a) (.str b) = some (.bool (!(a == b))) := by simp [binV, strBin]
@[simp] theorem unV_not (b : Bool) : unV .not (.bool b) = some (.bool (!b)) := rfl
@[simp] theorem lenSlV_sl (t : Option (Nat × Nat)) (b : Bool) (n : Nat) (cs : List V) : lenSlV (.sl t b n cs) = some (.int .i64 n) := rfl
@[simp] theorem lenSlV_osl (a b c n d : Nat) : lenSlV (.osl a b c n d) = some (.int .i64 n) := rfl
@[simp] theorem lenStrV_str (s : List UInt8) : lenStrV (.str s) = some (.int .i64 s.length) := rfl
@[simp] theorem idxSlV_sl (sz : Nat) (t : Option (Nat × Nat)) (b : Bool) (n : Nat) (cs : List V) (k : IntKind) (i : Int) : idxSlV sz (.sl t b n cs) (.int k i) = if 0 ≤ i ∧ i < n ∧ cs.length = n * sz then some (.eptr cs (i.toNat * sz)) else none := rfl
@[simp] theorem pick1_none (cs : List V) (off : Nat) : pick1 none cs off = cs[off]? := rfl
@[simp] theorem extractV_tup (i : Nat) (vs : List V) : extractV i (.tup vs) = vs[i]? := rfl

def V.flat : V → Bool
  | .bool _ | .int .. | .str _ | .nilptr | .nilmap | .nilfn | .nilif => true
  | .sl t _ _ _ => t.isNone
  | _ => false
theorem outTop_flat {st : St} {keep : Bool} {i : Nat} {v : V} (h : v.flat = true) : outTop st keep i v = some v := by
  cases v with
  | sl t nl n cs => cases t with
    | none => rfl
    | some t => cases h
  | _ => first | rfl | cases h
theorem flat_toks {v : V} (h : v.flat = true) : v.toks = [] := by
  cases v with
  | sl t nl n cs => cases t with
    | none => rfl
    | some t => cases h
  | _ => first | rfl | cases h
theorem noDf_of {st : St} (h : st.df = []) : st.noDf = st := by unfold St.noDf; simp only [h]
theorem dfOk_of {st : St} (h : st.df = []) : dfOk st = true := by unfold dfOk; simp only [h]; rfl
theorem endV_1 {n : Nat} {st : St} {v : V} (hd : st.df = []) (h : st.tm n = v) (hf : v.flat = true) : endV [.t n] (.ret, st) = some v := by
  simp only [endV, dfOk_of hd, noDf_of hd, if_true, List.mapM_cons, List.mapM_nil, resOf, h]
  simp [outRes, outTops, outTop_flat hf, flat_toks hf, nodup]
theorem endV_2 {n m : Nat} {st : St} {v u : V} (hd : st.df = []) (h : st.tm n = v) (h' : st.tm m = u) (hf : v.flat = true) (hf' : u.flat = true) : endV [.t n, .t m] (.ret, st) = some (.tup [v, u]) := by
  simp only [endV, dfOk_of hd, noDf_of hd, if_true, List.mapM_cons, List.mapM_nil, resOf, h, h']
  simp [outRes, outTops, outTop_flat hf, outTop_flat hf', flat_toks hf, flat_toks hf', nodup]

@[simp] theorem retA_bool (ub : Nat) (b : Bool) : retA ub (.bool b) = some { v := .bool b } := rfl
@[simp] theorem retA_int (ub : Nat) (k : IntKind) (b : Int) : retA ub (.int k b) = some { v := .int k b } := rfl
@[simp] theorem retA_str (ub : Nat) (s : List UInt8) : retA ub (.str s) = some { v := .str s } := rfl
@[simp] theorem retA_int2 (ub : Nat) (k k' : IntKind) (b b' : Int) : retA ub (.tup [.int k b, .int k' b']) = some { v := .tup [.int k b, .int k' b'] } := rfl
@[simp] theorem retA_slnone (ub : Nat) (nl : Bool) (n : Nat) (cs : List V) : retA ub (.sl none nl n cs) = some { v := .sl none nl n cs } := rfl
theorem wpS_callE {E : Env} {Yf : YF} {st : St} {ub : Nat} {K : St → Nat → Prop} {d : Option Nat} {nm : Bool} {f : FuncId} {xs : List A} {vs : List V} {v : V} (hx : xs.map (eval E st.tm) = vs) (hs : E.sh nm f = false) (hp : (vs.all fun v => v.strip.pureTop) = true)
    (hv : Ev E f (vs.map V.strip) v) (h : wpD (retA ub v) fun δ => K (st.app d δ) (ub + 64)) : wpStep E Yf ⟨d, .call f xs, none, nm⟩ st ub K :=
  wpS_call ⟨by rw [hx]; exact ⟨hs, hp⟩, v, by rw [hx]; exact hv, h⟩
end Go.Pv

/- Conditions for calls that share, for observers, for rounds of a range over a function. -/
namespace Go.Pv
open Go

def C.one : C → Bool
  | .region ops => ops.all fun o => o.op.next?.isNone
  | .seq a b | .cond _ a b => a.one && b.one
  | .block _ a | .loop a => a.one
  | _ => true

def Single {α : Type} (o : Option (List α)) : Prop := ∀ l, o = some l → ∃ x, l = [x]
theorem Single.bindL {α β : Type} {m : Option (List α)} {f : α → Option (List β)} (hm : Single m) (hf : ∀ a, Single (f a)) : Single (bindL m f) := by
  intro l h
  cases hm' : m with
  | none => rw [hm'] at h; cases h
  | some as =>
    obtain ⟨a, rfl⟩ := hm as hm'
    rw [hm'] at h
    exact hf a l h
theorem Single.map {α β : Type} {m : Option (List α)} {f : α → β} (hm : Single m) : Single (m.map fun l => l.map f) := by
  intro l h
  cases hm' : m with
  | none => rw [hm'] at h; cases h
  | some as =>
    obtain ⟨a, rfl⟩ := hm as hm'
    rw [hm'] at h
    cases h
    exact ⟨f a, rfl⟩
theorem Single.none {α : Type} : Single (none : Option (List α)) := fun _ h => by cases h
theorem Single.some {α : Type} (x : α) : Single (some [x]) := fun _ h => ⟨x, by cases h; rfl⟩
theorem Single.opt {α β : Type} {m : Option α} {f : α → β} : Single (m.map fun a => [f a]) := by
  intro l h
  cases m with
  | none => cases h
  | some a => cases h; exact ⟨f a, rfl⟩

section
variable {E : Env} {Yf : YF}

theorem step_one {call : Callers} {o : AOpr} {st : St} {ub : Nat} (h : o.op.next?.isNone = true) : Single (step E call o st ub) := by
  have hn : o.op.next? = .none := by simpa using h
  unfold step
  split
  · split
    · exact Single.opt
    · split
      · split
        · exact Single.opt
        · exact Single.opt
      · rw [hn]
        exact Single.opt
  · exact Single.some _
  · exact Single.none
theorem opsR_one {call : Callers} : ∀ {ops : List AOpr} {st : St} {ub : Nat}, (ops.all fun o => o.op.next?.isNone) = true → Single (opsR E call ops st ub)
  | [], _, _, _ => Single.some _
  | o :: r, st, ub, h => by
    simp only [List.all_cons, Bool.and_eq_true] at h
    exact Single.bindL (step_one h.1) fun x => opsR_one h.2
theorem loopL_one {body : St → Outs} (hb : ∀ st, Single (body st)) : ∀ (n : Nat) (st : St), Single (loopL body n st)
  | 0, _ => Single.none
  | n + 1, st => Single.bindL (hb st) fun x => by
    obtain ⟨e, s⟩ := x
    cases e
    · exact loopL_one hb n s
    · exact Single.some _
    · exact Single.some _

theorem codeL_one {call : Y → Callers} {y : Y} {N : Nat} : ∀ {c : C} {st : St}, c.one = true → Single (codeL E call y N c st) := by
  intro c
  induction c with
  | skip => intro st _; exact Single.some _
  | ret => intro st _; exact Single.some _
  | exit i => intro st _; exact Single.some _
  | stuck => intro st _; exact Single.none
  | region ops => intro st h; simp only [codeL]; exact Single.map (opsR_one h)
  | draw ops free =>
    intro st _ l h
    simp only [codeL] at h
    cases hd : drawR E (call y) ops st st.nx with
    | none => rw [hd] at h; cases h
    | some p =>
      rw [hd, Option.bind_some] at h
      split at h
      · cases h; exact ⟨_, rfl⟩
      · cases h
  | seq a b iha ihb =>
    intro st h
    simp only [C.one, Bool.and_eq_true] at h
    simp only [codeL]
    refine Single.bindL (iha h.1) fun x => ?_
    obtain ⟨e, s⟩ := x
    cases e
    · exact ihb h.2
    · exact Single.some _
    · exact Single.some _
  | cond q a b iha ihb =>
    intro st h
    simp only [C.one, Bool.and_eq_true] at h
    simp only [codeL]
    split
    · exact iha h.1
    · exact ihb h.2
    · exact Single.none
  | block i a ih => intro st h; simp only [codeL]; exact Single.map (ih h)
  | loop a ih => intro st h; simp only [codeL]; exact loopL_one (fun s => ih h) N st
  | rangeFunc f ps a b =>
    intro st _ l h
    simp only [codeL] at h
    split at h
    · simp only [Option.bind_eq_some_iff] at h
      obtain ⟨r, _, h⟩ := h
      split at h
      · split at h
        · cases h; exact ⟨_, rfl⟩
        · cases h
      · cases h
    · cases h

theorem one_of {c : C} {st : St} {Q : Ex → St → Prop} (h1 : c.one = true) (h : wpC E Yf c st Q) : ∃ n x, codeL E (callers E n) (Yf.y n) n c st = some [x] ∧ Q x.1 x.2 := by
  obtain ⟨n, l, hl, _, hq⟩ := wp_of h
  obtain ⟨x, rfl⟩ := codeL_one h1 l hl
  exact ⟨n, x, hl, hq x (List.mem_singleton.2 rfl)⟩

theorem EvO_wp {f : FuncId} {af : AF} {args : List V} {ob : Nat → Option Obj'} {tk : Nat → Bool} {base ub : Nat} {r : V} (hf : E.fs f = some af)
    (h : wpC E noYF af.body (startS args ob (fun _ => false) ub base ub) fun e s => endV af.res (e, s) = some r) (hz : E.fz f = false := by rfl) : EvO E f args ob tk base ub r := by
  obtain ⟨n, l, h1, h2, h3⟩ := wp_of h
  refine ⟨n + 1, ?_⟩
  simp only [callers, hf, Option.bind_some, hz, Bool.false_eq_true, if_false]
  rw [show codeL E (callers E n) noY n af.body (startS args ob (fun _ => false) ub base ub) = some l from h1]
  exact one1_of h2 h3
theorem EvS_wp {f : FuncId} {af : AF} {args : List V} {ob : Nat → Option Obj'} {tk : Nat → Bool} {ro base ub : Nat} {P : V × (Nat → Option Obj') × (Nat → Bool) × Nat → Prop} (hf : E.fs f = some af) (h1 : af.body.one = true)
    (h : wpC E Yf af.body (startS args ob tk ro base ub) fun e s => ∃ r, endS af.res (e, s) = some r ∧ P r) : ∃ r, EvS E Yf.y f args ob tk ro base ub r ∧ P r := by
  obtain ⟨n, x, hx, r, hr, hP⟩ := one_of h1 h
  refine ⟨r, ⟨n + 1, ?_⟩, hP⟩
  simp only [callers, hf, Option.bind_some]
  rw [codeL_mono (cs_mono n n (Nat.le_refl _)) (Nat.le_refl _) af.body _ _ (Yf.mono (Nat.le_succ n)) _ _ hx]
  exact hr

def roundF (E : Env) (Yf : YF) (as bd : C) (st : St) (ps : List Nat) (l u : Nat) : YF where
  y n := roundY (codeL E (callers E n) (Yf.y n) n as) (codeL E (callers E n) (Yf.y n) n bd) st ps l u
  mono h := roundY_mono (fun s => codeL_mono (callers_mono _ _ h) h as _ _ (Yf.mono h) s) (fun s => codeL_mono (callers_mono _ _ h) h bd _ _ (Yf.mono h) s) st ps l u

def roundAns (l u : Nat) (e : Ex) (s : St) : V × (Nat → Option Obj') × (Nat → Bool) × Nat := match e with
  | .nrm => (.bool true, upd s.ob l (some ⟨u, .loop .ready none⟩), s.tk, s.nx)
  | e => (.bool false, upd s.ob l (some ⟨u, .loop .done (some e)⟩), s.tk, s.nx)

theorem EvY_round {as bd : C} {st : St} {ps : List Nat} {l u : Nat} {xs : List V} {ob : Nat → Option Obj'} {tk : Nat → Bool} {ro ub : Nat} {P : V × (Nat → Option Obj') × (Nat → Bool) × Nat → Prop} (hl : xs.length = ps.length) (hro : ro ≤ u) (hob : ob l = some ⟨u, .loop .ready none⟩)
    (ha : as.one = true) (hb : bd.one = true)
    (h : wpC E Yf as { tm := setPs st.tm ps xs, ob, tk, ro, nx := ub, fb := st.fb, df := [] } fun e s1 => e = .nrm ∧ s1.ob l = some ⟨u, .loop .ready none⟩ ∧
      wpC E Yf bd { s1 with ob := upd s1.ob l (some ⟨u, .loop .busy none⟩) } fun e s2 => s2.ob l = some ⟨u, .loop .busy none⟩ ∧ P (roundAns l u e s2)) : ∃ r, EvY (roundF E Yf as bd st ps l u) l u xs ob tk ro ub r ∧ P r := by
  obtain ⟨n, ⟨e, s1⟩, h1, he, ho1, h2⟩ := one_of ha h
  simp only at he ho1 h2
  subst he
  obtain ⟨m, ⟨e, s2⟩, h3, ho2, hP⟩ := one_of hb h2
  simp only at ho2 hP
  refine ⟨roundAns l u e s2, ⟨max n m, ?_⟩, hP⟩
  have k1 := codeL_mono (callers_mono (E := E) n (max n m) (by omega)) (show n ≤ max n m by omega) as _ _ (Yf.mono (show n ≤ max n m by omega)) _ _ h1
  have k2 := codeL_mono (callers_mono (E := E) m (max n m) (by omega)) (show m ≤ max n m by omega) bd _ _ (Yf.mono (show m ≤ max n m by omega)) _ _ h3
  have hble : Nat.ble ro u = true := Nat.ble_eq ▸ hro
  simp only [roundF, roundY, hl, hble, and_self, if_true, hob, k1, ho1, k2, ho2]
  cases e <;> rfl

theorem wpC_rangeFunc {f : A} {ps : List Nat} {as bd : C} {st : St} {Q : Ex → St → Prop} {g : FuncId} {first captured : List V} (hf : eval E st.tm f = .fn (.func g) first captured)
    (h : ∃ r, EvS E (roundF E Yf as bd st ps (2 * st.nx + 1) st.nx).y g (first ++ [.yld (2 * st.nx + 1) st.nx] ++ captured)
        (upd (upd st.ob (2 * st.nx + 3) (some ⟨st.nx + 1, .dfr⟩)) (2 * st.nx + 1) (some ⟨st.nx, .loop .ready none⟩)) st.tk st.ro ((st.fb + 1023) * 1024) (st.nx + 64) r ∧
      ∃ s pend, r.2.1 (2 * st.nx + 1) = some ⟨st.nx, .loop s pend⟩ ∧ s ≠ .busy ∧ st.ro ≤ st.nx ∧
        Q (pend.getD .nrm) { st with ob := fun k => if Nat.beq (2 * st.nx + 1) k then none else r.2.1 k, tk := r.2.2.1, nx := r.2.2.2, df := (2 * st.nx + 3, st.nx + 1) :: st.df }) : wpC E Yf (.rangeFunc f ps as bd) st Q := by
  obtain ⟨⟨v, ob, tk, ub⟩, ⟨n, hr⟩, s, pend, h1, h2, h3, h4⟩ := h
  have hble : Nat.ble st.ro st.nx = true := Nat.ble_eq ▸ h3
  refine ⟨n, [(pend.getD .nrm, _)], ?_, List.cons_ne_nil _ _, fun x hx => by rw [List.mem_singleton] at hx; subst hx; exact h4⟩
  simp only [codeL, hf]
  have hr' : (callers E n (roundY (codeL E (callers E n) (Yf.y n) n as) (codeL E (callers E n) (Yf.y n) n bd) st ps (2 * st.nx + 1) st.nx)).s g (first ++ [.yld (2 * st.nx + 1) st.nx] ++ captured)
        (upd (upd st.ob (2 * st.nx + 3) (some ⟨st.nx + 1, .dfr⟩)) (2 * st.nx + 1) (some ⟨st.nx, .loop .ready none⟩)) st.tk st.ro ((st.fb + 1023) * 1024) (st.nx + 64) = some (v, ob, tk, ub) := hr
  simp only at h1
  simp only [hr', Option.bind_some, h1, h2, ne_eq, not_false_eq_true, hble, and_self, if_true]

theorem wpS_yield {q : A} {xs : List A} {st : St} {ub : Nat} {K : St → Nat → Prop} {d : Option Nat} {nm : Bool} {l u : Nat} (hq : eval E st.tm q = .yld l u)
    (h : ∃ r, EvY Yf l u (xs.map (eval E st.tm)) st.ob st.tk st.ro ub r ∧ K { st with tm := put st.tm d r.1, ob := r.2.1, tk := r.2.2.1 } r.2.2.2) : wpStep E Yf ⟨d, .callV q xs, none, nm⟩ st ub K := by
  simp only [wpStep, wanted, yieldCall, hq]
  exact h
theorem wpS_callO {f : FuncId} {xs : List A} {st : St} {ub : Nat} {K : St → Nat → Prop} {d : Option Nat} {nm : Bool} (hs : E.sh nm f = false) (hp : ((xs.map (eval E st.tm)).all fun v => v.strip.pureTop) = false)
    (h : ∃ v, EvO E f (xs.map (eval E st.tm)) st.ob st.tk ((st.fb + d.getD 0 + 1) * 1024) ub v ∧ wpD (retA ub v) fun δ => K (st.app d δ) (ub + 64)) : wpStep E Yf ⟨d, .call f xs, none, nm⟩ st ub K := by
  have hp' : (xs.all fun x => (eval E st.tm x).strip.pureTop) = false := by rw [List.all_map] at hp; exact hp
  have hsh : sharedCall E nm (eval E st.tm) (.call f xs) = some (f, xs.map (eval E st.tm)) := by simp only [sharedCall, hs, hp', Bool.not_false, Bool.true_and, Bool.false_eq_true, if_false]
  simp only [wpStep, wanted, yieldCall, hsh]
  obtain ⟨v, hv, δ, hδ, hK⟩ := h
  exact .inr ⟨hs, v, hv, δ, hδ, hK⟩
end
end Go.Pv

/- Conditions for what is done to objects. -/
namespace Go.Pv
open Go

def objName (d : Option Nat) (nm : Bool) (fb ub : Nat) : Nat := cond nm (2 * ub + 1) (2 * (fb + d.getD 0))
theorem objName_f (d fb ub : Nat) : objName (some d) false fb ub = 2 * (fb + d) := rfl
theorem objName_t (d : Option Nat) (fb ub : Nat) : objName d true fb ub = 2 * ub + 1 := rfl
theorem name_eq (d : Option Nat) (op : AOp) (nm : Bool) (fb ub : Nat) : AOpr.name ⟨d, op, none, nm⟩ fb ub = objName d nm fb ub := by cases nm <;> rfl

def wpStore (st : St) (sz : Nat) (x : V) (K : Delta → Prop) : V → Prop
  | .ptr l u off => ∃ cs, objCells st.ob l u = some cs ∧ st.ro ≤ u ∧ x.cells.length = sz ∧ off + sz ≤ cs.length ∧ x.cells.all V.leaf = true ∧ K { v := none', obs := [(l, ⟨u, .cells (splice cs off x.cells)⟩)] }
  | _ => False
theorem wpStore_ptr (st : St) (sz : Nat) (x : V) (K : Delta → Prop) (l u off : Nat) : wpStore st sz x K (.ptr l u off) = ∃ cs, objCells st.ob l u = some cs ∧ st.ro ≤ u ∧ x.cells.length = sz ∧ off + sz ≤ cs.length ∧ x.cells.all V.leaf = true ∧ K { v := none', obs := [(l, ⟨u, .cells (splice cs off x.cells)⟩)] } := rfl

section
variable {E : Env} {Yf : YF} {st : St} {ub : Nat} {K : St → Nat → Prop} {d : Option Nat} {nm : Bool}
theorem wpS_alloc {z : List V} : wpStep E Yf ⟨d, .alloc z, none, nm⟩ st ub K = K (st.app d { v := .ptr (objName d nm st.fb ub) ub 0, obs := [(objName d nm st.fb ub, ⟨ub, .cells z⟩)] }) (ub + 64) := by
  rw [wpStep_of _ rfl rfl]; simp only [aop, mkObj, wpD_some, name_eq]
theorem wpS_box {sz : Nat} {x : A} : wpStep E Yf ⟨d, .box sz x, none, nm⟩ st ub K = (((eval E st.tm x).cells.length = sz ∧ (eval E st.tm x).cells.all V.leaf = true) ∧ K (st.app d { v := .ptr (objName d nm st.fb ub) ub 0, obs := [(objName d nm st.fb ub, ⟨ub, .cells (eval E st.tm x).cells⟩)] }) (ub + 64)) := by
  rw [wpStep_of _ rfl rfl]; simp only [aop, mkObj, wpD_ite, wpD_some, name_eq]
theorem wpS_store {sz : Nat} {p x : A} : wpStep E Yf ⟨d, .store sz p x, none, nm⟩ st ub K = wpStore st sz (eval E st.tm x) (fun δ => K (st.app d δ) (ub + 64)) (eval E st.tm p) := by
  rw [wpStep_of _ rfl rfl]
  simp only [aop]
  generalize eval E st.tm p = vp
  cases vp <;> simp only [wpD_none, wpStore]
  rename_i l u off
  cases objCells st.ob l u with
  | none => simp [wpD]
  | some cs => simp only [Option.bind_some, wpD_ite, wpD_some, Option.some.injEq, exists_eq_left', Nat.ble_eq, and_assoc]
end

attribute [simp] objName_f objName_t app_tm app_tm0 app_ro app_nx app_fb app_df app_ob app_tk app_ob1
@[simp] theorem cells_agg (cs : List V) : (V.agg cs).cells = cs := rfl
@[simp] theorem cells_bool (b : Bool) : (V.bool b).cells = [.bool b] := rfl
@[simp] theorem cells_int (k : IntKind) (n : Int) : (V.int k n).cells = [.int k n] := rfl
@[simp] theorem cells_str (s : List UInt8) : (V.str s).cells = [.str s] := rfl
@[simp] theorem cells_sl (t : Option (Nat × Nat)) (b : Bool) (n : Nat) (cs : List V) : (V.sl t b n cs).cells = [.sl t b n cs] := rfl
@[simp] theorem cells_iface (t : TypeId) (v : V) : (V.iface t v).cells = [.iface t v] := rfl
@[simp] theorem leaf_bool (b : Bool) : (V.bool b).leaf = true := rfl
@[simp] theorem leaf_int (k : IntKind) (n : Int) : (V.int k n).leaf = true := rfl
@[simp] theorem leaf_str (s : List UInt8) : (V.str s).leaf = true := rfl
@[simp] theorem leaf_sl (t : Option (Nat × Nat)) (b : Bool) (n : Nat) (cs : List V) : (V.sl t b n cs).leaf = true := rfl
@[simp] theorem leaf_iface (t : TypeId) (v : V) : (V.iface t v).leaf = true := rfl
@[simp] theorem leaf_nilif : V.nilif.leaf = true := rfl
@[simp] theorem cells_nilif : V.nilif.cells = [.nilif] := rfl
@[simp] theorem fieldAddrV_ptr (off l u o : Nat) : fieldAddrV off (.ptr l u o) = some (.ptr l u (o + off)) := rfl
@[simp] theorem fieldAddrV_eptr (off : Nat) (cs : List V) (o : Nat) : fieldAddrV off (.eptr cs o) = some (.eptr cs (o + off)) := rfl
@[simp] theorem pick1_some (k : Nat) (cs : List V) (off : Nat) : pick1 (some k) cs off = if off + k ≤ cs.length then some (.agg ((cs.drop off).take k)) else none := rfl
@[simp] theorem splice_all (cs vs : List V) (h : vs.length = cs.length) : splice cs 0 vs = vs := by simp [splice, ← h]
end Go.Pv

/- Conditions whose continuations have names: nothing behind a step is touched before the step is done. -/
namespace Go.Pv
open Go

def kOps (E : Env) (Yf : YF) (r : List AOpr) (K : St → Prop) : St → Nat → Prop := fun st ub => wpOps' E Yf r st ub K
def kNrm (Q : Ex → St → Prop) : St → Prop := fun s => Q .nrm s
def kSeq (E : Env) (Yf : YF) (b : C) (Q : Ex → St → Prop) : Ex → St → Prop := fun e s => match e with
  | .nrm => wpC E Yf b s Q
  | e => Q e s
def kBlk (i : Nat) (Q : Ex → St → Prop) : Ex → St → Prop := fun e s => match e with
  | .exit j => if j = i then Q .nrm s else Q (.exit j) s
  | e => Q e s
def kSet (K : St → Nat → Prop) (st : St) (d : Option Nat) (ub : Nat) : V → Prop := fun v => K (st.setT d v) (ub + 64)
def kApp (K : St → Nat → Prop) (st : St) (d : Option Nat) (ub : Nat) : Delta → Prop := fun δ => K (st.app d δ) (ub + 64)
def kIf (E : Env) (Yf : YF) (a b : C) (st : St) (Q : Ex → St → Prop) : Bool → Prop
  | true => wpC E Yf a st Q
  | false => wpC E Yf b st Q
def kGd (E : Env) (Yf : YF) (o : AOpr) (st : St) (ub : Nat) (K : St → Nat → Prop) : Bool → Prop
  | true => wpStep E Yf o st ub K
  | false => K (st.setT o.dst none') ub
def kLoop (I : Nat → St → Prop) (k : Nat) (Q : Ex → St → Prop) : Ex → St → Prop := fun e s => match e with
  | .nrm => ∃ j, j < k ∧ I j s
  | e => Q e s
def kEnd (res : List ARes) (r : V) : Ex → St → Prop := fun e s => endV res (e, s) = some r
def ifK : V → (Bool → Prop) → Prop
  | .bool c, k => k c
  | _, _ => False
def gdK : V → Bool → (Bool → Prop) → Prop
  | .bool c, b, k => k (c == b)
  | .tup [], _, k => k false
  | _, _, _ => False
section
variable {E : Env} {Yf : YF} {st : St} {ub : Nat} {K : St → Nat → Prop} {d : Option Nat} {nm : Bool} {Q : Ex → St → Prop}
theorem kOps_app {r : List AOpr} {K : St → Prop} : kOps E Yf r K st ub = wpOps' E Yf r st ub K := propext Iff.rfl
theorem kNrm_app : kNrm Q st = Q .nrm st := propext Iff.rfl
theorem kSeq_nrm {b : C} : kSeq E Yf b Q .nrm st = wpC E Yf b st Q := propext Iff.rfl
theorem kSeq_exit {b : C} {i : Nat} : kSeq E Yf b Q (.exit i) st = Q (.exit i) st := propext Iff.rfl
theorem kSeq_ret {b : C} : kSeq E Yf b Q .ret st = Q .ret st := propext Iff.rfl
theorem kBlk_nrm {i : Nat} : kBlk i Q .nrm st = Q .nrm st := propext Iff.rfl
theorem kBlk_exit {i j : Nat} : kBlk i Q (.exit j) st = if j = i then Q .nrm st else Q (.exit j) st := propext Iff.rfl
theorem kBlk_ret {i : Nat} : kBlk i Q .ret st = Q .ret st := propext Iff.rfl
theorem kSet_app {v : V} : kSet K st d ub v = K (st.setT d v) (ub + 64) := propext Iff.rfl
theorem kApp_app {δ : Delta} : kApp K st d ub δ = K (st.app d δ) (ub + 64) := propext Iff.rfl
theorem kIf_true {a b : C} : kIf E Yf a b st Q true = wpC E Yf a st Q := propext Iff.rfl
theorem kIf_false {a b : C} : kIf E Yf a b st Q false = wpC E Yf b st Q := propext Iff.rfl
theorem kGd_true {o : AOpr} : kGd E Yf o st ub K true = wpStep E Yf o st ub K := propext Iff.rfl
theorem kGd_false {o : AOpr} : kGd E Yf o st ub K false = K (st.setT o.dst none') ub := propext Iff.rfl
theorem kLoop_nrm {I : Nat → St → Prop} {k : Nat} : kLoop I k Q .nrm st = ∃ j, j < k ∧ I j st := propext Iff.rfl
theorem kLoop_exit {I : Nat → St → Prop} {k i : Nat} : kLoop I k Q (.exit i) st = Q (.exit i) st := propext Iff.rfl
theorem kLoop_ret {I : Nat → St → Prop} {k : Nat} : kLoop I k Q .ret st = Q .ret st := propext Iff.rfl
theorem ifK_bool {c : Bool} {k : Bool → Prop} : ifK (.bool c) k = k c := propext Iff.rfl
theorem gdK_bool {c b : Bool} {k : Bool → Prop} : gdK (.bool c) b k = k (c == b) := propext Iff.rfl
theorem gdK_none {b : Bool} {k : Bool → Prop} : gdK none' b k = k false := propext Iff.rfl
theorem gdK_tup {b : Bool} {k : Bool → Prop} : gdK (.tup []) b k = k false := propext Iff.rfl

theorem kC_skip : wpC E Yf .skip st Q = Q .nrm st := propext Iff.rfl
theorem kC_ret : wpC E Yf .ret st Q = Q .ret st := propext Iff.rfl
theorem kC_exit {i : Nat} : wpC E Yf (.exit i) st Q = Q (.exit i) st := propext Iff.rfl
theorem kOps_nil {K : St → Prop} : wpOps' E Yf [] st ub K = K (st.setN ub) := propext Iff.rfl
theorem kC_region {ops : List AOpr} : wpC E Yf (.region ops) st Q = wpOps' E Yf ops st st.nx (kNrm Q) := propext Iff.rfl
theorem kC_seq {a b : C} : wpC E Yf (.seq a b) st Q = wpC E Yf a st (kSeq E Yf b Q) := propext Iff.rfl
theorem kC_block {i : Nat} {a : C} : wpC E Yf (.block i a) st Q = wpC E Yf a st (kBlk i Q) := propext Iff.rfl
theorem kC_cond {c : A} {a b : C} : wpC E Yf (.cond c a b) st Q = ifK (eval E st.tm c) (kIf E Yf a b st Q) := by
  rw [wpC_cond]
  cases h : eval E st.tm c <;> simp [wpIf, ifK]
  rename_i t
  cases t <;> simp [kIf]
theorem kOps_cons {o : AOpr} {r : List AOpr} {K : St → Prop} : wpOps' E Yf (o :: r) st ub K = wpStep E Yf o st ub (kOps E Yf r K) := propext Iff.rfl
theorem kStep_guard {op : AOp} {t : Nat} {b : Bool} : wpStep E Yf ⟨d, op, some (t, b), nm⟩ st ub K = gdK (st.tm t) b (kGd E Yf ⟨d, op, none, nm⟩ st ub K) := by
  rw [wpStep_guard]
  cases h : st.tm t with
  | bool c => cases c <;> cases b <;> simp [wpGuard, gdK, kGd]
  | tup l => cases l <;> simp [wpGuard, gdK, kGd]
  | _ => simp [wpGuard, gdK]
theorem kS_mov {x : A} : wpStep E Yf ⟨d, .mov x, none, nm⟩ st ub K = kSet K st d ub (eval E st.tm x) := wpS_mov
theorem kS_alloc {z : List V} : wpStep E Yf ⟨d, .alloc z, none, nm⟩ st ub K = kApp K st d ub { v := .ptr (objName d nm st.fb ub) ub 0, obs := [(objName d nm st.fb ub, ⟨ub, .cells z⟩)] } := wpS_alloc
theorem kS_box {sz : Nat} {x : A} : wpStep E Yf ⟨d, .box sz x, none, nm⟩ st ub K = (((eval E st.tm x).cells.length = sz ∧ (eval E st.tm x).cells.all V.leaf = true) ∧ kApp K st d ub { v := .ptr (objName d nm st.fb ub) ub 0, obs := [(objName d nm st.fb ub, ⟨ub, .cells (eval E st.tm x).cells⟩)] }) := wpS_box
theorem kS_store {sz : Nat} {p x : A} : wpStep E Yf ⟨d, .store sz p x, none, nm⟩ st ub K = wpStore st sz (eval E st.tm x) (kApp K st d ub) (eval E st.tm p) := wpS_store
theorem kS_iface {t : TypeId} {x : A} : wpStep E Yf ⟨d, .iface t x, none, nm⟩ st ub K = kSet K st d ub (.iface t (eval E st.tm x)) := by rw [wpStep_of _ rfl rfl]; simp only [aop, wpD_one, app_v]; rfl
def assertV (t : TypeId) (zero : V) (ok : Bool) : V → Option V
  | .iface t' v => if t' = t then some (if ok then .tup [v, .bool true] else v) else if ok then some (.tup [zero, .bool false]) else none
  | .nilif => if ok then some (.tup [zero, .bool false]) else none
  | _ => none
theorem kS_assert {t : TypeId} {zero : V} {ok : Bool} {x : A} : wpStep E Yf ⟨d, .assert t zero ok x, none, nm⟩ st ub K = wpV (assertV t zero ok (eval E st.tm x)) (kSet K st d ub) := by
  refine wpS_val rfl rfl fun du => ?_
  simp only [aop, assertV]
  generalize eval E st.tm x = vx
  cases vx with
  | iface t' v => by_cases h : t' = t <;> cases ok <;> simp [h, one]
  | nilif => cases ok <;> rfl
  | _ => rfl
theorem kS_mkFn {f : Fn} {a b : List A} : wpStep E Yf ⟨d, .mkFn f a b, none, nm⟩ st ub K = kSet K st d ub (.fn f (a.map (eval E st.tm)) (b.map (eval E st.tm))) := wpS_mkFn
theorem kS_pick {c a b : A} : wpStep E Yf ⟨d, .pick c a b, none, nm⟩ st ub K = wpV (pickV (eval E st.tm c) (eval E st.tm a) (eval E st.tm b)) (kSet K st d ub) := wpS_pick
theorem kS_bin {op : BinOp} {x y : A} : wpStep E Yf ⟨d, .bin op x y, none, nm⟩ st ub K = wpV (binV op (eval E st.tm x) (eval E st.tm y)) (kSet K st d ub) := wpS_bin
theorem kS_un {op : UnOp} {x : A} : wpStep E Yf ⟨d, .un op x, none, nm⟩ st ub K = wpV (unV op (eval E st.tm x)) (kSet K st d ub) := wpS_un
theorem kS_eq {neg : Bool} {k : EqK} {x y : A} : wpStep E Yf ⟨d, .eq neg k x y, none, nm⟩ st ub K = wpV (eqVV st.ob neg k (eval E st.tm x) (eval E st.tm y)) (kSet K st d ub) := wpS_eq
theorem kS_load {g : Option Nat} {x : A} : wpStep E Yf ⟨d, .load g x, none, nm⟩ st ub K = wpV (loadV st.ob g (eval E st.tm x)) (kSet K st d ub) := wpS_load
theorem kS_nilCheck {x : A} : wpStep E Yf ⟨d, .nilCheck x, none, nm⟩ st ub K = wpV (nilCheckV (eval E st.tm x)) (kSet K st d ub) := wpS_nilCheck
theorem kS_fieldAddr {off : Nat} {x : A} : wpStep E Yf ⟨d, .fieldAddr off x, none, nm⟩ st ub K = wpV (fieldAddrV off (eval E st.tm x)) (kSet K st d ub) := wpS_fieldAddr
theorem kS_idxSl {sz : Nat} {x i : A} : wpStep E Yf ⟨d, .idxSl sz x i, none, nm⟩ st ub K = wpV (idxSlV sz (eval E st.tm x) (eval E st.tm i)) (kSet K st d ub) := wpS_idxSl
theorem kS_idxArr {len sz : Nat} {x i : A} : wpStep E Yf ⟨d, .idxArr len sz x i, none, nm⟩ st ub K = wpV (idxArrV len sz (eval E st.tm x) (eval E st.tm i)) (kSet K st d ub) := wpS_idxArr
theorem kS_part {g : Option Nat} {off : Nat} {x : A} : wpStep E Yf ⟨d, .part g off x, none, nm⟩ st ub K = wpV (partV g off (eval E st.tm x)) (kSet K st d ub) := wpS_part
theorem kS_idxStr {x i : A} : wpStep E Yf ⟨d, .idxStr x i, none, nm⟩ st ub K = wpV (idxStrV (eval E st.tm x) (eval E st.tm i)) (kSet K st d ub) := wpS_idxStr
theorem kS_idxVal {g : Option Nat} {len sz : Nat} {x i : A} : wpStep E Yf ⟨d, .idxVal g len sz x i, none, nm⟩ st ub K = wpV (idxValV g len sz (eval E st.tm x) (eval E st.tm i)) (kSet K st d ub) := wpS_idxVal
theorem kS_slStr {x : A} {lo hi : Option A} : wpStep E Yf ⟨d, .slStr x lo hi, none, nm⟩ st ub K = wpV (slStrV (lo.map (eval E st.tm)) (hi.map (eval E st.tm)) (eval E st.tm x)) (kSet K st d ub) := wpS_slStr
theorem kS_slSl {sz : Nat} {x : A} {lo hi : Option A} : wpStep E Yf ⟨d, .slSl sz x lo hi, none, nm⟩ st ub K = wpV (slSlV sz (lo.map (eval E st.tm)) (hi.map (eval E st.tm)) (eval E st.tm x)) (kSet K st d ub) := wpS_slSl
theorem kS_lenStr {x : A} : wpStep E Yf ⟨d, .lenStr x, none, nm⟩ st ub K = wpV (lenStrV (eval E st.tm x)) (kSet K st d ub) := wpS_lenStr
theorem kS_lenSl {x : A} : wpStep E Yf ⟨d, .lenSl x, none, nm⟩ st ub K = wpV (lenSlV (eval E st.tm x)) (kSet K st d ub) := wpS_lenSl
theorem kS_lenMap {x : A} : wpStep E Yf ⟨d, .lenMap x, none, nm⟩ st ub K = wpV (lenMapV st.ob (eval E st.tm x)) (kSet K st d ub) := wpS_lenMap
theorem kS_extract {x : A} {i : Nat} : wpStep E Yf ⟨d, .extract x i, none, nm⟩ st ub K = wpV (extractV i (eval E st.tm x)) (kSet K st d ub) := wpS_extract
theorem kS_conv {k : IntKind} {x : A} : wpStep E Yf ⟨d, .conv k x, none, nm⟩ st ub K = wpV (convV k (eval E st.tm x)) (kSet K st d ub) := wpS_conv
theorem kS_minmax {b : Bool} {xs : List A} : wpStep E Yf ⟨d, .minmax b xs, none, nm⟩ st ub K = wpV (minmaxV b (xs.map (eval E st.tm))) (kSet K st d ub) := wpS_minmax
theorem kS_build {z : List V} {ps : List (Nat × Nat × A)} : wpStep E Yf ⟨d, .build z ps, none, nm⟩ st ub K = wpV ((fill z (evalParts (eval E st.tm) ps)).map .agg) (kSet K st d ub) := wpS_build
theorem kS_lookup {q : LK} {z : V} {ok : Bool} {m k : A} : wpStep E Yf ⟨d, .lookup q z ok m k, none, nm⟩ st ub K = wpV (lookupV st.ob q z ok (eval E st.tm m) (eval E st.tm k)) (kSet K st d ub) := wpS_lookup
end

attribute [simp ↓] kC_skip kC_ret kC_exit kC_region kC_seq kC_block kC_cond kOps_nil kOps_cons kStep_guard kS_mov kS_alloc kS_box kS_store kS_iface kS_assert kS_mkFn kS_pick kS_bin kS_un kS_eq kS_load kS_nilCheck kS_fieldAddr kS_idxSl kS_idxArr kS_part kS_idxStr kS_idxVal kS_slStr kS_slSl kS_lenStr kS_lenSl kS_lenMap kS_extract kS_conv kS_minmax kS_build kS_lookup
attribute [simp ↓] kOps_app kNrm_app kSeq_nrm kSeq_exit kSeq_ret kBlk_nrm kBlk_exit kBlk_ret kSet_app kApp_app kIf_true kIf_false kGd_true kGd_false kLoop_nrm kLoop_exit kLoop_ret
attribute [simp] ifK_bool gdK_bool gdK_none gdK_tup wpV_ite wpV_ite' wpD_ite wpD_ite' wpStore_ptr

def V.plain : V → Bool
  | .agg cs => cs.all V.pureLeaf
  | .fn .. => false
  | v => v.pureLeaf
theorem outLeaf_pure {st : St} {keep : Bool} {i : Nat} {v : V} (h : v.pureLeaf = true) : outLeaf st keep i v = some v := by
  cases v with
  | sl t nl n cs => cases t with
    | none => rfl
    | some t => cases h
  | _ => first | rfl | (simp [V.pureLeaf] at h; done) | (simp only [outLeaf, solid, h, if_true])
theorem tok_pure {v : V} (h : v.pureLeaf = true) : v.tok = [] := by
  cases v with
  | sl t nl n cs => cases t with
    | none => rfl
    | some t => cases h
  | _ => first | rfl | (simp [V.pureLeaf] at h; done)
theorem outList_pure {st : St} {keep : Bool} : ∀ {i : Nat} {cs : List V}, cs.all V.pureLeaf = true → outList st keep i cs = some cs
  | _, [], _ => rfl
  | i, c :: cs, h => by
    simp only [List.all_cons, Bool.and_eq_true] at h
    simp [outList, outLeaf_pure h.1, outList_pure h.2]
theorem plain_top {st : St} {keep : Bool} {i : Nat} {v : V} (h : v.plain = true) : outTop st keep i v = some v := by
  cases v with
  | agg cs => simp [outTop, outList_pure (show cs.all V.pureLeaf = true from h)]
  | fn => cases h
  | _ => refine Eq.trans (b := outLeaf st keep i _) rfl (outLeaf_pure ?_); exact h
theorem plain_toks {v : V} (h : v.plain = true) : v.toks = [] := by
  cases v with
  | agg cs =>
    simp only [V.toks, List.flatMap_eq_nil_iff]
    intro x hx
    exact tok_pure (List.all_eq_true.1 h x hx)
  | fn => cases h
  | sl t nl n cs => cases t with
    | none => rfl
    | some t => cases h
  | _ => first | rfl | cases h
theorem outTops_plain {st : St} {keep : Bool} : ∀ {i : Nat} {l : List V}, l.all V.plain = true → outTops st keep i l = some l
  | _, [], _ => rfl
  | i, c :: cs, h => by
    simp only [List.all_cons, Bool.and_eq_true] at h
    simp [outTops, plain_top h.1, outTops_plain h.2]
def tupOf : List V → V
  | [v] => v
  | l => .tup l
theorem endV_plain {res : List ARes} {st : St} {l : List V} (hd : st.df = []) (hr : res.mapM (resOf st) = some l) (hl : l.all V.plain = true) : endV res (.ret, st) = some (tupOf l) := by
  have ht : l.flatMap V.toks = [] := by
    rw [List.flatMap_eq_nil_iff]
    intro x hx
    exact plain_toks (List.all_eq_true.1 hl x hx)
  simp only [endV, dfOk_of hd, noDf_of hd, if_true, hr, Option.bind_some, outRes, ht, nodup, outTops_plain hl, if_true]
  match l with
  | [] => rfl
  | [v] => rfl
  | v :: u :: l => rfl
theorem kEnd_of {res : List ARes} {st : St} {r : V} {l : List V} (hd : st.df = []) (hr : res.mapM (resOf st) = some l) (hl : l.all V.plain = true) (h : tupOf l = r) : kEnd res r .ret st := by
  subst h
  exact endV_plain hd hr hl
attribute [simp] fill evalParts
theorem inLeaf_pure {ub : Nat} {v : V} (h : v.pureLeaf = true) : inLeaf ub v = v := by
  cases v with
  | sl t nl n cs => cases t with
    | none => rfl
    | some t => cases h
  | _ => rfl
theorem inTop_plain {ub : Nat} {v : V} (h : v.plain = true) : inTop ub v = v := by
  cases v with
  | agg cs =>
    have : cs.map (inLeaf ub) = cs := by
      conv => rhs; rw [← List.map_id cs]
      exact List.map_congr_left fun x hx => inLeaf_pure (List.all_eq_true.1 h x hx)
    simp only [inTop, this]
  | sl t nl n cs => exact inLeaf_pure h
  | _ => rfl
theorem retA_plain {ub : Nat} {v : V} (h : v.plain = true) : retA ub v = some { v := v } := by
  have h1 : toksRes v = [] := by
    cases v with
    | tup vs => cases h
    | _ => exact plain_toks h
  have h2 : inRes ub v = v := by
    cases v with
    | tup vs => cases h
    | undef => cases h
    | _ => exact inTop_plain (ub := ub) h
  simp [retA, h1, h2]
theorem retA_tupl {ub : Nat} {l : List V} (h : l.all V.plain = true) : retA ub (.tup l) = some { v := .tup l } := by
  have h1 : toksRes (.tup l) = [] := by
    simp only [toksRes, List.flatMap_eq_nil_iff]
    intro x hx
    exact plain_toks (List.all_eq_true.1 h x hx)
  have h2 : inRes ub (.tup l) = .tup l := by
    have : l.map (inTop ub) = l := by
      conv => rhs; rw [← List.map_id l]
      exact List.map_congr_left fun x hx => inTop_plain (List.all_eq_true.1 h x hx)
    simp only [inRes, this]
  simp [retA, h1, h2]
@[simp] theorem eqVV_struct (ob : Nat → Option Obj') (neg : Bool) (l : List LK) (a b : List V) : eqVV ob neg (.struct l) (.agg a) (.agg b) = (eqCells l a b).map fun b => .bool (xor neg b) := rfl
attribute [simp] eqCells eqLeaf

theorem Ev_wpK {E : Env} {f : FuncId} {af : AF} {args : List V} {r : V} (hf : E.fc f = some af) (h : wpC E noYF af.body (start args) (kEnd af.res r)) : Ev E f args r := Ev_wp hf h
theorem wp_loopK {E : Env} {Yf : YF} {a : C} {Q : Ex → St → Prop} (I : Nat → St → Prop) {n : Nat} {st : St} (h0 : I n st) (hs : ∀ k s, I k s → wpC E Yf a s (kLoop I k Q)) : wpC E Yf (.loop a) st Q :=
  wp_loop I h0 hs
theorem kS_call {E : Env} {Yf : YF} {st : St} {ub : Nat} {K : St → Nat → Prop} {d : Option Nat} {nm : Bool} {f : FuncId} {xs : List A} {vs : List V} {v : V} (hx : xs.map (eval E st.tm) = vs) (hs : E.sh nm f = false) (hp : (vs.all fun v => v.strip.pureTop) = true)
    (hv : Ev E f (vs.map V.strip) v) (h : wpD (retA ub v) (kApp K st d ub)) : wpStep E Yf ⟨d, .call f xs, none, nm⟩ st ub K := wpS_callE hx hs hp hv h
end Go.Pv
