/- slices.Repeat: the walk. -/
import Derived.Test.YtopjfnbonjmnjaaGreatDoorBoF
import Derived.Test.YtopjfnbonjmnjaaGreatDoorRows
import Derived.Test.YtopjfnbonjmnjaaGreatDoorTie
import Derived.ProofKit
import Derived.LaidMore
import Derived.OpenShut
import Derived.Stop.Joined
import Derived.SizedLaws
import Derived.Carry
import Derived.Handed
import Derived.ChangeSame
namespace Go.Pv.T
open Go Go.Pv

theorem cells_eq {n : Nat} {x : Int} {cs : List V} (hl : cs.length = n) (h : ∀ i, i < n → cs[i]? = some (.int .i64 x)) : cs = (List.replicate n x).flatMap intC := by
  apply List.ext_getElem?
  intro i
  by_cases hi : i < n
  · rw [h i hi, int_at _ (by simpa using hi)]
    simp
  · rw [List.getElem?_eq_none (by omega), List.getElem?_eq_none (by rw [flatMap_len intC_len]; simp; omega)]
theorem endV_osl {st : St} {n L u m : Nat} {cs : List V} (hd : st.df = []) (h : st.tm n = .osl L u 0 m 1) (ho : st.ob L = some ⟨u, .cells cs⟩) (hl : cs.length = m) (h0 : 0 < m) (hro : st.ro ≤ u) (_htk : st.tk u = st.tk u) (hp : cs.all V.pureLeaf = true) : endV [.t n] (.ret, st) = some (.sl (some (0, 1)) false m cs) := by
  have hres : [ARes.t n].mapM (resOf st) = some [.osl L u 0 m 1] := by simp [resOf, h]
  have hoc : objCells st.ob L u = some cs := by simp [objCells, ho]
  simp only [endV, dfOk_of hd, noDf_of hd, if_true, hres, Option.bind_some, outRes]
  have hk : nodup (List.flatMap V.toks [.osl L u 0 m 1]) = true := rfl
  rw [hk]
  have hs := solid_osl ho hl hro hp
  have hb1 : Nat.beq 0 0 = true := rfl
  have hb2 : Nat.blt 0 m = true := by rw [Nat.blt_eq]; exact h0
  have hb3 : Nat.beq (m * 1) cs.length = true := by rw [Nat.mul_one, hl]; exact Nat.beq_refl m
  have e : outTop st true 0 (.osl L u 0 m 1) = some (.sl (some (0, 1)) false m cs) := by
    show outLeaf st true 0 (.osl L u 0 m 1) = _
    simp only [outLeaf, hs, Option.bind_some, hoc, Option.map_some, hb1, hb2, hb3, Bool.and_self, if_true]
  simp only [outTops, e, Option.bind_some, Option.map_some]
  rfl
theorem ev60 (nl : Bool) (x : Int) (c : Nat) (hc : c ≤ 1000000) : Ev E 60 [slOf nl intC [x], .int .i64 c] (.sl (some (0, 1)) false c ((List.replicate c x).flatMap intC)) := by
  refine Ev_wpK (af := F60) rfl ?_
  have hn : ¬ (c : Int) < 0 := by omega
  have w1 : IntKind.u64.wrap 1 = 1 := by decide
  have w2 := w64 c (by omega)
  have w3 : IntKind.i64.wrap (c : Int) = c := wrap64' (by omega) (by omega)
  have hb : ¬ (9223372036854775807 : Int) < c := by omega
  simp [F60, hn, convV, w1, w2]
  refine kS_ev (ev99 c (by omega)) (by simp) rfl rfl ?_
  simp [retA_int2, hb, convV, w3]
  by_cases hc0 : c = 0
  · subst hc0
    refine kS_mkSl0 (by simp) (by simp) rfl (by decide) ?_
    simp
    refine kS_copy0 (t := some (1408, 1)) (nl := false) (by simp) (by simp [slCells_slOf intC_len]; rfl) ?_
    simp
    refine wp_unroll 1 ?_
    simp
    exact endV_tokG (u := 1408) rfl (by simp) (by simp [app_tk])
  · refine kS_mkSlN (n := c) (by simp) (by simp) (by omega) (by omega) (by omega) rfl (by decide) ?_
    simp
    refine kS_copyN (l := 60) (u := 1408) (off := 0) (n := c) (ys := [.int .i64 x]) (cs := repl c [.int .i64 0]) (by simp) (by simp [slCells_slOf intC_len, intC]) (by simp) (by simp) (by decide) rfl (by simp [repl]) ?_
    simp
    have hrl : (repl c [V.int .i64 0]).length = c := by simp [repl]
    refine wp_loopF (n := c - 1) [(8, 8), (34, 46)] (fun k s => ∃ j cs, k = c - j ∧ 1 ≤ j ∧ j ≤ c ∧ s.tm 8 = .int .i64 (j : Nat) ∧ s.ob 60 = some ⟨1408, .cells cs⟩ ∧ cs.length = c ∧ ∀ i, i < j → cs[i]? = some (.int .i64 x)) rfl rfl ?_ ?_
    · have hmin : Nat.min 1 c = 1 := Nat.min_eq_left (by omega)
      have hsp : splice (repl c [.int .i64 0]) 0 [.int .i64 x] = (repl c [.int .i64 0]).set 0 (.int .i64 x) := by
        unfold splice
        rw [List.set_eq_take_append_cons_drop, if_pos (by omega)]
        rfl
      refine ⟨1, (repl c [.int .i64 0]).set 0 (.int .i64 x), rfl, by omega, by omega, by simp [hmin], by simp [hmin, hsp], by simp [hrl], fun i hi => ?_⟩
      have : i = 0 := by omega
      subst this
      rw [List.getElem?_set_self (by rw [hrl]; omega)]
    · rintro k s ⟨j, cs, rfl, hj1, hjc, h8, ho, hcl, hcs⟩ f
      have f7 : s.tm 7 = .osl 60 1408 0 c 1 := by rw [f.t 7 (by simp)]; simp
      have fd : s.df = [] := by rw [f.d]; simp
      have fr : s.ro = 0 := by rw [f.r]; simp
      clear f
      by_cases hlt : j < c
      · have sl1 : slSlV 1 (some (.int .i64 (j : Int))) none (.osl 60 1408 0 c 1) = some (.osl 60 1408 (0 + j * 1) (c - j) 1) := by simp [slSlV, bounds, hjc]
        have sl2 : slSlV 1 none (some (.int .i64 (j : Int))) (.osl 60 1408 0 c 1) = some (.osl 60 1408 (0 + 0 * 1) (j - 0) 1) := by simp [slSlV, bounds, hjc]
        have hsc : slCells s.ob 1 (.osl 60 1408 (0 + 0 * 1) (j - 0) 1) = some (cs.take j) := by
          simp only [slCells, if_true, objCells, ho, Option.bind_some]
          rw [if_pos (by omega)]
          simp
        have htl : (cs.take j).length = j := by rw [List.length_take]; omega
        have hleaf : (cs.take j).all V.leaf = true := by
          rw [List.all_eq_true]
          intro y hy
          obtain ⟨i, hi, rfl⟩ := List.getElem_of_mem hy
          rw [htl] at hi
          have := hcs i hi
          rw [List.getElem_take]
          rw [List.getElem?_eq_getElem (by omega), Option.some.injEq] at this
          rw [this]; rfl
        obtain ⟨M, hM⟩ : ∃ M, Nat.min ((cs.take j).length / 1) (c - j) = M := ⟨_, rfl⟩
        have hM' : M = min j (c - j) := by rw [← hM, htl, Nat.div_one]
        simp [h8, f7, hlt, sl1, sl2]
        refine kD_copyN (l := 60) (u := 1408) (off := 0 + j * 1) (n := c - j) (ys := cs.take j) (cs := cs) (by simp) (by simpa using hsc) (by simp [ho]) (by simp [fr]) (by decide) hleaf (by omega) ?_
        rw [hM]
        have hw : IntKind.i64.wrap ((j : Int) + (M : Int)) = ((j + M : Nat) : Int) := by rw [wrap64' (by omega) (by omega)]; try simp
        have hvl : ((cs.take j).take M).length = M := by rw [List.length_take, htl]; omega
        simp [hw]
        refine ⟨c - (j + M), by omega, j + M, rfl, by omega, by omega, by simp, ?_, ?_⟩
        · unfold splice
          rw [List.length_append, List.length_append, hvl, htl, List.length_drop]
          omega
        · intro i hi
          unfold splice
          by_cases h1 : i < j
          · rw [List.getElem?_append_left (by rw [List.length_append, htl]; omega), List.getElem?_append_left (by rw [htl]; exact h1), List.getElem?_take, if_pos h1]
            exact hcs i h1
          · rw [List.getElem?_append_left (by rw [List.length_append, htl, hvl]; omega), List.getElem?_append_right (by rw [htl]; omega), htl, List.getElem?_take, if_pos (by omega), List.getElem?_take, if_pos (by omega)]
            exact hcs _ (by omega)
      · have : j = c := by omega
        subst this
        simp [h8, f7]
        have hcs' := cells_eq hcl hcs
        refine endV_osl (L := 60) (u := 1408) (by simp [fd]) (by simp) (by simp [ho, hcs']) (by rw [flatMap_len intC_len]; simp) (by omega) (by simp [fr]) rfl ?_
        rw [List.all_eq_true]
        intro y hy
        obtain ⟨a, _, ha⟩ := List.mem_flatMap.1 hy
        simp [intC] at ha
        subst ha
        rfl
end Go.Pv.T

/- What is left without lost reads may be. -/
namespace Go.Pv.T
open Go Go.Pv

theorem cmpL_trans : ∀ x y z : List Int, cmpL x y < 0 → cmpL y z < 0 → cmpL x z < 0
  | [], [], _, h, _ => by simp [cmpL] at h
  | [], _ :: _, [], _, h => by simp [cmpL] at h
  | [], _ :: _, _ :: _, _, _ => by simp [cmpL]
  | _ :: _, [], _, h, _ => by simp [cmpL] at h
  | _ :: _, _ :: _, [], _, h => by simp [cmpL] at h
  | a :: x, b :: y, c :: z, h1, h2 => by
    simp only [cmpL] at h1 h2 ⊢
    have e1 := @cmpI_z a b
    have e2 := @cmpI_z b c
    have e3 := @cmpI_z a c
    by_cases h : cmpI a b = 0
    · rw [if_pos h] at h1
      have hab := e1.1 h
      subst hab
      by_cases h' : cmpI a c = 0
      · rw [if_pos h'] at h2 ⊢
        exact cmpL_trans x y z h1 h2
      · rw [if_neg h'] at h2 ⊢
        exact h2
    · rw [if_neg h] at h1
      have l1 : a < b := by rw [cmpI_lt] at h1; exact h1
      have l2 : b ≤ c := by
        by_cases h' : cmpI b c = 0
        · have := e2.1 h'; omega
        · rw [if_neg h', cmpI_lt] at h2; omega
      have l3 : a < c := by omega
      have h3 : cmpI a c < 0 := by rw [cmpI_lt]; exact l3
      rw [if_neg (by omega)]
      exact h3
theorem lessB_trans {a b c : List UInt8} (h1 : lessB a b = true) (h2 : lessB b c = true) : lessB a c = true := by
  unfold lessB at *
  rw [decide_eq_true_eq] at *
  exact cmpL_trans _ _ _ h1 h2
theorem tab_iff {t : List (List UInt8)} : tabB t = true ↔ (∀ x ∈ t, nameB x = true) ∧ t.Pairwise fun a b => lessB a b = true := by
  constructor
  · intro h
    have hall : ∀ j (hj : j < t.length), okAt t j = true := fun j hj => List.all_eq_true.1 h j (List.mem_range.2 hj)
    refine ⟨?_, ?_⟩
    · intro x hx
      obtain ⟨j, hj, rfl⟩ := List.getElem_of_mem hx
      have := hall j hj
      unfold okAt at this
      rw [Bool.and_eq_true, getD_lt hj] at this
      exact this.1
    · rw [List.pairwise_iff_getElem]
      intro i j hi hj hij
      have step : ∀ (n i : Nat) (hi : i < t.length) (hj : i + n + 1 < t.length), lessB t[i] t[i + n + 1] = true := by
        intro n
        induction n with
        | zero =>
          intro i hi hj
          have := hall (i + 1) hj
          unfold okAt at this
          rw [Bool.and_eq_true, getD_lt hj, Nat.add_sub_cancel, getD_lt hi] at this
          simpa using this.2
        | succ n ih =>
          intro i hi hj
          have h1 := ih i hi (by omega)
          have := hall (i + (n + 1) + 1) hj
          unfold okAt at this
          rw [Bool.and_eq_true, getD_lt hj, Nat.add_sub_cancel, getD_lt (by omega)] at this
          have h2 : lessB t[i + (n + 1)] t[i + (n + 1) + 1] = true := by simpa using this.2
          exact lessB_trans h1 h2
      obtain ⟨n, rfl⟩ : ∃ n, j = i + n + 1 := ⟨j - i - 1, by omega⟩
      exact step n i hi hj
  · rintro ⟨h1, h2⟩
    refine tabB_t fun j hj => ?_
    unfold okAt
    rw [getD_lt hj, h1 _ (List.getElem_mem hj), Bool.true_and]
    by_cases h0 : j = 0
    · subst h0; rfl
    · rw [List.pairwise_iff_getElem] at h2
      rw [getD_lt (by omega), h2 (j - 1) j (by omega) hj (by omega)]
      simp
theorem kept_sub (h : Hist') : ∀ i, i ≤ h.ks.length → (keptTo h i).Sublist (h.ks.take i)
  | 0, _ => List.nil_sublist _
  | i + 1, hi => by
    have ih := kept_sub h i (by omega)
    rw [List.take_succ_eq_append_getElem (by omega)]
    show (keptTo h i ++ (if usedN h i then [h.ks.getD i []] else [])).Sublist _
    rw [getD_lt (by omega)]
    cases usedN h i
    · simp only [Bool.false_eq_true, if_false, List.append_nil]
      exact ih.trans (List.sublist_append_left _ _)
    · simp only [if_true]
      exact ih.append (List.Sublist.refl _)
theorem kept_sub' (h : Hist') : (keptTo h h.ks.length).Sublist h.ks := by
  have := kept_sub h h.ks.length (Nat.le_refl _)
  rwa [List.take_length] at this
theorem toK_mono (h : Hist') : ∀ (n k : Nat), k < n → usedN h k = true → toK h k < toK h n
  | n + 1, k, hk, hu => by
    rcases Nat.lt_succ_iff_lt_or_eq.1 hk with h' | rfl
    · have := toK_mono h n k h' hu
      simp only [toK]
      omega
    · simp only [toK, hu, if_true]
      omega
theorem toK_surj (h : Hist') : ∀ (n j : Nat), j < toK h n → ∃ k, k < n ∧ usedN h k = true ∧ toK h k = j
  | 0, j, hj => by simp [toK] at hj
  | n + 1, j, hj => by
    simp only [toK] at hj
    by_cases h' : j < toK h n
    · obtain ⟨k, h1, h2, h3⟩ := toK_surj h n j h'
      exact ⟨k, by omega, h2, h3⟩
    · cases hu : usedN h n
      · rw [hu] at hj; simp at hj; omega
      · rw [hu] at hj; simp at hj
        exact ⟨n, by omega, hu, by omega⟩
theorem erP_small {h : Hist'} (hs : Small h) : Small (erP h) := by
  have hsub := kept_sub' h
  refine ⟨hs.ss, hs.sl, ?_, ?_, ?_, ?_⟩
  · have := hsub.length_le
    have := hs.ks
    show (keptTo h h.ks.length).length ≤ 1000
    omega
  · exact fun s hx => hs.kl s (hsub.subset hx)
  · show (h.ts.map (erT h)).length ≤ 1000
    rw [List.length_map]
    exact hs.ts
  · intro t ht
    obtain ⟨t0, ht0, rfl⟩ := List.mem_map.1 ht
    have h1 := erOps_le h t0.ops
    have h2 := hs.os t0 ht0
    show (erOps h t0.ops).length ≤ 1000
    omega
theorem mem_opsOf_er {h : Hist'} {o : Op'} : o ∈ opsOf (erP h) ↔ ∃ o0 ∈ opsOf h, keepB o0 = true ∧ o = reK h o0 := by
  unfold opsOf erP
  simp only [List.mem_flatMap, List.mem_map]
  constructor
  · rintro ⟨t, ⟨t0, ht0, rfl⟩, ho⟩
    obtain ⟨o0, ho0, rfl⟩ := List.mem_map.1 ho
    obtain ⟨h1, h2⟩ := List.mem_filter.1 ho0
    exact ⟨o0, ⟨t0, ht0, h1⟩, h2, rfl⟩
  · rintro ⟨o0, ⟨t0, ht0, h1⟩, h2, rfl⟩
    exact ⟨erT h t0, ⟨t0, ht0, rfl⟩, List.mem_map.2 ⟨o0, List.mem_filter.2 ⟨h1, h2⟩, rfl⟩⟩
theorem erP_may {h : Hist'} (hm : mayH h = true) : mayH (erP h) = true := by
  have hm0 := hm
  unfold mayH at hm
  simp only [Bool.and_eq_true] at hm
  obtain ⟨hd, ht, ho, hu⟩ := hm
  unfold headsB at hd
  simp only [Bool.and_eq_true, decide_eq_true_eq] at hd
  obtain ⟨d1, d2, d3, d4, d5⟩ := hd
  have hsub := kept_sub' h
  have hklen : (keptTo h h.ks.length).length = toK h h.ks.length := keptTo_len h _
  have hkle := toK_le h h.ks.length
  unfold mayH
  simp only [Bool.and_eq_true]
  refine ⟨?_, ?_, ?_, ?_⟩
  · unfold headsB
    simp only [Bool.and_eq_true, decide_eq_true_eq]
    refine ⟨d1, ?_, d3, ?_, ?_⟩
    · rw [tab_iff] at d2 ⊢
      exact ⟨fun x hx => d2.1 x (hsub.subset hx), d2.2.sublist hsub⟩
    · show (keptTo h h.ks.length).length ≤ 40
      omega
    · show (h.ts.map (erT h)).length ≤ 40
      rw [List.length_map]; exact d5
  · rw [List.all_eq_true] at ht ⊢
    intro t' ht'
    obtain ⟨t, htm, rfl⟩ := List.mem_map.1 ht'
    have := ht t htm
    unfold txnB at this ⊢
    simp only [Bool.and_eq_true, decide_eq_true_eq] at this ⊢
    refine ⟨this.1, this.2.1, this.2.2.1, ?_⟩
    have h1 := erOps_le h t.ops
    show (erOps h t.ops).length ≤ 20
    omega
  · rw [List.all_eq_true] at ho ⊢
    intro o' ho'
    obtain ⟨o, hoo, hk, rfl⟩ := mem_opsOf_er.1 ho'
    have hb := ho o hoo
    have hkey := may_ops hm0 hoo
    have hused := used_of hoo hk hkey.1
    have hlt := toK_mono h h.ks.length o.key.toNat (by omega) hused
    unfold opB at hb ⊢
    rw [Bool.and_eq_true] at hb ⊢
    refine ⟨?_, hb.2⟩
    rw [within_iff]
    show 0 ≤ ((toK h o.key.toNat : Nat) : Int) ∧ ((toK h o.key.toNat : Nat) : Int) < ((keptTo h h.ks.length).length : Int)
    omega
  · unfold usedB at hu ⊢
    simp only [Bool.and_eq_true, decide_eq_true_eq] at hu ⊢
    have hS : usesS (erP h) = usesS h := by unfold usesS erP; simp [List.map_map]; intro t _; rfl
    refine ⟨by rw [hS]; exact hu.1, ?_⟩
    have hp := pigeon (keptTo h h.ks.length).length (dd (usesK (erP h))) (nodup_dd _) ?_
    · refine hp.2.2 fun j hj => ?_
      rw [hklen] at hj
      obtain ⟨k, h1, h2, h3⟩ := toK_surj h _ j hj
      rw [mem_dd]
      unfold usedN cntK at h2
      rw [decide_eq_true_eq, List.length_pos_iff_exists_mem] at h2
      obtain ⟨o, hom⟩ := h2
      obtain ⟨ho1, ho2⟩ := List.mem_filter.1 hom
      simp only [Bool.and_eq_true, beq_iff_eq] at ho2
      refine List.mem_map.2 ⟨reK h o, mem_opsOf_er.2 ⟨o, ho1, ho2.2, rfl⟩, ?_⟩
      show ((toK h o.key.toNat : Nat) : Int) = (j : Int)
      rw [ho2.1, Int.toNat_natCast, h3]
    · intro x hx
      rw [mem_dd] at hx
      obtain ⟨o', ho', rfl⟩ := List.mem_map.1 hx
      obtain ⟨o, hoo, hk, rfl⟩ := mem_opsOf_er.1 ho'
      have hkey := may_ops hm0 hoo
      have hused := used_of hoo hk hkey.1
      have hlt := toK_mono h h.ks.length o.key.toNat (by omega) hused
      show 0 ≤ ((toK h o.key.toNat : Nat) : Int) ∧ ((toK h o.key.toNat : Nat) : Int) < ((keptTo h h.ks.length).length : Int)
      omega

def byR (h : Hist') (p : Int) : Hist' × Int := if mayH h then (if p = 1 then (h, 0) else if p = 2 then (erR h, 0) else (zeroH, 2)) else (zeroH, 4)
theorem ev64 {h : Hist'} (hs : Small h) (p : Int) : ∃ v, Ev E 64 [.agg (histC h), .int .i64 p] v ∧ HP (byR h p).1 (byR h p).2 v := by
  have e32 := ev32 hs
  refine Ev_wpE (af := F64) rfl (by decide) ?_
  obtain ⟨P, hP⟩ : ∃ P, HP (byR h p).1 (byR h p).2 = P := ⟨_, rfl⟩
  rw [hP]
  unfold errH at e32
  cases hm : mayH h
  · rw [hm] at e32
    simp only [Bool.false_eq_true, if_false] at e32
    have hb : byR h p = (zeroH, 4) := by unfold byR; rw [hm]; rfl
    rw [hb] at hP
    subst hP
    simp [F64, histC, objCells]
    refine kS_ev e32 (by simp [histC]) rfl (by simp [histC]) ?_
    simp [objCells, splice]
    exact hist_end (g := zeroH) (l := 8) (u := 64) HP_of rfl (by simp) (by simp) (by simp) (slOut_zero _) (slOut_zero _) (slOut_zero _)
  · rw [hm] at e32
    simp only [if_true] at e32
    simp [F64, histC, objCells]
    refine kS_ev e32 (by simp [histC]) rfl (by simp [histC]) ?_
    by_cases p1 : p = 1
    · have hb : byR h p = (h, 0) := by unfold byR; rw [hm, if_pos rfl, if_pos p1]
      rw [hb] at hP
      subst hP
      simp [objCells, splice, p1]
      exact hist_end (g := h) (l := 8) (u := 64) HP_of rfl (by simp) (by simp) (by simp) (slOut_of _ _ _ _) (slOut_of _ _ _ _) (slOut_of _ _ _ _)
    have p1' : (p == 1) = false := by simpa using p1
    by_cases p2 : p = 2
    · have hb : byR h p = (erR h, 0) := by unfold byR; rw [hm, if_pos rfl, if_neg p1, if_pos p2]
      rw [hb] at hP
      subst hP
      obtain ⟨r, ev, hr⟩ := ev103 hs hm
      simp [objCells, p2]
      refine kS_ev ev (by simp [histC]) rfl (by simp [histC]) ?_
      obtain ⟨a, b, c, add, hret⟩ := retA_hist1 hr
      rw [hret]
      simp [objCells, splice]
      exact hist_end (g := erR h) (l := 8) (u := 64) (x := .sl a (erR h).sn (erR h).ss.length ((erR h).ss.flatMap strC)) (y := .sl b (erR h).kn (erR h).ks.length ((erR h).ks.flatMap strC)) (z := .sl c (erR h).tn (erR h).ts.length ((erR h).ts.flatMap txnC)) HP_of rfl (by simp) (by simp) (by simp) (slOut_sl _ _ _ _ _) (slOut_sl _ _ _ _ _) (slOut_sl _ _ _ _ _)
    · have hb : byR h p = (zeroH, 2) := by unfold byR; rw [hm, if_pos rfl, if_neg p1, if_neg p2]
      have p2' : (p == 2) = false := by simpa using p2
      rw [hb] at hP
      subst hP
      simp [objCells, splice, p1', p2']
      exact hist_end (g := zeroH) (l := 8) (u := 64) HP_of rfl (by simp) (by simp) (by simp) (slOut_zero _) (slOut_zero _) (slOut_zero _)
end Go.Pv.T

/- bound.Of. -/
namespace Go.Pv.T
open Go Go.Pv

theorem kS_appendL {E : Env} {Yf : YF} {st : St} {ub : Nat} {K : St → Nat → Prop} {d : Option Nat} {nm : Bool} {α : Type} {f : α → List V} {sz bytes u : Nat} {l1 l2 : List α} {s x : A} (hs : eval E st.tm s = .sl (some (u, sz)) false l1.length (l1.flatMap f)) (hu : st.tk u = true) (hle : u ≤ ub) (hx : slCells st.ob sz (eval E st.tm x) = some (l2.flatMap f)) (hf : ∀ a, (f a).length = sz) (h0 : 0 < sz)
    (hp : (l2.flatMap f).all V.pureLeaf = true) (hb : (l1.length + l2.length) * bytes ≤ 140737488355328) (hb2 : l1.length + l2.length ≤ 140737488355328)
    (h : ∀ (u' : Nat) (del : Option Nat) (add : List Nat), u' ≤ ub → (if u' ∈ add then true else if u' ∈ del.toList then false else st.tk u') = true → kApp K st d ub { v := .sl (some (u', sz)) false (l1 ++ l2).length ((l1 ++ l2).flatMap f), del := del, add := add }) : wpStep E Yf ⟨d, .append false sz bytes s x, none, nm⟩ st ub K := by
  cases l2 with
  | nil =>
    rw [wpStep_of _ rfl rfl]
    simp only [aop, hs, hx, Option.bind_some, List.flatMap_nil, if_true]
    rw [if_pos (by rw [flatMap_len hf]), wpD_one]
    have := h u none [] hle (by simpa using hu)
    simpa using this
  | cons a l =>
    have h1 : ((a :: l).flatMap f).length / sz = (a :: l).length := by rw [flatMap_len hf]; exact Nat.mul_div_cancel _ h0
    have hne : (a :: l).flatMap f ≠ [] := fun e => by have := congrArg List.length e; rw [flatMap_len hf] at this; have := Nat.mul_pos (show 0 < (a :: l).length by simp) h0; simp_all
    refine kS_append_tok hs hu hx hne (by rw [flatMap_len hf]) h0 hp (by rw [h1]; exact hb) (by rw [h1]; exact hb2) ?_
    rw [h1, ← List.length_append, ← List.flatMap_append]
    exact h ub (some u) [ub] (Nat.le_refl _) (by simp)
theorem ints_pure' (l : List Int) : (l.flatMap intC).all V.pureLeaf = true := by
  rw [List.all_eq_true]
  intro y hy
  obtain ⟨a, _, ha⟩ := List.mem_flatMap.1 hy
  simp [intC] at ha
  subst ha
  rfl
def ups : Nat → List Int
  | 0 => []
  | n + 1 => ups n ++ [(n : Int) + 1]
theorem ups_len : ∀ n, (ups n).length = n
  | 0 => rfl
  | n + 1 => by simp [ups, ups_len n]
theorem ups_pos : ∀ (n : Nat) (x : Int), x ∈ ups n → 0 ≤ x
  | n + 1, x, hx => by
    simp only [ups, List.mem_append, List.mem_singleton] at hx
    rcases hx with h | rfl
    · exact ups_pos n x h
    · omega
def bound3 (g : Hist') : List Int := List.replicate (infosH g).length 2 ++ List.replicate (lostH g).length ((mostH g : Int) + 2) ++ List.replicate (rcT g.ts) ((mostH g : Int) + 1)
def boundL (g : Hist') : List Int := bound3 g ++ ups (g.ts.length + 1) ++ [(g.ts.length : Int) + 1]
def boundR (x : Hist' × Int) : Int × Int := if x.2 = 0 then prP 1 (boundL x.1) else (0, x.2)
theorem boundL_pos (g : Hist') : ∀ n ∈ boundL g, 0 ≤ n := by
  intro n hn
  simp only [boundL, bound3, List.mem_append, List.mem_replicate, List.mem_singleton] at hn
  rcases hn with ((((⟨_, rfl⟩ | ⟨_, rfl⟩) | ⟨_, rfl⟩) | h) | rfl)
  · decide
  · omega
  · omega
  · exact ups_pos _ _ h
  · omega
theorem rcT_small {l : List Txn'} (h : ∀ t ∈ l, t.ops.length ≤ 1000) : rcT l ≤ l.length * 1000 := by
  induction l with
  | nil => simp [rcT, rc]
  | cons t l ih =>
    have h3 := ih (fun t ht => h t (List.mem_cons_of_mem _ ht))
    have h4 := h t (List.mem_cons_self ..)
    have h5 := rc_le t.ops
    have : rcT (t :: l) = rc t.ops + rcT l := by rw [rcT, List.flatMap_cons, rc_app]; rfl
    rw [this, List.length_cons, Nat.succ_mul]
    omega
structure Bnd (g : Hist') : Prop where
  i : (infosH g).length ≤ 1000
  l : (lostH g).length ≤ 1000000
  r : rcT g.ts ≤ 1000000
  m : mostH g ≤ 1000
  t : g.ts.length ≤ 1000
theorem bnd_of {g : Hist'} (hs : Small g) : Bnd g := by
  have ht := hs.ts
  refine ⟨?_, ?_, ?_, mostTo_le hs _, ht⟩
  · have := numsTo_len isInfo g.ts g.ts.length
    show (numsTo isInfo g.ts g.ts.length).length ≤ 1000
    omega
  · have := lostTo_len hs.os g.ts.length
    show (lostTo g.ts g.ts.length).length ≤ 1000000
    have : g.ts.length * 1000 ≤ 1000 * 1000 := Nat.mul_le_mul_right _ ht
    omega
  · have := rcT_small hs.os
    have : g.ts.length * 1000 ≤ 1000 * 1000 := Nat.mul_le_mul_right _ ht
    omega
theorem bound3_len (g : Hist') : (bound3 g).length = (infosH g).length + (lostH g).length + rcT g.ts := by simp [bound3]; omega
theorem byP_small {h : Hist'} (hs : Small h) {p : Int} (he : (byP h p).2 = 0) : Small (byP h p).1 ∧ mayH (byP h p).1 = true := by
  unfold byP at he ⊢
  cases hm : mayH h
  · rw [hm] at he; simp at he
  · rw [hm] at he
    simp only [if_true] at he ⊢
    by_cases p1 : p = 1
    · rw [if_pos p1]; exact ⟨hs, hm⟩
    · rw [if_neg p1] at he ⊢
      by_cases p2 : p = 2
      · rw [if_pos p2]; exact ⟨erP_small hs, erP_may hm⟩
      · rw [if_neg p2] at he; simp at he
theorem retA_tok {ub n : Nat} {cs : List V} : retA ub (.sl (some (0, 1)) false n cs) = some { v := .sl (some (ub, 1)) false n cs, add := [ub] } := by
  rw [retA, if_pos (by rfl)]; rfl
set_option maxRecDepth 100000 in
theorem ev15 {h : Hist'} (hs : Small h) (p : Int) : Ev E 15 [.agg (histC h), .int .i64 p] (prV (boundR (byP h p))) := by
  obtain ⟨v, ev, r, rfl, hr⟩ := ev59 hs p
  refine Ev_wpK (af := F15) rfl ?_
  obtain ⟨R, hR⟩ : ∃ R, boundR (byP h p) = R := ⟨_, rfl⟩
  rw [hR]
  simp [F15, histC, objCells]
  refine kS_ev ev (by simp [histC]) rfl (by simp [histC]) ?_
  obtain ⟨a, b, c, add, hret⟩ := retA_hist (ub := 320) (e := (byP h p).2) hr
  rw [hret]
  by_cases he : (byP h p).2 = 0
  · obtain ⟨hg, hm⟩ := byP_small hs he
    have hR' : R = prP 1 (boundL (byP h p).1) := by rw [← hR, boundR, if_pos he]
    rw [he]
    generalize (byP h p).1 = g at *
    have B := bnd_of hg
    have e23 := ev23 hg hm
    obtain ⟨vi, evi, nli, hvi⟩ := ev61 hg hm
    obtain ⟨vl, evl, nll, hvl⟩ := ev62 hg hm
    have e63 := ev63 g (by have := hg.ts; omega) (fun t ht => by have := hg.os t ht; omega)
    simp [objCells, splice]
    refine kD_ev e23 (by simp [histC, slOf]) rfl (by simp [histC, slOf]) ?_
    simp [objCells]
    refine kS_buildSl (cs := [.int .i64 2]) (by simp [splice]) rfl rfl ?_
    simp [objCells]
    refine kS_ev evi (by simp [histC, slOf]) rfl (by simp [histC]) ?_
    obtain ⟨ti, ai, hri⟩ := retA_sl (ub := 1472) hvi
    rw [hri]
    simp
    refine kS_ev (ev60 false 2 (infosH g).length (by have := B.i; omega)) (by simp [slOf, intC]) rfl (by simp [slOf, intC]) ?_
    clear hri evi hvi
    have bm := B.m
    have bt := B.t
    have q1 : IntKind.i64.wrap ((mostH g : Int) + 2) = (mostH g : Int) + 2 := wrap64' (by omega) (by omega)
    have q2 : IntKind.i64.wrap ((mostH g : Int) + 1) = (mostH g : Int) + 1 := wrap64' (by omega) (by omega)
    have q3 : IntKind.i64.wrap ((g.ts.length : Int) + 1) = (g.ts.length : Int) + 1 := wrap64' (by omega) (by omega)
    rw [retA_tok]
    simp [q1]
    refine kS_buildSl (cs := [.int .i64 (mostH g + 2)]) (by simp [splice]) rfl rfl ?_
    simp [objCells]
    refine kS_ev evl (by simp [histC, slOf]) rfl (by simp [histC]) ?_
    obtain ⟨tl, al, hrl⟩ := retA_sl (ub := 2048) hvl
    rw [hrl]
    simp
    refine kS_ev (ev60 false (mostH g + 2) (lostH g).length (by have := B.l; omega)) (by simp [slOf, intC]) rfl (by simp [slOf, intC]) ?_
    rw [retA_tok]
    simp
    refine kS_appendL (f := intC) (l1 := List.replicate (infosH g).length 2) (l2 := List.replicate (lostH g).length ((mostH g : Int) + 2)) (by simp; try rfl) (by simp) (by simp) (by simp [slCells]) (fun _ => rfl) (by decide) (ints_pure' _) (by simp; have := B.i; have := B.l; omega) (by simp; have := B.i; have := B.l; omega) ?_
    intro u2 del2 add2 hu2 htk2
    try simp at hu2
    simp [q2]
    refine kS_buildSl (cs := [.int .i64 (mostH g + 1)]) (by simp [splice]) rfl rfl ?_
    simp [objCells]
    refine kS_ev e63 (by simp [histC, slOf]) rfl (by simp [histC]) ?_
    simp
    refine kS_ev (ev60 false (mostH g + 1) (rcT g.ts) (by have := B.r; omega)) (by simp [slOf, intC]) rfl (by simp [slOf, intC]) ?_
    rw [retA_tok]
    simp
    refine kS_appendL (f := intC) (l1 := List.replicate (infosH g).length 2 ++ List.replicate (lostH g).length ((mostH g : Int) + 2)) (l2 := List.replicate (rcT g.ts) ((mostH g : Int) + 1)) (by simp; try rfl) (by simpa [app_tk, app_tk0] using Or.inr (Or.inr htk2)) (by omega) (by simp [slCells]) (fun _ => rfl) (by decide) (ints_pure' _) (by simp; have := B.i; have := B.l; have := B.r; omega) (by simp; have := B.i; have := B.l; have := B.r; omega) ?_
    intro u3 del3 add3 hu3 htk3
    try simp at hu3
    have hb3 : (List.replicate (infosH g).length (2 : Int) ++ List.replicate (lostH g).length ((mostH g : Int) + 2) ++ List.replicate (rcT g.ts) ((mostH g : Int) + 1)) = bound3 g := rfl
    rw [hb3]
    simp [q3]
    refine wp_loopUp [(10, 12), (50, 59)] (g.ts.length + 1) (fun i s => s.tm 50 = .int .i64 i ∧ GrowT s.tk s.nx intC 1 (bound3 g ++ ups i) (s.tm 10)) rfl rfl ⟨by simp, ⟨u3, by simp [ups], by simpa [app_tk] using htk3, by simp; omega⟩⟩ ?_
    rintro i s hi ⟨h50, hG⟩ f
    have f9 : s.tm 9 = .int .i64 g.ts.length := by rw [f.t 9 (by simp)]; simp
    have f49 : s.tm 49 = .int .i64 (g.ts.length + 1) := by rw [f.t 49 (by simp)]; simp
    have fd : s.df = [] := by rw [f.d]; simp
    clear f htk2 htk3
    have hll : (bound3 g ++ ups i).length ≤ 3000000 := by have := B.i; have := B.l; have := B.r; rw [List.length_append, bound3_len, ups_len]; omega
    by_cases hlt : i < g.ts.length + 1
    · have hw := wrapU hlt (by omega)
      have hltI : (i : Int) < (g.ts.length : Int) + 1 := by omega
      simp [h50, f49, hltI, hw]
      refine kS_buildSl (cs := [.int .i64 ((i : Int) + 1)]) (by simp [splice]) rfl rfl ?_
      simp
      refine kS_appendT (f := intC) (hi := s.nx) (l := bound3 g ++ ups i) (a := (i : Int) + 1) (v := s.tm 10) (hG.mono (fun u _ h => by simp [app_tk, h]) (Nat.le_refl _)) (by simp) (by simp [slCells, intC]) intC_len (by decide) rfl (by omega) (by omega) (fun del hdel => ?_)
      have hlen : (bound3 g ++ ups i).length + 1 = (bound3 g ++ ups (i + 1)).length := by simp [ups]; omega
      have hsn : bound3 g ++ ups i ++ [(i : Int) + 1] = bound3 g ++ ups (i + 1) := by simp [ups]
      rw [hsn, hlen]
      simp [h50, hw]
      exact ⟨hlt, s.nx + 64 + 64 + 64 + 64 + 64 + 64 + 64, by first | rfl | simp, by simp [app_tk], by first | omega | (simp; omega)⟩
    · have : i = g.ts.length + 1 := by omega
      subst this
      simp [h50, f49, f9, q3]
      refine kS_buildSl (cs := [.int .i64 ((g.ts.length : Int) + 1)]) (by simp [splice]) rfl rfl ?_
      simp
      refine kS_appendT (f := intC) (hi := s.nx) (l := bound3 g ++ ups (g.ts.length + 1)) (a := (g.ts.length : Int) + 1) (v := s.tm 10) (hG.mono (fun u _ h => by simp [app_tk, h]) (Nat.le_refl _)) (by simp) (by simp [slCells, intC]) intC_len (by decide) rfl (by omega) (by omega) (fun del hdel => ?_)
      have hsn : bound3 g ++ ups (g.ts.length + 1) ++ [(g.ts.length : Int) + 1] = boundL g := rfl
      have hlen : (bound3 g ++ ups (g.ts.length + 1)).length + 1 = (boundL g).length := by rw [← hsn]; simp; omega
      rw [hsn, hlen]
      simp
      refine kS_ev (evn19 false (boundL g) (by omega) (boundL_pos g)) (by simp [slOf]) rfl (by simp [slOf]) ?_
      rw [← hR', prV, retA_int2]
      simp
      exact endV_2 (by simp [fd]) (by simp) (by simp) rfl rfl
  · rw [boundR, if_neg he] at hR
    generalize (byP h p).1 = g at *
    generalize (byP h p).2 = e at *
    have he2 : (e == 0) = false := by simpa using he
    have he3 : (e != 0) = true := by simpa using he
    subst hR
    simp [objCells, splice, he3]
    exact endV_2 rfl (by simp) (by simp) rfl rfl
end Go.Pv.T

/- The reference's bound. -/
namespace Go.Pv.T
open Go Go.Pv

theorem not_obj {ob : Nat → Option Obj'} {nx key u : Nat} {l : List Int} {v : V} {x y z : V} (h : IntsAt ob nx l v) (ho : ob key = some ⟨u, .cells [x, y, z]⟩) (hx : ∀ a, x ≠ .int .i64 a) : ¬ isObj v key := by
  rintro ⟨u', n, s, e⟩
  rcases h with ⟨_, h⟩ | ⟨hne, L, w, h1, h2, _, _⟩
  · rw [e] at h; cases h
  · rw [e] at h1
    cases h1
    rw [h2] at ho
    cases l with
    | nil => exact hne rfl
    | cons a l =>
      injection ho with ho
      injection ho with _ ho
      injection ho with ho
      rw [List.flatMap_cons] at ho
      simp [intC] at ho
      exact hx a ho.1.symm
theorem idx_slT {α : Type} {f : α → List V} {k : Nat} (hf : ∀ a, (f a).length = k) (t : Option (Nat × Nat)) (nl : Bool) (l : List α) (kk : IntKind) {i : Nat} (h : i < l.length) : idxSlV k (.sl t nl l.length (l.flatMap f)) (.int kk i) = some (.eptr (l.flatMap f) (i * k)) := idx_slOf hf nl l kk h
theorem IntsAt.mono {ob : Nat → Option Obj'} {nx nx' : Nat} {l : List Int} {v : V} (h : IntsAt ob nx l v) (hn : nx ≤ nx') : IntsAt ob nx' l v := by
  rcases h with h | ⟨hne, L, u, h1, h2, h3, h4⟩
  · exact .inl h
  · exact .inr ⟨hne, L, u, h1, h2, by omega, h4⟩
theorem IntsAt.frame {ob ob' : Nat → Option Obj'} {nx : Nat} {l : List Int} {v : V} (h : IntsAt ob nx l v) (hf : ∀ k, (∀ m, nx ≤ m → k ≠ 2 * m + 1) → ob' k = ob k) : IntsAt ob' nx l v := by
  rcases h with h | ⟨hne, L, u, h1, h2, h3, h4⟩
  · exact .inl h
  · exact .inr ⟨hne, L, u, h1, by rw [hf L (fun m hm => by omega)]; exact h2, h3, h4⟩
theorem kS_65 {Yf : YF} {st : St} {ub : Nat} {K : St → Nat → Prop} {d : Option Nat} {nm : Bool} {xs : List A} {v : V} {n : Int} {many : Nat} {l : List Int} {key ku : Nat} {x y z : V} (hx : xs.map (eval E st.tm) = [v, .int .i64 n, .int .i64 many]) (hm : many ≤ 1000000) (hl : l.length ≤ 2000000) (hv : IntsAt st.ob ub l v) (hr : st.ro = 0)
    (ho : st.ob key = some ⟨ku, .cells [x, y, z]⟩) (hxi : ∀ a, x ≠ .int .i64 a) (hk : ∀ m, ub ≤ m → key ≠ 2 * m + 1)
    (h : ∀ (s1 : St) (v' : V) (ub' : Nat), IntsAt s1.ob ub' (l ++ List.replicate many n) v' → s1.ob key = some ⟨ku, .cells [x, y, z]⟩ → ub ≤ ub' → (∀ t, s1.tm t = if d = some t then v' else st.tm t) → s1.df = st.df → s1.ro = st.ro → s1.fb = st.fb → K s1 ub') : wpStep E Yf ⟨d, .call 65 xs, none, nm⟩ st ub K := by
  obtain ⟨⟨v', ob', tk', ub'⟩, e1, I1, fr1, tk1, nx1⟩ := evs65 (Yf := Yf) (tk := st.tk) (base := ((st.fb + d.getD 0 + 1) * 1024)) (ub := ub) (ob := st.ob) n many hm hl hv
  refine kS_callS hx rfl ⟨⟨v', ob', tk', ub'⟩, ?_, ?_⟩
  · rw [hr]; exact e1
  · simp only at tk1
    subst tk1
    refine h _ v' ub' I1 (by rw [← ho]; exact fr1 key (not_obj hv ho hxi) hk) nx1 (fun t => ?_) rfl rfl rfl
    cases d with
    | none => simp [put]
    | some d => simp [put, upd_apply, eq_comm]
theorem kS_appendI {Yf : YF} {st : St} {ub hi : Nat} {K : St → Nat → Prop} {d : Nat} {l : List Int} {a : Int} {sa xa : A} {key ku : Nat} {x y z : V} (hI : IntsAt st.ob hi l (eval E st.tm sa)) (_hle : hi ≤ ub) (hx : slCells st.ob 1 (eval E st.tm xa) = some [.int .i64 a]) (hr : st.ro = 0) (hll : l.length ≤ 4000000)
    (ho : st.ob key = some ⟨ku, .cells [x, y, z]⟩) (hxi : ∀ a, x ≠ .int .i64 a) (hk : ∀ m, ub ≤ m → key ≠ 2 * m + 1)
    (h : ∀ (s1 : St) (v' : V), IntsAt s1.ob (ub + 64) (l ++ [a]) v' → s1.ob key = some ⟨ku, .cells [x, y, z]⟩ → (∀ t, s1.tm t = if t = d then v' else st.tm t) → s1.df = st.df → s1.ro = st.ro → s1.fb = st.fb → K s1 (ub + 64)) : wpStep E Yf ⟨some d, .append true 1 8 sa xa, none, true⟩ st ub K := by
  have hkn := hk ub (Nat.le_refl _)
  have hno := not_obj hI ho hxi
  rcases hI with ⟨hnil, h0⟩ | ⟨hne, L, u, h0, h2, h3, h4⟩
  · refine kS_appendO_nil (n := 0) (cs := []) (ys := [.int .i64 a]) h0 hx (by simp) (by decide) rfl (by simp) (by simp) ?_
    rw [kApp_app]
    refine h _ _ (.inr ⟨by simp, 2 * ub + 1, ub, ?_, ?_, by omega, rfl⟩) ?_ (fun t => by rw [app_tm]) rfl rfl rfl
    · simp [hnil, objName]
    · simp [hnil, objName, intC, app_ob1]
    · simp [app_ob1, objName]
      rw [if_neg (by omega)]
      exact ho
  · have hkL : key ≠ L := fun e => hno (by rw [h0, e]; exact ⟨u, _, _, rfl⟩)
    refine kS_appendO (l := L) (u := u) (n := l.length) (cs := l.flatMap intC) (ys := [.int .i64 a]) h0 hx h2 (by simp) (by rw [hr]; exact Nat.zero_le _) (by rw [flatMap_len intC_len]; omega) (by decide) rfl (by simp; omega) (by simp; omega) ?_
    rw [kApp_app]
    refine h _ _ (.inr ⟨by simp, 2 * ub + 1, ub, ?_, ?_, by omega, rfl⟩) ?_ (fun t => by rw [app_tm]) rfl rfl rfl
    · simp [objName]
    · simp [objName, intC]
      exact List.take_of_length_le (by rw [flatMap_len intC_len]; omega)
    · simp [objName]
      rw [if_neg (by omega), if_neg hkL]
      exact ho
set_option maxRecDepth 100000 in
theorem ev16 {h : Hist'} (hs : Small h) (p : Int) (hgs : (byR h p).2 = 0 → Small (byR h p).1 ∧ mayH (byR h p).1 = true) : Ev E 16 [.agg (histC h), .int .i64 p] (prV (boundR (byR h p))) := by
  obtain ⟨v, ev, r, rfl, hr⟩ := ev64 hs p
  refine Ev_wpK (af := F16) rfl ?_
  obtain ⟨R, hR⟩ : ∃ R, boundR (byR h p) = R := ⟨_, rfl⟩
  rw [hR]
  simp [F16, histC, objCells]
  refine kS_ev ev (by simp [histC]) rfl (by simp [histC]) ?_
  obtain ⟨a, b, c, add, hret⟩ := retA_hist (ub := 320) (e := (byR h p).2) hr
  rw [hret]
  by_cases he : (byR h p).2 = 0
  · obtain ⟨hg, hm⟩ := hgs he
    have hR' : R = prP 1 (boundL (byR h p).1) := by rw [← hR, boundR, if_pos he]
    clear hR hgs
    rw [he]
    generalize (byR h p).1 = g at *
    have B := bnd_of hg
    have e24 := ev24 hg hm
    have e52 := ev52 g hg.ts
    obtain ⟨vl, evl, nll, hvl⟩ := ev66 hg
    have hts := hg.ts
    clear hret hr ev hs
    simp [objCells, splice]
    refine kS_ev e24 (by simp [histC, slOf]) rfl (by simp [histC, slOf]) ?_
    simp
    refine wpC_gen fun s0 hs0 => ?_
    have b6 : ∃ key u, s0.tm 6 = .ptr key u 0 ∧ s0.ob key = some ⟨u, .cells [.sl a g.sn g.ss.length (g.ss.flatMap strC), .sl b g.kn g.ks.length (g.ks.flatMap strC), .sl c g.tn g.ts.length (g.ts.flatMap txnC)]⟩ ∧ (∀ m, s0.nx ≤ m → key ≠ 2 * m + 1) := by
      subst hs0
      refine ⟨_, _, by simp; exact ⟨rfl, rfl⟩, by simp, by simp; omega⟩
    obtain ⟨key, ku, g6, gob, gk⟩ := b6
    have g8 : s0.tm 8 = .int .i64 (mostH g : Nat) := by subst hs0; simp
    have g9 : s0.tm 9 = .int .i64 0 := by subst hs0; simp
    have g10 : s0.tm 10 = .int .i64 0 := by subst hs0; simp
    have gd : s0.df = [] := by subst hs0; simp
    have gr : s0.ro = 0 := by subst hs0; simp
    have gf : s0.fb = 0 := by subst hs0; simp
    clear hs0
    have q1 : IntKind.i64.wrap ((mostH g : Int) + 2) = (mostH g : Int) + 2 := wrap64' (by have := B.m; omega) (by have := B.m; omega)
    have q2 : IntKind.i64.wrap ((mostH g : Int) + 1) = (mostH g : Int) + 1 := wrap64' (by have := B.m; omega) (by have := B.m; omega)
    have q3 : IntKind.i64.wrap ((g.ts.length : Int) + 1) = (g.ts.length : Int) + 1 := wrap64' (by have := B.t; omega) (by have := B.t; omega)
    have bnd : ∀ i, rcT (g.ts.take i) ≤ 1000000 := fun i => by
      have h1 := rcT_small (l := g.ts.take i) (fun t ht => hg.os t (List.mem_of_mem_take ht))
      have h2 : (g.ts.take i).length ≤ 1000 := by rw [List.length_take]; omega
      have := Nat.mul_le_mul_right 1000 h2
      omega
    refine wp_loopUp [(9, 12), (25, 56)] g.ts.length (fun i s => s.tm 10 = .int .i64 i ∧ s.ob = s0.ob ∧ s.tm 9 = .int .i64 (rcT (g.ts.take i) : Nat) ∧ s0.nx ≤ s.nx) rfl rfl ⟨g10, rfl, by simp [g9, rcT, rc], Nat.le_refl _⟩ ?_
    rintro i s hi ⟨h10, hob, h9, hnx⟩ f
    have f6 : s.tm 6 = .ptr key ku 0 := by rw [f.t 6 (by simp)]; exact g6
    have f8 : s.tm 8 = .int .i64 (mostH g : Nat) := by rw [f.t 8 (by simp)]; exact g8
    have fd : s.df = [] := by rw [f.d]; exact gd
    have fr : s.ro = 0 := by rw [f.r]; exact gr
    have ff : s.fb = 0 := by rw [f.b]; exact gf
    clear f
    have o6 := gob
    rw [← hob] at o6
    by_cases hlt : i < g.ts.length
    · have hw := wrapU hlt (by omega)
      simp [h10, f6, o6, objCells, hlt]
      refine wp_loopUp [(9, 9), (11, 11), (32, 56)] (g.ts[i]).ops.length (fun j s' => s'.tm 11 = .int .i64 j ∧ s'.ob = s0.ob ∧ s'.tm 9 = .int .i64 (rcT (g.ts.take i) + rc ((g.ts[i]).ops.take j) : Nat) ∧ s.nx ≤ s'.nx) rfl rfl ⟨by simp, by simp [hob], by simp [h9, rc], by simp; omega⟩ ?_
      rintro j s' hj ⟨h11, hob', h9', hnx'⟩ f
      have e6 : s'.tm 6 = .ptr key ku 0 := by rw [f.t 6 (by simp)]; simp [f6]
      have e10 : s'.tm 10 = .int .i64 i := by rw [f.t 10 (by simp)]; simp [h10]
      clear f
      have o6' := gob
      rw [← hob'] at o6'
      obtain ⟨t, ht⟩ : ∃ t, g.ts[i] = t := ⟨_, rfl⟩
      have hos := hg.os t (ht ▸ List.getElem_mem hlt)
      have hfo : (g.ts.flatMap txnC)[i * 3 + 2]? = some (slOf t.nl opC t.ops) := by
        rw [fld_at txnC_len g.ts hlt (by decide : 2 < 3), ht]; rfl
      rw [ht] at h9' hj
      have hbi := bnd i
      by_cases hjt : j < t.ops.length
      · have hw' := wrapU hjt (by omega)
        have hrs := rc_succ hjt
        have hrl := rc_le (t.ops.take j)
        rw [List.length_take] at hrl
        obtain ⟨o, ho⟩ : ∃ o, t.ops[j] = o := ⟨_, rfl⟩
        have hfk : (t.ops.flatMap opC)[j * 4]? = some (.bool o.w) := by
          have := fld_at opC_len t.ops hjt (by decide : 0 < 4)
          rw [ho] at this
          exact this
        cases hw0 : o.w
        · rw [hw0] at hfk
          rw [ho, hw0] at hrs
          have hwc : IntKind.i64.wrap (((rcT (g.ts.take i) + rc (t.ops.take j) : Nat) : Int) + 1) = ((rcT (g.ts.take i) + rc (t.ops.take j) : Nat) : Int) + 1 := wrap64' (by omega) (by omega)
          simp [h11, e6, e10, o6', objCells, hlt, idx_slT txnC_len, hfo, hjt, idx_slOf opC_len, hfk, hw', h9']
          rw [Int.natCast_add] at hwc
          simp [hwc, hob', hrs, ht]
          exact ⟨hjt, by omega, by omega⟩
        · rw [hw0] at hfk
          rw [ho, hw0] at hrs
          simp [h11, e6, e10, o6', objCells, hlt, idx_slT txnC_len, hfo, hjt, idx_slOf opC_len, hfk, hw', h9']
          simp [hob', hrs, ht]
          exact ⟨hjt, by omega⟩
      · have : j = t.ops.length := by omega
        subst this
        simp [h11, e6, e10, o6', objCells, hlt, idx_slT txnC_len, hfo, hw, h9']
        have := rcT_succ hlt
        rw [ht] at this
        exact ⟨hob', by rw [this]; simp, by omega⟩
    · have : i = g.ts.length := by omega
      subst this
      rw [List.take_length] at h9
      simp [h10, f6, o6, objCells]
      refine kS_ev e52 (by simp [histC, slOf]) rfl (by simp [histC, slOf]) ?_
      rw [retA_tok]
      simp
      have B1 := B.i
      have B2 := B.l
      have B3 := B.r
      refine kS_65 (v := .sl none true 0 []) (n := 2) (many := (infosH g).length) (l := []) (key := key) (by simp) (by omega) (by simp) (.inl ⟨rfl, rfl⟩) (by simp [fr]) (by simp; exact o6) (by simp) (fun m hm => gk m (by omega)) ?_
      intro s1 v1 ub1 I1 o1 n1 t1 d1 r1 b1
      have p6 : s1.tm 6 = .ptr key ku 0 := by rw [t1]; simp [f6]
      have p8 : s1.tm 8 = .int .i64 (mostH g : Nat) := by rw [t1]; simp [f8]
      have p9 : s1.tm 9 = .int .i64 (rcT g.ts : Nat) := by rw [t1]; simp [h9]
      have p59 : s1.tm 59 = v1 := by rw [t1]; simp
      simp [fd] at d1
      simp [fr] at r1
      simp [ff] at b1
      clear t1
      have g1 : ∀ m, ub1 ≤ m → key ≠ 2 * m + 1 := fun m hm => gk m (by omega)
      clear h10 hob h9 f6 f8 fd fr ff o6 g6 g8 g9 g10 gob gk hnx n1 gd gr gf
      simp [p6, p8, p59, o1, objCells, q1]
      refine kS_ev evl (by simp [histC, slOf]) rfl (by simp [histC]) ?_
      obtain ⟨tl, al, hrl⟩ := retA_sl (ub := ub1 + 64 + 64 + 64 + 64 + 64) hvl
      rw [hrl]
      simp
      refine kS_65 (v := v1) (n := (mostH g : Int) + 2) (many := (lostH g).length) (l := [] ++ List.replicate (infosH g).length 2) (key := key) (by simp) (by omega) (by simp; omega) (by simpa using I1.mono (by omega)) (by simp [r1]) (by simp; exact o1) (by simp) (fun m hm => g1 m (by omega)) ?_
      intro s2 v2 ub2 I2 o2 n2 t2 d2 r2 b2
      have p6' : s2.tm 6 = .ptr key ku 0 := by rw [t2]; simp [p6]
      have p8' : s2.tm 8 = .int .i64 (mostH g : Nat) := by rw [t2]; simp [p8]
      have p9' : s2.tm 9 = .int .i64 (rcT g.ts : Nat) := by rw [t2]; simp [p9]
      have p59' : s2.tm 66 = v2 := by rw [t2]; simp
      simp [d1] at d2
      simp [r1] at r2
      simp [b1] at b2
      clear t2
      have g2 : ∀ m, ub2 ≤ m → key ≠ 2 * m + 1 := fun m hm => g1 m (by omega)
      clear p6 p8 p9 p59 d1 r1 b1 o1 I1 g1 hrl n2
      simp [p8', p9', p59', q2]
      refine kS_65 (v := v2) (n := (mostH g : Int) + 1) (many := rcT g.ts) (l := [] ++ List.replicate (infosH g).length 2 ++ List.replicate (lostH g).length ((mostH g : Int) + 2)) (key := key) (by simp) (by omega) (by simp; omega) (by simpa using I2.mono (by omega)) (by simp [r2]) (by simp; exact o2) (by simp) (fun m hm => g2 m (by omega)) ?_
      intro s3 v3 ub3 I3 o3 n3 t3 d3 r3 b3
      have p6 : s3.tm 6 = .ptr key ku 0 := by rw [t3]; simp [p6']
      have p59 : s3.tm 71 = v3 := by rw [t3]; simp
      simp [d2] at d3
      simp [r2] at r3
      simp [b2] at b3
      clear t3
      have g3 : ∀ m, ub3 ≤ m → key ≠ 2 * m + 1 := fun m hm => g2 m (by omega)
      clear p6' p8' p9' p59' d2 r2 b2 o2 I2 g2 n3
      rw [show [] ++ List.replicate (infosH g).length (2 : Int) ++ List.replicate (lostH g).length ((mostH g : Int) + 2) ++ List.replicate (rcT g.ts) ((mostH g : Int) + 1) = bound3 g from rfl] at I3
      simp [p59]
      have hbl : (bound3 g).length ≤ 2001000 := by rw [bound3_len]; omega
      refine wp_loopUp [(12, 13), (72, 83)] (g.ts.length + 1) (fun i s => s.tm 13 = .int .i64 ((i : Int) + 1) ∧ s.ob key = some ⟨ku, .cells [.sl a g.sn g.ss.length (g.ss.flatMap strC), .sl b g.kn g.ks.length (g.ks.flatMap strC), .sl c g.tn g.ts.length (g.ts.flatMap txnC)]⟩ ∧ IntsAt s.ob s.nx (bound3 g ++ ups i) (s.tm 12) ∧ ub3 ≤ s.nx) rfl rfl ⟨by simp, by simp; exact o3, by simp [ups]; exact I3.mono (by omega), by simp; omega⟩ ?_
      rintro i s hi ⟨h13, ob6, hI, hnx⟩ f
      have f6 : s.tm 6 = .ptr key ku 0 := by rw [f.t 6 (by simp)]; simp [p6]
      have fd : s.df = [] := by rw [f.d]; simp [d3]
      have fr : s.ro = 0 := by rw [f.r]; simp [r3]
      clear f
      have hll : (bound3 g ++ ups i).length ≤ 3000000 := by rw [List.length_append, ups_len]; omega
      by_cases hlt : i < g.ts.length + 1
      · have hw : IntKind.i64.wrap ((i : Int) + 1 + 1) = (i : Int) + 1 + 1 := wrap64' (by omega) (by omega)
        have hltI : (i : Int) + 1 ≤ (g.ts.length : Int) + 1 := by omega
        have nk : ∀ m, s.nx ≤ m → key ≠ 2 * m + 1 := fun m hm => g3 m (by omega)
        simp [h13, f6, ob6, objCells, q3, hltI]
        refine kS_buildSlO (cs := [.int .i64 ((i : Int) + 1)]) (by simp [splice]) rfl rfl ?_
        simp
        refine kS_appendI (hi := s.nx) (l := bound3 g ++ ups i) (a := (i : Int) + 1) (key := key) (ku := ku) (x := .sl a g.sn g.ss.length (g.ss.flatMap strC)) (y := .sl b g.kn g.ks.length (g.ks.flatMap strC)) (z := .sl c g.tn g.ts.length (g.ts.flatMap txnC)) ?_ (by omega) ?_ (by simp [fr]) (by omega) ?_ (by simp) (fun m hm => nk m (by omega)) ?_
        · simp
          exact hI.frame (fun k hk => by simp; intro e; exact absurd e (hk _ (by omega)))
        · simp [slCells, objCells]
        · simp
          rw [if_neg (nk _ (by omega))]
          exact ob6
        intro s4 v4 I4 o4 t4 d4 r4 b4
        have p13 : s4.tm 13 = .int .i64 ((i : Int) + 1) := by rw [t4]; simp [h13]
        have p83 : s4.tm 83 = v4 := by rw [t4]; simp
        clear t4
        simp [p13, p83, hw]
        refine ⟨hlt, o4, ?_, by omega⟩
        rw [show bound3 g ++ ups (i + 1) = bound3 g ++ ups i ++ [(i : Int) + 1] by simp [ups]]
        exact I4.mono (by omega)
      · have : i = g.ts.length + 1 := by omega
        subst this
        have hltI : ¬ ((g.ts.length : Int) + 1) + 1 ≤ (g.ts.length : Int) + 1 := by omega
        simp at h13
        have hltI2 : ¬ ((g.ts.length : Int) + 1) ≤ (g.ts.length : Int) := by omega
        have nk : ∀ m, s.nx ≤ m → key ≠ 2 * m + 1 := fun m hm => g3 m (by omega)
        simp [h13, f6, ob6, objCells, q3, hltI2]
        refine kS_buildSlO (cs := [.int .i64 ((g.ts.length : Int) + 1)]) (by simp [splice]) rfl rfl ?_
        simp
        refine kS_appendI (hi := s.nx) (l := bound3 g ++ ups (g.ts.length + 1)) (a := (g.ts.length : Int) + 1) (key := key) (ku := ku) (x := .sl a g.sn g.ss.length (g.ss.flatMap strC)) (y := .sl b g.kn g.ks.length (g.ks.flatMap strC)) (z := .sl c g.tn g.ts.length (g.ts.flatMap txnC)) ?_ (by omega) ?_ (by simp [fr]) (by omega) ?_ (by simp) (fun m hm => nk m (by omega)) ?_
        · simp
          exact hI.frame (fun k hk => by simp; intro e; exact absurd e (hk _ (by omega)))
        · simp [slCells, objCells]
        · simp
          rw [if_neg (nk _ (by omega))]
          exact ob6
        intro s4 v4 I4 o4 t4 d4 r4 b4
        have p90 : s4.tm 90 = v4 := by rw [t4]; simp
        simp [fd] at d4
        clear t4
        rw [show bound3 g ++ ups (g.ts.length + 1) ++ [(g.ts.length : Int) + 1] = boundL g from rfl] at I4
        have hbll : (boundL g).length ≤ 1000000000 := by
          show (bound3 g ++ ups (g.ts.length + 1) ++ [(g.ts.length : Int) + 1]).length ≤ _
          rw [List.length_append]; simp only [List.length_singleton]; omega
        rcases I4 with ⟨hn, _⟩ | ⟨_, L, u, hv, hL, _, _⟩
        · exfalso; simp [boundL] at hn
        simp
        refine kS_callO (vs := [.osl L u 0 (boundL g).length 1]) (by simp [p90, hv]) rfl (by rfl) (evo20 (boundL g) hL hbll (boundL_pos g) _ _ _) ?_
        rw [← hR', prV, retA_int2]
        simp
        exact endV_2 (by simp [d4]) (by simp) (by simp) rfl rfl
  · rw [boundR, if_neg he] at hR
    generalize (byR h p).1 = g at *
    generalize (byR h p).2 = e at *
    have he2 : (e == 0) = false := by simpa using he
    have he3 : (e != 0) = true := by simpa using he
    subst hR
    simp [objCells, splice, he3]
    exact endV_2 rfl (by simp) (by simp) rfl rfl
end Go.Pv.T

/- Both bounds are the same number. -/
namespace Go.Pv.T
open Go Go.Pv

theorem small_erR {h : Hist'} (hs : Small h) : Small (erR h) := by
  have := erP_small hs
  cases this
  constructor <;> assumption
theorem may_erR {h : Hist'} (hm : mayH h = true) : mayH (erR h) = true := erP_may hm
theorem byR_small {h : Hist'} (hs : Small h) {p : Int} (he : (byR h p).2 = 0) : Small (byR h p).1 ∧ mayH (byR h p).1 = true := by
  unfold byR at he ⊢
  cases hm : mayH h
  · rw [hm] at he; simp at he
  · rw [hm] at he
    simp only [if_true] at he ⊢
    by_cases p1 : p = 1
    · rw [if_pos p1]; exact ⟨hs, hm⟩
    · rw [if_neg p1] at he ⊢
      by_cases p2 : p = 2
      · rw [if_pos p2]; exact ⟨small_erR hs, may_erR hm⟩
      · rw [if_neg p2] at he; simp at he
theorem most_erR (h : Hist') : ∀ i, mostTo (erR h) i = mostTo (erP h) i
  | 0 => rfl
  | i + 1 => by
    show max (mostTo (erR h) i) (writersH (erR h) i).length = max (mostTo (erP h) i) (writersH (erP h) i).length
    rw [most_erR h i]
    rfl
theorem bound_erR (h : Hist') : boundL (erR h) = boundL (erP h) := by
  have hm : mostH (erR h) = mostH (erP h) := most_erR h _
  have hi : infosH (erR h) = infosH (erP h) := rfl
  have hl : lostH (erR h) = lostH (erP h) := rfl
  have ht : (erR h).ts = (erP h).ts := rfl
  unfold boundL bound3
  rw [hm, hi, hl, ht]
theorem bound_by {h : Hist'} (p : Int) : boundR (byR h p) = boundR (byP h p) := by
  unfold byR byP
  cases hm : mayH h
  · simp [boundR]
  · simp only [if_true]
    by_cases p1 : p = 1
    · rw [if_pos p1, if_pos p1]
    · rw [if_neg p1, if_neg p1]
      by_cases p2 : p = 2
      · rw [if_pos p2, if_pos p2, boundR, boundR, if_pos rfl, if_pos rfl, bound_erR]
      · rw [if_neg p2, if_neg p2]
theorem ev16' {h : Hist'} (hs : Small h) (p : Int) : Ev E 16 [.agg (histC h), .int .i64 p] (prV (boundR (byP h p))) := by
  rw [← bound_by]
  exact ev16 hs p (byR_small hs)
end Go.Pv.T

/- Few of a history. -/
namespace Go.Pv.T
open Go Go.Pv

def fewS (n : Nat) (l : List (List UInt8)) : List (List UInt8) := (l.take n).map (·.take 100)
def fewT (t : Txn') : Txn' := { t with nl := false, ops := t.ops.take 25 }
def fewH (h : Hist') : Hist' := { sn := (fewS 25 h.ss).isEmpty, ss := fewS 25 h.ss, kn := (fewS 45 h.ks).isEmpty, ks := fewS 45 h.ks, tn := ((h.ts.take 45).map fewT).isEmpty, ts := (h.ts.take 45).map fewT }
theorem fewS_few (n : Nat) (l : List (List UInt8)) : fewS n (fewS n l) = fewS n l := by
  simp [fewS, ← List.map_take, List.map_map, List.take_take, Function.comp_def]
theorem fewT_few (t : Txn') : fewT (fewT t) = fewT t := by simp [fewT, List.take_take]
theorem fewH_few (h : Hist') : fewH (fewH h) = fewH h := by
  have e : ((fewH h).ts.take 45).map fewT = (fewH h).ts := by
    show (((h.ts.take 45).map fewT).take 45).map fewT = (h.ts.take 45).map fewT
    rw [← List.map_take, List.take_take, List.map_map]
    exact List.map_congr_left fun t _ => fewT_few t
  have e1 : fewS 25 (fewH h).ss = (fewH h).ss := fewS_few 25 h.ss
  have e2 : fewS 45 (fewH h).ks = (fewH h).ks := fewS_few 45 h.ks
  show Hist'.mk _ _ _ _ _ _ = _
  rw [e1, e2, e]
  rfl
theorem small_few (h : Hist') : Small (fewH h) := by
  refine ⟨?_, ?_, ?_, ?_, ?_, ?_⟩
  · show (fewS 25 h.ss).length ≤ 1000
    simp [fewS]; omega
  · intro s hs
    obtain ⟨a, _, rfl⟩ := List.mem_map.1 (show s ∈ fewS 25 h.ss from hs)
    simp; omega
  · show (fewS 45 h.ks).length ≤ 1000
    simp [fewS]; omega
  · intro s hs
    obtain ⟨a, _, rfl⟩ := List.mem_map.1 (show s ∈ fewS 45 h.ks from hs)
    simp; omega
  · show ((h.ts.take 45).map fewT).length ≤ 1000
    simp; omega
  · intro t ht
    obtain ⟨a, _, rfl⟩ := List.mem_map.1 (show t ∈ (h.ts.take 45).map fewT from ht)
    simp [fewT]; omega
theorem fewS_succ {n i : Nat} {l : List (List UInt8)} (hi : i < l.length) (_hn : i < n) : fewS (i + 1) l = fewS i l ++ [(l[i]).take 100] := by
  rw [fewS, List.take_succ_eq_append_getElem hi, List.map_append]; rfl
theorem fewS_end {n : Nat} {l : List (List UInt8)} {i : Nat} (hi : i ≤ l.length) (hn : i ≤ n) (h : ¬ (i < l.length ∧ i < n)) : fewS i l = fewS n l := by
  unfold fewS
  congr 1
  by_cases h1 : i < l.length
  · have : i = n := by omega
    rw [this]
  · rw [List.take_of_length_le (by omega), List.take_of_length_le (by omega)]
end Go.Pv.T

/- Few of a history: the walk. -/
namespace Go.Pv.T
open Go Go.Pv

def tlC : C → C
  | .seq _ b => b
  | c => c
def hdC : C → C
  | .seq a _ => a
  | c => c
def few1C : C := tlC (tlC F14.body)
def few2C : C := tlC few1C
def few3C : C := tlC few2C
def few4C : C := tlC few3C
theorem min_len (n m : Nat) : minmaxV false [.int .i64 (n : Int), .int .i64 (m : Int)] = some (.int .i64 ((min n m : Nat) : Int)) := by
  simp only [minmaxV, minmaxL]
  by_cases h : n ≤ m
  · rw [Nat.min_eq_left h]; simp [minmax2]; omega
  · rw [Nat.min_eq_right (Nat.le_of_not_le h)]; simp [minmax2]; omega
theorem take_min100 (c : List UInt8) : c.take (min c.length 100) = c.take 100 := by
  rcases Nat.le_total c.length 100 with h' | h'
  · rw [Nat.min_eq_left h', List.take_of_length_le (Nat.le_refl _), List.take_of_length_le h']
  · rw [Nat.min_eq_right h']
theorem fewS_len (n : Nat) (l : List (List UInt8)) : (fewS n l).length ≤ n := by simp [fewS]; omega
theorem slStr_to {l : List UInt8} {kk : IntKind} {k : Nat} (h : k ≤ l.length) : slStrV none (some (.int kk (k : Int))) (.str l) = some (.str (l.take k)) := by
  simp [slStrV, bounds, h]
theorem slSl_to {cs : List V} {kk : IntKind} {t : Option (Nat × Nat)} {nl : Bool} {sz n k : Nat} (h : k ≤ n) (hc : cs.length = n * sz) : slSlV sz none (some (.int kk (k : Int))) (.sl t nl n cs) = some (.sl none nl k (cs.take (k * sz))) := by
  simp [slSlV, bounds, h, hc]
structure FewS (h : Hist') (s : St) (a b c N1 N2 : Nat) (Sv Kv Tv : V) : Prop where
  t1 : s.tm 1 = .ptr 2 0 0
  t2 : s.tm 2 = .ptr 4 64 0
  t3 : s.tm 3 = .ptr 6 192 0
  d : s.df = []
  ro : s.ro = 0
  fb : s.fb = 0
  o2 : s.ob 2 = some ⟨0, .cells (histC h)⟩
  o4 : s.ob 4 = some ⟨64, .cells [.sl none true 0 [], .sl none true 0 [], .sl none true 0 []]⟩
  o6 : s.ob 6 = some ⟨192, .cells [Sv, Kv, Tv]⟩
  gS : Grow s.tk 0 N1 strC 1 (fewS a h.ss) Sv
  gK : Grow s.tk N1 N2 strC 1 (fewS b h.ks) Kv
  gT : Grow s.tk N2 s.nx txnC 3 ((h.ts.take c).map fewT) Tv
  n1 : N1 ≤ N2
  n2 : N2 ≤ s.nx
theorem few1_eq : few1C = .seq (hdC few1C) few2C := rfl
set_option maxRecDepth 100000 in
theorem few1 {h : Hist'} {s0 : St} {Q : Ex → St → Prop} (hs : FewS h s0 0 0 0 s0.nx s0.nx (.sl none true 0 []) (.sl none true 0 []) (.sl none true 0 []))
    (hrest : ∀ s Sv, FewS h s 25 0 0 s.nx s.nx Sv (.sl none true 0 []) (.sl none true 0 []) → wpC E noYF few2C s Q) : wpC E noYF few1C s0 Q := by
  rw [few1_eq]
  obtain ⟨f1, f2, f3, fd, fr, fb, o2, o4, o6, gS, gK, gT, n1, n2⟩ := hs
  simp [hdC, few1C, tlC, F14]
  refine wp_loopUp [(4, 4), (9, 37)] 25 (fun i s => s.tm 4 = .int .i64 i ∧ i ≤ h.ss.length ∧ ∃ Sv, FewS h s i 0 0 s.nx s.nx Sv (.sl none true 0 []) (.sl none true 0 [])) rfl rfl ?_ ?_
  · refine ⟨by simp, by simp, .sl none true 0 [], ⟨by simp [f1], by simp [f2], by simp [f3], by simp [fd], by simp [fr], by simp [fb], by simp [o2], by simp [o4], by simp [o6], .inl ⟨rfl, rfl⟩, .inl ⟨rfl, rfl⟩, .inl ⟨rfl, rfl⟩, Nat.le_refl _, Nat.le_refl _⟩⟩
  rintro i s hi ⟨h4, hle, Sv, f1, f2, f3, fd, fr, fb, o2, o4, o6, gS, gK, gT, n1, n2⟩ f
  clear f
  by_cases hlt : i < h.ss.length
  · by_cases hl5 : i < 25
    · have hw := wrapU hl5 (by omega)
      have hl5' : (i : Int) < 25 := by omega
      obtain ⟨c, hc⟩ : ∃ c, h.ss[i] = c := ⟨_, rfl⟩
      have hsi := str_at h.ss hlt
      have hsn := fewS_succ hlt hl5
      rw [hc] at hsi hsn
      have hmn := min_len c.length 100
      have hst := slStr_to (l := c) (kk := .i64) (Nat.min_le_left c.length 100)
      have htk := take_min100 c
      rw [htk] at hst
      rw [show ((100 : Nat) : Int) = 100 from rfl] at hmn
      simp [hmn, hst, h4, f1, o2, objCells, histC, hlt, hl5', f3, o6, idx_slOf strC_len, hsi]
      refine kD_buildSl (cs := [.str (c.take 100)]) (by simp [splice]) rfl rfl ?_
      simp
      refine kD_appendG2 (f := strC) (lo := 0) (hi := s.nx) (l := fewS i h.ss) (a := c.take 100) (v := Sv) (gS.mono (fun u _ _ h => by simp [app_tk, h]) (Nat.le_refl _)) (by simp) (by simp [slCells, strC]) strC_len (by decide) rfl (by have := fewS_len i h.ss; omega) (by have := fewS_len i h.ss; omega) (fun del hdel => ?_)
      have hne : fewS (i + 1) h.ss ≠ [] := by rw [hsn]; simp
      have hlen : (fewS i h.ss).length + 1 = (fewS (i + 1) h.ss).length := by rw [hsn]; simp
      rw [← hsn, hlen]
      simp [f3, o6, objCells, fr, splice, h4, hw]
      refine ⟨by simp [drawOk, indep, disj, fpOf, rdOb, rdTk, lOf, uOf, Delta.wo, Delta.wt], ?_⟩
      refine ⟨hl5, by omega, .sl (some (s.nx + 64 + 64 + 64 + 64 + 64 + 64 + 64 + 64 + 64 + 64 + 64 + 64 + 64 + 64 + 64 + 64 + 64 + 64 + 64 + 64 + 64 + 64 + 64 + 64 + 64, 1)) false (fewS (i + 1) h.ss).length ((fewS (i + 1) h.ss).flatMap strC), ⟨by simp [f1], by simp [f2], by simp [f3], by simp [fd], by simp [fr], by simp [fb], by simp [o2, histC], by simp [o4], by simp, .inr ⟨hne, _, rfl, by simp [app_tk], Nat.zero_le _, by simp⟩, .inl ⟨rfl, rfl⟩, .inl ⟨rfl, rfl⟩, Nat.le_refl _, Nat.le_refl _⟩⟩
    · have hl5' : ¬ (i : Int) < 25 := by omega
      simp [h4, f1, o2, objCells, histC, hlt, hl5']
      refine hrest _ Sv ⟨by simp [f1], by simp [f2], by simp [f3], by simp [fd], by simp [fr], by simp [fb], by simp [o2, histC], by simp [o4], by simp [o6], ?_, .inl ⟨rfl, rfl⟩, .inl ⟨rfl, rfl⟩, Nat.le_refl _, Nat.le_refl _⟩
      rw [← fewS_end hle hi (by omega)]
      simp
      exact gS.mono (fun _ _ _ h => h) (by omega)
  · simp [h4, f1, o2, objCells, histC, hlt]
    refine hrest _ Sv ⟨by simp [f1], by simp [f2], by simp [f3], by simp [fd], by simp [fr], by simp [fb], by simp [o2, histC], by simp [o4], by simp [o6], ?_, .inl ⟨rfl, rfl⟩, .inl ⟨rfl, rfl⟩, Nat.le_refl _, Nat.le_refl _⟩
    rw [← fewS_end hle hi (by omega)]
    simp
    exact gS.mono (fun _ _ _ h => h) (by omega)
end Go.Pv.T

/- Few of a history: the keys. -/
namespace Go.Pv.T
open Go Go.Pv

theorem few2_eq : few2C = .seq (hdC few2C) few3C := rfl
set_option maxRecDepth 100000 in
theorem few2 {h : Hist'} {s0 : St} {Q : Ex → St → Prop} {S0 : V} {N1 : Nat} (hs : FewS h s0 25 0 0 N1 s0.nx S0 (.sl none true 0 []) (.sl none true 0 []))
    (hrest : ∀ s Kv, FewS h s 25 45 0 N1 s.nx S0 Kv (.sl none true 0 []) → wpC E noYF few3C s Q) : wpC E noYF few2C s0 Q := by
  rw [few2_eq]
  obtain ⟨f1, f2, f3, fd, fr, fb, o2, o4, o6, gS, gK, gT, n1, n2⟩ := hs
  simp [hdC, few2C, few1C, tlC, F14]
  refine wp_loopUp [(5, 5), (38, 66)] 45 (fun i s => s.tm 5 = .int .i64 i ∧ i ≤ h.ks.length ∧ ∃ Kv, FewS h s 25 i 0 N1 s.nx S0 Kv (.sl none true 0 [])) rfl rfl ?_ ?_
  · refine ⟨by simp, by simp, .sl none true 0 [], ⟨by simp [f1], by simp [f2], by simp [f3], by simp [fd], by simp [fr], by simp [fb], by simp [o2], by simp [o4], by simp [o6], ?_, .inl ⟨rfl, rfl⟩, .inl ⟨rfl, rfl⟩, by simp; omega, Nat.le_refl _⟩⟩
    simp
    exact gS
  rintro i s hi ⟨h4, hle, Kv, f1, f2, f3, fd, fr, fb, o2, o4, o6, gS, gK, gT, n1, n2⟩ f
  clear f
  by_cases hlt : i < h.ks.length
  · by_cases hl5 : i < 45
    · have hw := wrapU hl5 (by omega)
      have hl5' : (i : Int) < 45 := by omega
      obtain ⟨c, hc⟩ : ∃ c, h.ks[i] = c := ⟨_, rfl⟩
      have hsi := str_at h.ks hlt
      have hsn := fewS_succ hlt hl5
      rw [hc] at hsi hsn
      have hmn := min_len c.length 100
      have hst := slStr_to (l := c) (kk := .i64) (Nat.min_le_left c.length 100)
      have htk := take_min100 c
      rw [htk] at hst
      rw [show ((100 : Nat) : Int) = 100 from rfl] at hmn
      simp [hmn, hst, h4, f1, o2, objCells, histC, hlt, hl5', f3, o6, idx_slOf strC_len, hsi]
      refine kD_buildSl (cs := [.str (c.take 100)]) (by simp [splice]) rfl rfl ?_
      simp
      refine kD_appendG2 (f := strC) (lo := N1) (hi := s.nx) (l := fewS i h.ks) (a := c.take 100) (v := Kv) (gK.mono (fun u _ _ h => by simp [app_tk, h]) (Nat.le_refl _)) (by simp) (by simp [slCells, strC]) strC_len (by decide) rfl (by have := fewS_len i h.ks; omega) (by have := fewS_len i h.ks; omega) (fun del hdel => ?_)
      have hne : fewS (i + 1) h.ks ≠ [] := by rw [hsn]; simp
      have hlen : (fewS i h.ks).length + 1 = (fewS (i + 1) h.ks).length := by rw [hsn]; simp
      have hdN : ∀ u, u < N1 → ¬ del = some u := fun u hu e => by have := (gK.tok_lt _ (hdel u e)).1; omega
      rw [← hsn, hlen]
      simp [f3, o6, objCells, fr, splice, h4, hw]
      refine ⟨by simp [drawOk, indep, disj, fpOf, rdOb, rdTk, lOf, uOf, Delta.wo, Delta.wt], ?_⟩
      refine ⟨hl5, by omega, .sl (some (s.nx + 64 + 64 + 64 + 64 + 64 + 64 + 64 + 64 + 64 + 64 + 64 + 64 + 64 + 64 + 64 + 64 + 64 + 64 + 64 + 64 + 64 + 64 + 64 + 64 + 64, 1)) false (fewS (i + 1) h.ks).length ((fewS (i + 1) h.ks).flatMap strC), ⟨by simp [f1], by simp [f2], by simp [f3], by simp [fd], by simp [fr], by simp [fb], by simp [o2, histC], by simp [o4], by simp, gS.mono (fun u _ hu ht => by simp [app_tk, ht, hdN u hu]) (Nat.le_refl _), .inr ⟨hne, _, rfl, by simp [app_tk], by omega, by simp⟩, .inl ⟨rfl, rfl⟩, by first | omega | (simp; omega), Nat.le_refl _⟩⟩
    · have hl5' : ¬ (i : Int) < 45 := by omega
      simp [h4, f1, o2, objCells, histC, hlt, hl5']
      refine hrest _ Kv ⟨by simp [f1], by simp [f2], by simp [f3], by simp [fd], by simp [fr], by simp [fb], by simp [o2, histC], by simp [o4], by simp [o6], ?_, ?_, .inl ⟨rfl, rfl⟩, by simp; omega, Nat.le_refl _⟩
      · simp
        exact gS
      rw [← fewS_end hle hi (by omega)]
      simp
      exact gK.mono (fun _ _ _ h => h) (by omega)
  · simp [h4, f1, o2, objCells, histC, hlt]
    refine hrest _ Kv ⟨by simp [f1], by simp [f2], by simp [f3], by simp [fd], by simp [fr], by simp [fb], by simp [o2, histC], by simp [o4], by simp [o6], ?_, ?_, .inl ⟨rfl, rfl⟩, by simp; omega, Nat.le_refl _⟩
    · simp
      exact gS
    rw [← fewS_end hle hi (by omega)]
    simp
    exact gK.mono (fun _ _ _ h => h) (by omega)
end Go.Pv.T

/- Few of a history: the transactions. -/
namespace Go.Pv.T
open Go Go.Pv

theorem few3_eq : few3C = .seq (hdC few3C) few4C := rfl
theorem few_end {h : Hist'} {i : Nat} (hi : i ≤ h.ts.length) (hn : i ≤ 45) (hx : ¬ (i < h.ts.length ∧ i < 45)) : (h.ts.take i).map fewT = (h.ts.take 45).map fewT := by
  congr 1
  by_cases h1 : i < h.ts.length
  · have : i = 45 := by omega
    rw [this]
  · rw [List.take_of_length_le (by omega), List.take_of_length_le (by omega)]
theorem take_ops (l : List Op') (k : Nat) : (l.flatMap opC).take (k * 4) = (l.take k).flatMap opC := by
  induction l generalizing k with
  | nil => simp
  | cons a l ih =>
    cases k with
    | zero => simp
    | succ k =>
      rw [List.flatMap_cons, List.take_succ_cons, List.flatMap_cons, Nat.succ_mul, ← ih k]
      show (V.bool a.w :: V.int .i64 a.key :: V.int .i64 a.v.kind :: V.int .i64 a.v.n :: l.flatMap opC).take (k * 4 + 4) = _
      simp [opC]
theorem kS_appendL2 {E : Env} {Yf : YF} {st : St} {ub : Nat} {K : St → Nat → Prop} {d : Option Nat} {nm : Bool} {α : Type} {f : α → List V} {sz bytes u : Nat} {l1 l2 : List α} {s x : A} (hs : eval E st.tm s = .sl (some (u, sz)) false l1.length (l1.flatMap f)) (hu : st.tk u = true) (hle : u ≤ ub) (hx : slCells st.ob sz (eval E st.tm x) = some (l2.flatMap f)) (hf : ∀ a, (f a).length = sz) (h0 : 0 < sz)
    (hp : (l2.flatMap f).all V.pureLeaf = true) (hb : (l1.length + l2.length) * bytes ≤ 140737488355328) (hb2 : l1.length + l2.length ≤ 140737488355328)
    (h : ∀ (u' : Nat) (del : Option Nat) (add : List Nat), u' ≤ ub → (∀ v, del = some v → v = u) → (if u' ∈ add then true else if u' ∈ del.toList then false else st.tk u') = true → kApp K st d ub { v := .sl (some (u', sz)) false (l1 ++ l2).length ((l1 ++ l2).flatMap f), del := del, add := add }) : wpStep E Yf ⟨d, .append false sz bytes s x, none, nm⟩ st ub K := by
  cases l2 with
  | nil =>
    rw [wpStep_of _ rfl rfl]
    simp only [aop, hs, hx, Option.bind_some, List.flatMap_nil, if_true]
    rw [if_pos (by rw [flatMap_len hf]), wpD_one]
    have := h u none [] hle (fun v e => by cases e) (by simpa using hu)
    simpa using this
  | cons a l =>
    have h1 : ((a :: l).flatMap f).length / sz = (a :: l).length := by rw [flatMap_len hf]; exact Nat.mul_div_cancel _ h0
    have hne : (a :: l).flatMap f ≠ [] := fun e => by have := congrArg List.length e; rw [flatMap_len hf] at this; have := Nat.mul_pos (show 0 < (a :: l).length by simp) h0; simp_all
    refine kS_append_tok hs hu hx hne (by rw [flatMap_len hf]) h0 hp (by rw [h1]; exact hb) (by rw [h1]; exact hb2) ?_
    rw [h1, ← List.length_append, ← List.flatMap_append]
    exact h ub (some u) [ub] (Nat.le_refl _) (fun v e => by cases e; rfl) (by simp)
set_option maxRecDepth 100000 in
theorem few3 {h : Hist'} {s0 : St} {Q : Ex → St → Prop} {S0 K0 : V} {N1 N2 : Nat} (hs : FewS h s0 25 45 0 N1 N2 S0 K0 (.sl none true 0 []))
    (hrest : ∀ s Tv, FewS h s 25 45 45 N1 N2 S0 K0 Tv → wpC E noYF few4C s Q) : wpC E noYF few3C s0 Q := by
  rw [few3_eq]
  obtain ⟨f1, f2, f3, fd, fr, fb, o2, o4, o6, gS, gK, gT, n1, n2⟩ := hs
  simp [hdC, few3C, few2C, few1C, tlC, F14]
  refine wp_loopUp [(6, 7), (67, 98)] 45 (fun i s => s.tm 6 = .int .i64 i ∧ i ≤ h.ts.length ∧ ∃ Tv, FewS h s 25 45 i N1 N2 S0 K0 Tv) rfl rfl ?_ ?_
  · refine ⟨by simp, by simp, .sl none true 0 [], ⟨by simp [f1], by simp [f2], by simp [f3], by simp [fd], by simp [fr], by simp [fb], by simp [o2], by simp [o4], by simp [o6], ?_, ?_, .inl ⟨rfl, rfl⟩, n1, by simp; omega⟩⟩
    · simp
      exact gS
    · simp
      exact gK
  rintro i s hi ⟨h4, hle, Tv, f1, f2, f3, fd, fr, fb, o2, o4, o6, gS, gK, gT, n1, n2⟩ f
  clear f
  by_cases hlt : i < h.ts.length
  · by_cases hl5 : i < 45
    · have hw := wrapU hl5 (by omega)
      have hl5' : (i : Int) < 45 := by omega
      obtain ⟨t, ht⟩ : ∃ t, h.ts[i] = t := ⟨_, rfl⟩
      have hmn := min_len t.ops.length 25
      rw [show ((25 : Nat) : Int) = 25 from rfl] at hmn
      have hld := load_slOf txnC_len s.ob h.ts hlt
      rw [ht] at hld
      simp [h4, f1, o2, objCells, histC, hlt, hl5', idx_slOf txnC_len, load_slOf txnC_len, ht, txnC, fr, fb, splice]
      refine kS_buildSl (cs := []) rfl rfl rfl ?_
      have hss := slSl_to (cs := t.ops.flatMap opC) (kk := .i64) (t := none) (nl := t.nl) (sz := 4) (n := t.ops.length) (Nat.min_le_left t.ops.length 25) (by rw [flatMap_len opC_len])
      rw [take_ops] at hss
      have hto : t.ops.take (min t.ops.length 25) = t.ops.take 25 := by
        rcases Nat.le_total t.ops.length 25 with h' | h'
        · rw [Nat.min_eq_left h', List.take_of_length_le (Nat.le_refl _), List.take_of_length_le h']
        · rw [Nat.min_eq_right h']
      rw [hto] at hss
      have hmm : min t.ops.length 25 = (t.ops.take 25).length := by rw [List.length_take, Nat.min_comm]
      rw [hmm] at hss hmn
      replace hss : slSlV 4 none (some (.int .i64 ((t.ops.take 25).length : Int))) (slOf t.nl opC t.ops) = _ := hss
      generalize hL : t.ops.take 25 = L at *
      simp [objCells, hmn, hss]
      have hLl : L.length ≤ 25 := by rw [← hL, List.length_take]; omega
      have hop : (L.flatMap opC).all V.pureLeaf = true := by
        rw [List.all_eq_true]
        intro y hy
        obtain ⟨a, _, ha⟩ := List.mem_flatMap.1 hy
        simp [opC] at ha
        rcases ha with rfl | rfl | rfl | rfl <;> rfl
      refine kS_appendL2 (f := opC) (l1 := []) (l2 := L) (by simp; try rfl) (by simp [app_tk]) (by omega) (by simp [slCells, -List.length_flatMap, flatMap_len opC_len]) opC_len (by decide) hop (by simp; omega) (by simp; omega) ?_
      intro u2 del2 add2 hu2 hd2 htk2
      have hdS : ∀ u, u < s.nx → ¬ del2 = some u := fun u hu e => by have := hd2 u e; omega
      simp [objCells, fr, splice, f3, o6]
      refine kS_buildSl (cs := [.int .i64 t.s, .int .i64 t.f, .sl (some (u2, 4)) false L.length (L.flatMap opC)]) (by simp [splice]) rfl (by simp [-List.length_flatMap]) ?_
      simp
      have hl45 : ((h.ts.take i).map fewT).length ≤ 45 := by rw [List.length_map, List.length_take]; omega
      have hfT : txnC (fewT t) = [.int .i64 t.s, .int .i64 t.f, .sl none false L.length (L.flatMap opC)] := by simp [txnC, fewT, slOf, hL]
      obtain ⟨tT, hTv⟩ := gT.form
      refine kS_appendG (f := txnC) (lo := N2) (hi := s.nx) (l := (h.ts.take i).map fewT) (a := fewT t) (v := Tv) ?_ (by simp) (by simp [slCells, hfT]) txnC_len (by decide) (by simp [hfT, -List.length_flatMap]) (by omega) (by omega) (fun del hdel => ?_)
      · exact gT.mono (fun u _ hu ht => by simp [app_tk, ht, hdS u hu]) (Nat.le_refl _)
      have hdN : ∀ u, u < N2 → ¬ del = some u := fun u hu e => by have := hdel u e; omega
      have hsn : (h.ts.take (i + 1)).map fewT = (h.ts.take i).map fewT ++ [fewT t] := by rw [List.take_succ_eq_append_getElem hlt, ht]; simp
      have hne : (h.ts.take (i + 1)).map fewT ≠ [] := by rw [hsn]; simp
      have hlen : ((h.ts.take i).map fewT).length + 1 = ((h.ts.take (i + 1)).map fewT).length := by rw [hsn]; simp
      rw [← hsn, hlen]
      generalize hM : (h.ts.take (i + 1)).map fewT = M at *
      simp [f3, o6, objCells, fr, splice, h4, hw]
      refine ⟨hl5, by omega, _, ⟨by simp [f1], by simp [f2], by simp [f3], by simp [fd], by simp [fr], by simp [fb], by simp [o2, histC], by simp [o4], by simp; try rfl, gS.mono (fun u _ hu ht => by simp [app_tk, ht, hdS u (by omega), hdN u (by omega)]) (Nat.le_refl _), gK.mono (fun u _ hu ht => by simp [app_tk, ht, hdS u (by omega), hdN u (by omega)]) (Nat.le_refl _), ?_, n1, by first | omega | (simp; omega)⟩⟩
      rw [hM]
      exact .inr ⟨hne, _, rfl, by simp [app_tk], by omega, by first | omega | simp⟩
    · have hl5' : ¬ (i : Int) < 45 := by omega
      simp [h4, f1, o2, objCells, histC, hlt, hl5']
      refine hrest _ Tv ⟨by simp [f1], by simp [f2], by simp [f3], by simp [fd], by simp [fr], by simp [fb], by simp [o2, histC], by simp [o4], by simp [o6], ?_, ?_, ?_, n1, by simp; omega⟩
      · simp
        exact gS
      · simp
        exact gK
      rw [← few_end hle hi (fun hx => by omega)]
      simp [-List.map_take]
      exact gT.mono (fun _ _ _ h => h) (by omega)
  · simp [h4, f1, o2, objCells, histC, hlt]
    refine hrest _ Tv ⟨by simp [f1], by simp [f2], by simp [f3], by simp [fd], by simp [fr], by simp [fb], by simp [o2, histC], by simp [o4], by simp [o6], ?_, ?_, ?_, n1, by simp; omega⟩
    · simp
      exact gS
    · simp
      exact gK
    rw [← few_end hle hi (fun hx => by omega)]
    simp [-List.map_take]
    exact gT.mono (fun _ _ _ h => h) (by omega)
end Go.Pv.T

/- Few of a history: whole. -/
namespace Go.Pv.T
open Go Go.Pv

theorem kE1 {st : St} {p l u : Nat} {x y z : V} {g : Hist'} (hd : st.df = []) (hp : st.tm p = .ptr l u 0) (ho : st.ob l = some ⟨u, .cells [x, y, z]⟩)
    (hx : SlOut st x g.sn g.ss.length (g.ss.flatMap strC)) (hy : SlOut st y g.kn g.ks.length (g.ks.flatMap strC)) (hz : SlOut st z g.tn g.ts.length (g.ts.flatMap txnC)) : kEndE [.cell p (some 3)] (fun r => HistR r g) .ret st := endH1 hd hp ho hx hy hz
set_option maxRecDepth 100000 in
theorem few4 {h : Hist'} {s : St} {N1 N2 : Nat} {S0 K0 T0 : V} (hs : FewS h s 25 45 45 N1 N2 S0 K0 T0) : wpC E noYF few4C s (kEndE [.cell 2 (some 3)] fun r => HistR r (fewH h)) := by
  obtain ⟨f1, f2, f3, fd, fr, fb, o2, o4, o6, gS, gK, gT, n1, n2⟩ := hs
  obtain ⟨T, hTd⟩ : ∃ T, (h.ts.take 45).map fewT = T := ⟨_, rfl⟩
  obtain ⟨S, hSd⟩ : ∃ S, fewS 25 h.ss = S := ⟨_, rfl⟩
  obtain ⟨K, hKd⟩ : ∃ K, fewS 45 h.ks = K := ⟨_, rfl⟩
  have hg : fewH h = ⟨S.isEmpty, S, K.isEmpty, K, T.isEmpty, T⟩ := by rw [← hTd, ← hSd, ← hKd]; rfl
  rw [hTd] at gT
  rw [hSd] at gS
  rw [hKd] at gK
  rw [hg]
  obtain ⟨tS, hS⟩ := gS.form
  obtain ⟨tK, hK⟩ := gK.form
  obtain ⟨tT, hT⟩ := gT.form
  generalize hP : (kEndE [.cell 2 (some 3)] fun r => HistR r ⟨S.isEmpty, S, K.isEmpty, K, T.isEmpty, T⟩) = P
  simp [few4C, few3C, few2C, few1C, tlC, F14, f3, f2, o6, o4, objCells, fr, splice, hS, hK, hT]
  subst hP
  refine kE1 (l := 4) (u := 64) (x := .sl tS S.isEmpty S.length (S.flatMap strC)) (y := .sl tK K.isEmpty K.length (K.flatMap strC)) (z := .sl tT T.isEmpty T.length (T.flatMap txnC)) (by simp [fd]) (by simp [f2]) (by simp) (slOut_sl _ tS _ _ _) (slOut_sl _ tK _ _ _) (slOut_sl _ tT _ _ _)
theorem ev14 (h : Hist') : ∃ r, Ev E 14 [.agg (histC h)] r ∧ HistR r (fewH h) := by
  refine Ev_wpE (af := F14) rfl (by decide) ?_
  show wpC E noYF F14.body _ (kEndE [.cell 2 (some 3)] fun r => HistR r (fewH h))
  generalize hP : (kEndE [.cell 2 (some 3)] fun r => HistR r (fewH h)) = P
  have e : F14.body = .seq (hdC F14.body) (.seq (hdC (tlC F14.body)) few1C) := rfl
  rw [e]
  simp [hdC, tlC, F14, histC, objCells, splice]
  refine few1 (h := h) ⟨by simp, by simp, by simp, by simp, by simp, by simp, by simp [histC], by simp, by simp, .inl ⟨rfl, rfl⟩, .inl ⟨rfl, rfl⟩, .inl ⟨rfl, rfl⟩, Nat.le_refl _, Nat.le_refl _⟩ ?_
  intro s1 Sv h1
  refine few2 h1 ?_
  intro s2 Kv h2
  refine few3 h2 ?_
  intro s3 Tv h3
  rw [← hP]
  exact few4 h3
end Go.Pv.T

/- BoundOf: both bounds are the same. -/
namespace Go.Pv.T
open Go Go.Pv

set_option maxRecDepth 100000 in
theorem ev3_of (ev17 : Ev E 17 [] (.bool true)) (h : Hist') (p : Int) : Ev E 3 [.agg (histC h), .int .i64 p] (.bool true) := by
  obtain ⟨r, ev, hr⟩ := ev14 h
  obtain ⟨r2, ev2, hr2⟩ := ev14 (fewH h)
  rw [fewH_few] at hr2
  have e15 := ev15 (small_few h) p
  have e16 := ev16' (small_few h) p
  refine Ev_wpK (af := F3) rfl ?_
  generalize fewH h = g at *
  obtain ⟨R, hR⟩ : ∃ R, boundR (byP g p) = R := ⟨_, rfl⟩
  rw [hR] at e15 e16
  simp [F3, histC, objCells]
  refine kS_ev ev (by simp [histC]) rfl (by simp [histC]) ?_
  obtain ⟨a, b, c, add, hret⟩ := retA_hist1 (ub := 192) hr
  rw [hret]
  simp [objCells, splice]
  refine kS_ev ev2 (by simp [histC, slOf]) rfl (by simp [histC]) ?_
  obtain ⟨a2, b2, c2, add2, hret2⟩ := retA_hist1 (ub := 384) hr2
  rw [hret2]
  simp
  refine kS_ev e15 (by simp [histC, slOf]) rfl (by simp [histC]) ?_
  rw [prV, retA_int2]
  simp [objCells]
  refine kS_ev e16 (by simp [histC, slOf]) rfl (by simp [histC]) ?_
  rw [prV, retA_int2]
  simp
  refine kS_ev ev17 (by simp) rfl (by simp) ?_
  simp
  exact endV_1 rfl (by simp) rfl
end Go.Pv.T

/- The fixed example, by the kernel; BoundOf. -/
namespace Go.Pv.T
open Go Go.Pv

theorem k17 : (callers E 100 noY).d 17 [] = some (.bool true) := by kernel_rfl
theorem ev3 (h : Hist') (p : Int) : Ev E 3 [.agg (histC h), .int .i64 p] (.bool true) := ev3_of ⟨100, k17⟩ h p
end Go.Pv.T

/- The environment is what the program's code says. -/
namespace Go.Pv.T
open Go Go.Pv Go.Proofs

theorem afOk_of {P : Program} {m r : Bool} {f : FuncId} {fn : Func} {af : AF} (h1 : P.funcs[f]? = some fn) (h2 : compF P m r fn = some af) (h3 : (fn.name == "runtime.NumGoroutine") = false) (h4 : af.body.dstOk fn.ntmps = true) : AfOk P r f af := by
  unfold compF at h2
  cases hb : fn.body with
  | none => rw [hb] at h2; cases h2
  | some c =>
    rw [hb, Option.bind_some] at h2
    cases hc : comp P m r c with
    | none => rw [hc] at h2; cases h2
    | some b =>
      rw [hc, Option.bind_some] at h2
      cases hr : fn.results.toList.mapM (compRes P) with
      | none => rw [hr] at h2; cases h2
      | some res =>
        rw [hr] at h2
        cases h2
        exact ⟨m, fn, c, h1, hb, hc, hr, h3, h4⟩

theorem okc3 : AfOk Tryz.prog false 3 F3 := afOk_of (m := false) Tryz.func3 (by kernel_rfl) (by kernel_rfl) (by kernel_rfl)
theorem okc14 : AfOk Tryz.prog false 14 F14 := afOk_of (m := false) Tryz.func14 (by kernel_rfl) (by kernel_rfl) (by kernel_rfl)
theorem okc15 : AfOk Tryz.prog false 15 F15 := afOk_of (m := false) Tryz.func15 (by kernel_rfl) (by kernel_rfl) (by kernel_rfl)
theorem okc16 : AfOk Tryz.prog false 16 F16 := afOk_of (m := true) Tryz.func16 (by kernel_rfl) (by kernel_rfl) (by kernel_rfl)
theorem okc17 : AfOk Tryz.prog false 17 F17 := afOk_of (m := false) Tryz.func17 (by kernel_rfl) (by kernel_rfl) (by kernel_rfl)
theorem okc19 : AfOk Tryz.prog false 19 F19 := afOk_of (m := false) Tryz.func19 (by kernel_rfl) (by kernel_rfl) (by kernel_rfl)
theorem okc20 : AfOk Tryz.prog false 20 F20 := afOk_of (m := false) Tryz.func20 (by kernel_rfl) (by kernel_rfl) (by kernel_rfl)
theorem okc21 : AfOk Tryz.prog false 21 F21 := afOk_of (m := false) Tryz.func21 (by kernel_rfl) (by kernel_rfl) (by kernel_rfl)
theorem okc22 : AfOk Tryz.prog false 22 F22 := afOk_of (m := false) Tryz.func22 (by kernel_rfl) (by kernel_rfl) (by kernel_rfl)
theorem okc23 : AfOk Tryz.prog false 23 F23 := afOk_of (m := false) Tryz.func23 (by kernel_rfl) (by kernel_rfl) (by kernel_rfl)
theorem okc24 : AfOk Tryz.prog false 24 F24 := afOk_of (m := false) Tryz.func24 (by kernel_rfl) (by kernel_rfl) (by kernel_rfl)
theorem okc32 : AfOk Tryz.prog false 32 F32 := afOk_of (m := true) Tryz.func32 (by kernel_rfl) (by kernel_rfl) (by kernel_rfl)
theorem okc52 : AfOk Tryz.prog false 52 F52 := afOk_of (m := false) Tryz.func52 (by kernel_rfl) (by kernel_rfl) (by kernel_rfl)
theorem okc59 : AfOk Tryz.prog false 59 F59 := afOk_of (m := false) Tryz.func59 (by kernel_rfl) (by kernel_rfl) (by kernel_rfl)
theorem okc60 : AfOk Tryz.prog false 60 F60 := afOk_of (m := false) Tryz.func60 (by kernel_rfl) (by kernel_rfl) (by kernel_rfl)
theorem okc61 : AfOk Tryz.prog false 61 F61 := afOk_of (m := false) Tryz.func61 (by kernel_rfl) (by kernel_rfl) (by kernel_rfl)
theorem okc62 : AfOk Tryz.prog false 62 F62 := afOk_of (m := false) Tryz.func62 (by kernel_rfl) (by kernel_rfl) (by kernel_rfl)
theorem okc63 : AfOk Tryz.prog false 63 F63 := afOk_of (m := false) Tryz.func63 (by kernel_rfl) (by kernel_rfl) (by kernel_rfl)
theorem okc64 : AfOk Tryz.prog false 64 F64 := afOk_of (m := false) Tryz.func64 (by kernel_rfl) (by kernel_rfl) (by kernel_rfl)
theorem okc66 : AfOk Tryz.prog false 66 F66 := afOk_of (m := false) Tryz.func66 (by kernel_rfl) (by kernel_rfl) (by kernel_rfl)
theorem okc67 : AfOk Tryz.prog false 67 F67 := afOk_of (m := false) Tryz.func67 (by kernel_rfl) (by kernel_rfl) (by kernel_rfl)
theorem okc68 : AfOk Tryz.prog false 68 F68 := afOk_of (m := false) Tryz.func68 (by kernel_rfl) (by kernel_rfl) (by kernel_rfl)
theorem okc69 : AfOk Tryz.prog false 69 F69 := afOk_of (m := false) Tryz.func69 (by kernel_rfl) (by kernel_rfl) (by kernel_rfl)
theorem okc70 : AfOk Tryz.prog false 70 F70 := afOk_of (m := false) Tryz.func70 (by kernel_rfl) (by kernel_rfl) (by kernel_rfl)
theorem okc71 : AfOk Tryz.prog false 71 F71 := afOk_of (m := false) Tryz.func71 (by kernel_rfl) (by kernel_rfl) (by kernel_rfl)
theorem okc72 : AfOk Tryz.prog false 72 F72 := afOk_of (m := false) Tryz.func72 (by kernel_rfl) (by kernel_rfl) (by kernel_rfl)
theorem okc73 : AfOk Tryz.prog false 73 F73 := afOk_of (m := false) Tryz.func73 (by kernel_rfl) (by kernel_rfl) (by kernel_rfl)
theorem okc78 : AfOk Tryz.prog false 78 F78 := afOk_of (m := false) Tryz.func78 (by kernel_rfl) (by kernel_rfl) (by kernel_rfl)
theorem okc81 : AfOk Tryz.prog false 81 F81 := afOk_of (m := false) Tryz.func81 (by kernel_rfl) (by kernel_rfl) (by kernel_rfl)
theorem okc98 : AfOk Tryz.prog false 98 F98 := afOk_of (m := false) Tryz.func98 (by kernel_rfl) (by kernel_rfl) (by kernel_rfl)
theorem okc99 : AfOk Tryz.prog false 99 F99 := afOk_of (m := false) Tryz.func99 (by kernel_rfl) (by kernel_rfl) (by kernel_rfl)
theorem okc100 : AfOk Tryz.prog false 100 F100 := afOk_of (m := false) Tryz.func100 (by kernel_rfl) (by kernel_rfl) (by kernel_rfl)
theorem okc101 : AfOk Tryz.prog false 101 F101 := afOk_of (m := false) Tryz.func101 (by kernel_rfl) (by kernel_rfl) (by kernel_rfl)
theorem okc103 : AfOk Tryz.prog false 103 F103 := afOk_of (m := false) Tryz.func103 (by kernel_rfl) (by kernel_rfl) (by kernel_rfl)
theorem okc104 : AfOk Tryz.prog false 104 F104 := afOk_of (m := false) Tryz.func104 (by kernel_rfl) (by kernel_rfl) (by kernel_rfl)
theorem okc105 : AfOk Tryz.prog false 105 F105 := afOk_of (m := true) Tryz.func105 (by kernel_rfl) (by kernel_rfl) (by kernel_rfl)
theorem okc106 : AfOk Tryz.prog false 106 F106 := afOk_of (m := false) Tryz.func106 (by kernel_rfl) (by kernel_rfl) (by kernel_rfl)
theorem okc107 : AfOk Tryz.prog false 107 F107 := afOk_of (m := false) Tryz.func107 (by kernel_rfl) (by kernel_rfl) (by kernel_rfl)
theorem okc108 : AfOk Tryz.prog false 108 F108 := afOk_of (m := false) Tryz.func108 (by kernel_rfl) (by kernel_rfl) (by kernel_rfl)
theorem okc109 : AfOk Tryz.prog false 109 F109 := afOk_of (m := false) Tryz.func109 (by kernel_rfl) (by kernel_rfl) (by kernel_rfl)
theorem okc110 : AfOk Tryz.prog false 110 F110 := afOk_of (m := false) Tryz.func110 (by kernel_rfl) (by kernel_rfl) (by kernel_rfl)
theorem okc111 : AfOk Tryz.prog false 111 F111 := afOk_of (m := false) Tryz.func111 (by kernel_rfl) (by kernel_rfl) (by kernel_rfl)
theorem okc112 : AfOk Tryz.prog false 112 F112 := afOk_of (m := false) Tryz.func112 (by kernel_rfl) (by kernel_rfl) (by kernel_rfl)
theorem okc113 : AfOk Tryz.prog false 113 F113 := afOk_of (m := false) Tryz.func113 (by kernel_rfl) (by kernel_rfl) (by kernel_rfl)
theorem okc114 : AfOk Tryz.prog false 114 F114 := afOk_of (m := false) Tryz.func114 (by kernel_rfl) (by kernel_rfl) (by kernel_rfl)
theorem okc115 : AfOk Tryz.prog false 115 F115 := afOk_of (m := false) Tryz.func115 (by kernel_rfl) (by kernel_rfl) (by kernel_rfl)
theorem okc118 : AfOk Tryz.prog false 118 F118 := afOk_of (m := false) Tryz.func118 (by kernel_rfl) (by kernel_rfl) (by kernel_rfl)
theorem okc119 : AfOk Tryz.prog false 119 F119 := afOk_of (m := false) Tryz.func119 (by kernel_rfl) (by kernel_rfl) (by kernel_rfl)
theorem okc124 : AfOk Tryz.prog false 124 F124 := afOk_of (m := false) Tryz.func124 (by kernel_rfl) (by kernel_rfl) (by kernel_rfl)
theorem okc126 : AfOk Tryz.prog false 126 F126 := afOk_of (m := false) Tryz.func126 (by kernel_rfl) (by kernel_rfl) (by kernel_rfl)
theorem okc127 : AfOk Tryz.prog false 127 F127 := afOk_of (m := false) Tryz.func127 (by kernel_rfl) (by kernel_rfl) (by kernel_rfl)
theorem okc143 : AfOk Tryz.prog false 143 F143 := afOk_of (m := false) Tryz.func143 (by kernel_rfl) (by kernel_rfl) (by kernel_rfl)
theorem okc144 : AfOk Tryz.prog false 144 F144 := afOk_of (m := false) Tryz.func144 (by kernel_rfl) (by kernel_rfl) (by kernel_rfl)
theorem okc145 : AfOk Tryz.prog false 145 F145 := afOk_of (m := false) Tryz.func145 (by kernel_rfl) (by kernel_rfl) (by kernel_rfl)
theorem okc146 : AfOk Tryz.prog false 146 F146 := afOk_of (m := false) Tryz.func146 (by kernel_rfl) (by kernel_rfl) (by kernel_rfl)
theorem okc147 : AfOk Tryz.prog false 147 F147 := afOk_of (m := false) Tryz.func147 (by kernel_rfl) (by kernel_rfl) (by kernel_rfl)
theorem okc148 : AfOk Tryz.prog false 148 F148 := afOk_of (m := false) Tryz.func148 (by kernel_rfl) (by kernel_rfl) (by kernel_rfl)
theorem okc151 : AfOk Tryz.prog false 151 F151 := afOk_of (m := false) Tryz.func151 (by kernel_rfl) (by kernel_rfl) (by kernel_rfl)
theorem okc152 : AfOk Tryz.prog false 152 F152 := afOk_of (m := false) Tryz.func152 (by kernel_rfl) (by kernel_rfl) (by kernel_rfl)
theorem okc153 : AfOk Tryz.prog false 153 F153 := afOk_of (m := false) Tryz.func153 (by kernel_rfl) (by kernel_rfl) (by kernel_rfl)
theorem okc154 : AfOk Tryz.prog false 154 F154 := afOk_of (m := false) Tryz.func154 (by kernel_rfl) (by kernel_rfl) (by kernel_rfl)
theorem okc155 : AfOk Tryz.prog false 155 F155 := afOk_of (m := false) Tryz.func155 (by kernel_rfl) (by kernel_rfl) (by kernel_rfl)
theorem okc156 : AfOk Tryz.prog false 156 F156 := afOk_of (m := false) Tryz.func156 (by kernel_rfl) (by kernel_rfl) (by kernel_rfl)
theorem okc167 : AfOk Tryz.prog false 167 F167 := afOk_of (m := false) Tryz.func167 (by kernel_rfl) (by kernel_rfl) (by kernel_rfl)
theorem okc168 : AfOk Tryz.prog false 168 F168 := afOk_of (m := false) Tryz.func168 (by kernel_rfl) (by kernel_rfl) (by kernel_rfl)
theorem okc169 : AfOk Tryz.prog false 169 F169 := afOk_of (m := false) Tryz.func169 (by kernel_rfl) (by kernel_rfl) (by kernel_rfl)
theorem okc172 : AfOk Tryz.prog false 172 F172 := afOk_of (m := false) Tryz.func172 (by kernel_rfl) (by kernel_rfl) (by kernel_rfl)
theorem okc173 : AfOk Tryz.prog false 173 F173 := afOk_of (m := false) Tryz.func173 (by kernel_rfl) (by kernel_rfl) (by kernel_rfl)
theorem okc174 : AfOk Tryz.prog false 174 F174 := afOk_of (m := false) Tryz.func174 (by kernel_rfl) (by kernel_rfl) (by kernel_rfl)
theorem okc188 : AfOk Tryz.prog false 188 F188 := afOk_of (m := false) Tryz.func188 (by kernel_rfl) (by kernel_rfl) (by kernel_rfl)
theorem okc189 : AfOk Tryz.prog false 189 F189 := afOk_of (m := false) Tryz.func189 (by kernel_rfl) (by kernel_rfl) (by kernel_rfl)
theorem okc190 : AfOk Tryz.prog false 190 F190 := afOk_of (m := false) Tryz.func190 (by kernel_rfl) (by kernel_rfl) (by kernel_rfl)
theorem okc191 : AfOk Tryz.prog false 191 F191 := afOk_of (m := false) Tryz.func191 (by kernel_rfl) (by kernel_rfl) (by kernel_rfl)
theorem okc192 : AfOk Tryz.prog false 192 F192 := afOk_of (m := false) Tryz.func192 (by kernel_rfl) (by kernel_rfl) (by kernel_rfl)
theorem okc193 : AfOk Tryz.prog false 193 F193 := afOk_of (m := false) Tryz.func193 (by kernel_rfl) (by kernel_rfl) (by kernel_rfl)
theorem okc194 : AfOk Tryz.prog false 194 F194 := afOk_of (m := false) Tryz.func194 (by kernel_rfl) (by kernel_rfl) (by kernel_rfl)
theorem okc197 : AfOk Tryz.prog false 197 F197 := afOk_of (m := true) Tryz.func197 (by kernel_rfl) (by kernel_rfl) (by kernel_rfl)
theorem okc198 : AfOk Tryz.prog false 198 F198 := afOk_of (m := false) Tryz.func198 (by kernel_rfl) (by kernel_rfl) (by kernel_rfl)
theorem okc199 : AfOk Tryz.prog false 199 F199 := afOk_of (m := false) Tryz.func199 (by kernel_rfl) (by kernel_rfl) (by kernel_rfl)
theorem okc216 : AfOk Tryz.prog false 216 F216 := afOk_of (m := false) Tryz.func216 (by kernel_rfl) (by kernel_rfl) (by kernel_rfl)
theorem okc224 : AfOk Tryz.prog false 224 F224 := afOk_of (m := false) Tryz.func224 (by kernel_rfl) (by kernel_rfl) (by kernel_rfl)
theorem okc225 : AfOk Tryz.prog false 225 F225 := afOk_of (m := false) Tryz.func225 (by kernel_rfl) (by kernel_rfl) (by kernel_rfl)
theorem okc227 : AfOk Tryz.prog false 227 F227 := afOk_of (m := false) Tryz.func227 (by kernel_rfl) (by kernel_rfl) (by kernel_rfl)
theorem okc228 : AfOk Tryz.prog false 228 F228 := afOk_of (m := false) Tryz.func228 (by kernel_rfl) (by kernel_rfl) (by kernel_rfl)
theorem okc229 : AfOk Tryz.prog false 229 F229 := afOk_of (m := false) Tryz.func229 (by kernel_rfl) (by kernel_rfl) (by kernel_rfl)
theorem okc230 : AfOk Tryz.prog false 230 F230 := afOk_of (m := false) Tryz.func230 (by kernel_rfl) (by kernel_rfl) (by kernel_rfl)
theorem okc231 : AfOk Tryz.prog false 231 F231 := afOk_of (m := false) Tryz.func231 (by kernel_rfl) (by kernel_rfl) (by kernel_rfl)
theorem okc232 : AfOk Tryz.prog false 232 F232 := afOk_of (m := false) Tryz.func232 (by kernel_rfl) (by kernel_rfl) (by kernel_rfl)
theorem okc233 : AfOk Tryz.prog false 233 F233 := afOk_of (m := false) Tryz.func233 (by kernel_rfl) (by kernel_rfl) (by kernel_rfl)
theorem okc235 : AfOk Tryz.prog false 235 F235 := afOk_of (m := false) Tryz.func235 (by kernel_rfl) (by kernel_rfl) (by kernel_rfl)
theorem okc238 : AfOk Tryz.prog false 238 F238 := afOk_of (m := true) Tryz.func238 (by kernel_rfl) (by kernel_rfl) (by kernel_rfl)
theorem okc239 : AfOk Tryz.prog false 239 F239 := afOk_of (m := false) Tryz.func239 (by kernel_rfl) (by kernel_rfl) (by kernel_rfl)
theorem okc247 : AfOk Tryz.prog false 247 F247 := afOk_of (m := false) Tryz.func247 (by kernel_rfl) (by kernel_rfl) (by kernel_rfl)
theorem okc248 : AfOk Tryz.prog false 248 F248 := afOk_of (m := false) Tryz.func248 (by kernel_rfl) (by kernel_rfl) (by kernel_rfl)
theorem okc249 : AfOk Tryz.prog false 249 F249 := afOk_of (m := false) Tryz.func249 (by kernel_rfl) (by kernel_rfl) (by kernel_rfl)
theorem okc251 : AfOk Tryz.prog false 251 F251 := afOk_of (m := false) Tryz.func251 (by kernel_rfl) (by kernel_rfl) (by kernel_rfl)
theorem okc252 : AfOk Tryz.prog false 252 F252 := afOk_of (m := false) Tryz.func252 (by kernel_rfl) (by kernel_rfl) (by kernel_rfl)
theorem okc256 : AfOk Tryz.prog false 256 F256 := afOk_of (m := false) Tryz.func256 (by kernel_rfl) (by kernel_rfl) (by kernel_rfl)
theorem okc261 : AfOk Tryz.prog false 261 F261 := afOk_of (m := false) Tryz.func261 (by kernel_rfl) (by kernel_rfl) (by kernel_rfl)
theorem okc265 : AfOk Tryz.prog false 265 F265 := afOk_of (m := false) Tryz.func265 (by kernel_rfl) (by kernel_rfl) (by kernel_rfl)
theorem okc267 : AfOk Tryz.prog false 267 F267 := afOk_of (m := false) Tryz.func267 (by kernel_rfl) (by kernel_rfl) (by kernel_rfl)
theorem okc280 : AfOk Tryz.prog false 280 F280 := afOk_of (m := false) Tryz.func280 (by kernel_rfl) (by kernel_rfl) (by kernel_rfl)
theorem oks20 : AfOk Tryz.prog true 20 S20 := afOk_of (m := true) Tryz.func20 (by kernel_rfl) (by kernel_rfl) (by kernel_rfl)
theorem oks65 : AfOk Tryz.prog true 65 S65 := afOk_of (m := true) Tryz.func65 (by kernel_rfl) (by kernel_rfl) (by kernel_rfl)
theorem oks82 : AfOk Tryz.prog true 82 S82 := afOk_of (m := true) Tryz.func82 (by kernel_rfl) (by kernel_rfl) (by kernel_rfl)
theorem oks102 : AfOk Tryz.prog true 102 S102 := afOk_of (m := true) Tryz.func102 (by kernel_rfl) (by kernel_rfl) (by kernel_rfl)
theorem oks108 : AfOk Tryz.prog true 108 S108 := afOk_of (m := true) Tryz.func108 (by kernel_rfl) (by kernel_rfl) (by kernel_rfl)
theorem oks109 : AfOk Tryz.prog true 109 S109 := afOk_of (m := true) Tryz.func109 (by kernel_rfl) (by kernel_rfl) (by kernel_rfl)
theorem oks113 : AfOk Tryz.prog true 113 S113 := afOk_of (m := true) Tryz.func113 (by kernel_rfl) (by kernel_rfl) (by kernel_rfl)
theorem oks114 : AfOk Tryz.prog true 114 S114 := afOk_of (m := true) Tryz.func114 (by kernel_rfl) (by kernel_rfl) (by kernel_rfl)
theorem oks115 : AfOk Tryz.prog true 115 S115 := afOk_of (m := true) Tryz.func115 (by kernel_rfl) (by kernel_rfl) (by kernel_rfl)
theorem oks142 : AfOk Tryz.prog true 142 S142 := afOk_of (m := true) Tryz.func142 (by kernel_rfl) (by kernel_rfl) (by kernel_rfl)
theorem oks146 : AfOk Tryz.prog true 146 S146 := afOk_of (m := true) Tryz.func146 (by kernel_rfl) (by kernel_rfl) (by kernel_rfl)
theorem oks149 : AfOk Tryz.prog true 149 S149 := afOk_of (m := true) Tryz.func149 (by kernel_rfl) (by kernel_rfl) (by kernel_rfl)
theorem oks150 : AfOk Tryz.prog true 150 S150 := afOk_of (m := true) Tryz.func150 (by kernel_rfl) (by kernel_rfl) (by kernel_rfl)
theorem oks154 : AfOk Tryz.prog true 154 S154 := afOk_of (m := true) Tryz.func154 (by kernel_rfl) (by kernel_rfl) (by kernel_rfl)
theorem oks156 : AfOk Tryz.prog true 156 S156 := afOk_of (m := true) Tryz.func156 (by kernel_rfl) (by kernel_rfl) (by kernel_rfl)
theorem oks196 : AfOk Tryz.prog true 196 S196 := afOk_of (m := true) Tryz.func196 (by kernel_rfl) (by kernel_rfl) (by kernel_rfl)
theorem oks197 : AfOk Tryz.prog true 197 S197 := afOk_of (m := true) Tryz.func197 (by kernel_rfl) (by kernel_rfl) (by kernel_rfl)
theorem oks236 : AfOk Tryz.prog true 236 S236 := afOk_of (m := true) Tryz.func236 (by kernel_rfl) (by kernel_rfl) (by kernel_rfl)
theorem oks238 : AfOk Tryz.prog true 238 S238 := afOk_of (m := true) Tryz.func238 (by kernel_rfl) (by kernel_rfl) (by kernel_rfl)
theorem oks254 : AfOk Tryz.prog true 254 S254 := afOk_of (m := true) Tryz.func254 (by kernel_rfl) (by kernel_rfl) (by kernel_rfl)
theorem oks255 : AfOk Tryz.prog true 255 S255 := afOk_of (m := true) Tryz.func255 (by kernel_rfl) (by kernel_rfl) (by kernel_rfl)
theorem oks264 : AfOk Tryz.prog true 264 S264 := afOk_of (m := true) Tryz.func264 (by kernel_rfl) (by kernel_rfl) (by kernel_rfl)
theorem oks272 : AfOk Tryz.prog true 272 S272 := afOk_of (m := true) Tryz.func272 (by kernel_rfl) (by kernel_rfl) (by kernel_rfl)
set_option maxRecDepth 100000 in
theorem fcOk_2 {f : FuncId} {af : AF} (h : fc_2 f = some af) : AfOk Tryz.prog false f af := by
  unfold fc_2 at h
  split at h
  · cases h; exact okc267
  · cases h; exact okc280
  · cases h
set_option maxRecDepth 100000 in
theorem fcOk_1 {f : FuncId} {af : AF} (h : fc_1 f = some af) : AfOk Tryz.prog false f af := by
  unfold fc_1 at h
  split at h
  · cases h; exact okc127
  · cases h; exact okc143
  · cases h; exact okc144
  · cases h; exact okc145
  · cases h; exact okc146
  · cases h; exact okc147
  · cases h; exact okc148
  · cases h; exact okc151
  · cases h; exact okc152
  · cases h; exact okc153
  · cases h; exact okc154
  · cases h; exact okc155
  · cases h; exact okc156
  · cases h; exact okc167
  · cases h; exact okc168
  · cases h; exact okc169
  · cases h; exact okc172
  · cases h; exact okc173
  · cases h; exact okc174
  · cases h; exact okc188
  · cases h; exact okc189
  · cases h; exact okc190
  · cases h; exact okc191
  · cases h; exact okc192
  · cases h; exact okc193
  · cases h; exact okc194
  · cases h; exact okc197
  · cases h; exact okc198
  · cases h; exact okc199
  · cases h; exact okc216
  · cases h; exact okc224
  · cases h; exact okc225
  · cases h; exact okc227
  · cases h; exact okc228
  · cases h; exact okc229
  · cases h; exact okc230
  · cases h; exact okc231
  · cases h; exact okc232
  · cases h; exact okc233
  · cases h; exact okc235
  · cases h; exact okc238
  · cases h; exact okc239
  · cases h; exact okc247
  · cases h; exact okc248
  · cases h; exact okc249
  · cases h; exact okc251
  · cases h; exact okc252
  · cases h; exact okc256
  · cases h; exact okc261
  · cases h; exact okc265
  · exact fcOk_2 h
set_option maxRecDepth 100000 in
theorem fcOk_0 {f : FuncId} {af : AF} (h : fc f = some af) : AfOk Tryz.prog false f af := by
  unfold fc at h
  split at h
  · cases h; exact okc3
  · cases h; exact okc14
  · cases h; exact okc15
  · cases h; exact okc16
  · cases h; exact okc17
  · cases h; exact okc19
  · cases h; exact okc20
  · cases h; exact okc21
  · cases h; exact okc22
  · cases h; exact okc23
  · cases h; exact okc24
  · cases h; exact okc32
  · cases h; exact okc52
  · cases h; exact okc59
  · cases h; exact okc60
  · cases h; exact okc61
  · cases h; exact okc62
  · cases h; exact okc63
  · cases h; exact okc64
  · cases h; exact okc66
  · cases h; exact okc67
  · cases h; exact okc68
  · cases h; exact okc69
  · cases h; exact okc70
  · cases h; exact okc71
  · cases h; exact okc72
  · cases h; exact okc73
  · cases h; exact okc78
  · cases h; exact okc81
  · cases h; exact okc98
  · cases h; exact okc99
  · cases h; exact okc100
  · cases h; exact okc101
  · cases h; exact okc103
  · cases h; exact okc104
  · cases h; exact okc105
  · cases h; exact okc106
  · cases h; exact okc107
  · cases h; exact okc108
  · cases h; exact okc109
  · cases h; exact okc110
  · cases h; exact okc111
  · cases h; exact okc112
  · cases h; exact okc113
  · cases h; exact okc114
  · cases h; exact okc115
  · cases h; exact okc118
  · cases h; exact okc119
  · cases h; exact okc124
  · cases h; exact okc126
  · exact fcOk_1 h
set_option maxRecDepth 100000 in
theorem fsOk_0 {f : FuncId} {af : AF} (h : fs f = some af) : AfOk Tryz.prog true f af := by
  unfold fs at h
  split at h
  · cases h; exact oks20
  · cases h; exact oks65
  · cases h; exact oks82
  · cases h; exact oks102
  · cases h; exact oks108
  · cases h; exact oks109
  · cases h; exact oks113
  · cases h; exact oks114
  · cases h; exact oks115
  · cases h; exact oks142
  · cases h; exact oks146
  · cases h; exact oks149
  · cases h; exact oks150
  · cases h; exact oks154
  · cases h; exact oks156
  · cases h; exact oks196
  · cases h; exact oks197
  · cases h; exact oks236
  · cases h; exact oks238
  · cases h; exact oks254
  · cases h; exact oks255
  · cases h; exact oks264
  · cases h; exact oks272
  · cases h
theorem envOk : EnvOk Tryz.prog E := ⟨fun _ _ h => fcOk_0 h, fun _ _ h => fsOk_0 h⟩
end Go.Pv.T

/- The row's side, the same for every law of the seat. -/
namespace Go.Pv.T
open Go Go.Pv Go.Proofs Go.ChangeShapes Go.WideShapes Go.ChangeAt Go.RowKit Go.Proofs.YtopjfnbonjmnjaaGreatDoor

theorem own : ownKnob Tryz.prog.godebug = none := by kernel_rfl
theorem laidOut : laidOutB Tryz.prog = true := by kernel_rfl
theorem mixed : Tryz.prog.follows .mixedOrders = true := by kernel_rfl

/-- What is laid ahead of the call. -/
def laidL : List (String × DataW Unit) := [("unicode/utf8.acceptRanges", Rows.laid_unicode_utf8_acceptRanges), ("deemster/event.words", Rows.laid_deemster_event_words), ("unicode/utf8.first", Rows.laid_unicode_utf8_first)]

def litVal : V → Value
  | .int k n => .int k n
  | .str s => .string ⟨s.toArray⟩
  | _ => .nilFunc
def putCells (h : Array Obj) (g : Nat) (cs : Array Value) : Array Obj := h.modify g fun
    | .cells _ t frozen => .cells cs t frozen
    | o => o
def acceptCells : Array Value := #[.int .u8 128, .int .u8 191, .int .u8 160, .int .u8 191, .int .u8 128, .int .u8 159, .int .u8 144, .int .u8 191, .int .u8 128, .int .u8 143, .int .u8 0, .int .u8 0, .int .u8 0, .int .u8 0, .int .u8 0, .int .u8 0, .int .u8 0, .int .u8 0, .int .u8 0, .int .u8 0, .int .u8 0, .int .u8 0, .int .u8 0, .int .u8 0, .int .u8 0, .int .u8 0, .int .u8 0, .int .u8 0, .int .u8 0, .int .u8 0, .int .u8 0, .int .u8 0]
/-- A start that meets the condition: the settled world, three variables laid. -/
noncomputable def laidWorld (os : Os) : World :=
  let w0 := World.holding Tryz.prog os ⟨#[], #[], []⟩
  { w0 with heap := putCells (putCells (putCells w0.heap 0 (words.map litVal).toArray) 1 (utf8first.map litVal).toArray) 2 acceptCells }
set_option maxRecDepth 100000 in
theorem door_met (os : Os) (args : Array Value) : laidMetH Tryz.prog laidL ((laidWorld os).forCall (fun _ _ => 0) ⟨#[], args, []⟩).memory := by
  rw [MakeChecks.laidMetH_plain _ _ _ (by kernel_rfl)]
  exact laidMet_of_run' 8 (by kernel_rfl) (by kernel_rfl)

theorem gWords : Tryz.prog.globalNamed "deemster/event.words" = some 0 := by kernel_rfl
theorem gFirst : Tryz.prog.globalNamed "unicode/utf8.first" = some 1 := by kernel_rfl
theorem tWords : (Tryz.prog.globals[0]?).map (·.type) = some 274 := by kernel_rfl
theorem tFirst : (Tryz.prog.globals[1]?).map (·.type) = some 286 := by kernel_rfl

/-- What a world's cells say. -/
def cellsI (W : World) : IMap := fun b o => W.cell? ⟨b, o, none⟩
theorem cellsI_ok (W : World) : ImmOk (cellsI W) W := fun _ _ _ h => h

def litV : DataW Unit → V
  | .lit (.int k n) => .int k n
  | .lit (.string s) => .str s
  | _ => .undef

/-- An array of plain cells that reads as listed. -/
theorem arr_rep {W : World} {t e : TypeId} {n fuel : Nat} {cs : List Value} {ds : List (DataW Unit)} {p : List MemPlace} (ht : Tryz.prog.underlying t = some (.array n e)) (hc : Tryz.prog.cellsOf e = 1)
    (he : Tryz.prog.underlying e = some .string ∨ ∃ k, Tryz.prog.underlying e = some (.int k)) (h : DataW.trod (fun _ => ()) Tryz.prog W 0 (fun _ => true) false fuel t cs = some (.agg ds, p)) (I : IMap) :
    ∀ (j : Nat) (d : DataW Unit), ds[j]? = some d → ∃ x, cs[j]? = some x ∧ RepP I x (litV d) := by
  obtain ⟨xs, m, rfl, hx, hlen, hn, hel⟩ := DataW.trod_array ht h
  intro j d hd
  simp only [Prod.mk.injEq, DataW.agg.injEq] at hx
  rw [hx.1, List.getElem?_map] at hd
  cases hy : xs[j]? with
  | none => simp [hy] at hd
  | some y =>
    rw [hy] at hd
    simp only [Option.map_some, Option.some.injEq] at hd
    have hj : j < n := by rw [← hn]; exact (List.getElem?_eq_some_iff.1 hy).1
    have := hel j hj
    rw [hc, Nat.mul_one, hy] at this
    have one : ∀ c, (cs.drop j).take 1 = [c] → cs[j]? = some c := by
      intro c hcc
      have := congrArg List.head? hcc
      simpa [List.head?_take, List.head?_drop] using this
    rcases he with he | ⟨k, he⟩
    · obtain ⟨s, e1, e2, _⟩ := DataW.trod_string he this
      refine ⟨_, one _ e1, ?_⟩
      rw [← hd, e2]
      exact RepP.str s
    · obtain ⟨s, e1, e2, _⟩ := DataW.trod_int he this
      refine ⟨_, one _ e1, ?_⟩
      rw [← hd, e2]
      exact RepP.int k s

theorem gl_rep {W : World} {nm : String} {g : Nat} {cs : Array Value} {ds : List (DataW Unit)} (hg : Tryz.prog.globalNamed nm = some g) (hv : W.var? Tryz.prog nm = some cs) (hp : (ds.map litV).all V.pureLeaf = true)
    (h : ∀ (j : Nat) (d : DataW Unit), ds[j]? = some d → ∃ x, cs.toList[j]? = some x ∧ RepP (cellsI W) x (litV d)) : RepP (cellsI W) (.pointer (some ⟨g, 0, none⟩)) (.eptr (ds.map litV) 0) := by
  have hc := World.var?_cell hg hv
  refine RepP.eptr g 0 0 (ds.map litV) (fun j => (cs[j]?).getD .nilFunc) (fun j hj => ?_) (fun j v hj => ?_) (fun j v hj => ?_)
  · rw [List.length_map] at hj
    obtain ⟨x, hx, _⟩ := h j ds[j] (List.getElem?_eq_getElem hj)
    have hx' : cs[j]? = some x := by simpa using hx
    show W.cell? ⟨g, 0 + j, none⟩ = _
    rw [Nat.zero_add, hc j, hx']
    rfl
  · exact List.all_eq_true.1 hp v (List.mem_of_getElem? hj)
  · rw [List.getElem?_map] at hj
    cases hd : ds[j]? with
    | none => rw [hd] at hj; cases hj
    | some d =>
      rw [hd] at hj
      cases hj
      obtain ⟨x, hx, hr⟩ := h j d hd
      have hx' : cs[j]? = some x := by simpa using hx
      rw [hx']
      exact hr

def aggOf : DataW Unit → List (DataW Unit)
  | .agg l => l
  | _ => []
theorem words_eq : (aggOf Rows.laid_deemster_event_words).map litV = words := by kernel_rfl
theorem first_eq : (aggOf Rows.laid_unicode_utf8_first).map litV = utf8first := by kernel_rfl
theorem first_agg : Rows.laid_unicode_utf8_first = .agg (aggOf Rows.laid_unicode_utf8_first) := by kernel_rfl
theorem words_pure : ((aggOf Rows.laid_deemster_event_words).map litV).all V.pureLeaf = true := by kernel_rfl
theorem first_pure : ((aggOf Rows.laid_unicode_utf8_first).map litV).all V.pureLeaf = true := by kernel_rfl

/-- Behind a call that leaves what was there as it was, each argument reads as it did. -/
theorem all_below {H : Type} {enc : TypeId × Value → H} {W W' : World} (hb : Below W.heap.size W W') : ∀ {ts : List TypeId} {vs : List Value} {ds : List (DataW H)} {ps : List MemPlace},
    (∀ t ∈ ts, Tryz.prog.readableRec t = true ∧ t < Tryz.prog.types.size) → (∀ x ∈ ps, x.block < W.heap.size) →
    DataW.TrodAll enc Tryz.prog W 0 (fun _ => true) true ts vs ds ps → DataW.TrodAll enc Tryz.prog W' 0 (fun b => decide (b < W.heap.size)) true ts vs ds ps
  | [], [], [], _, _, _, h => h
  | t :: ts, v :: vs, d :: ds, _, ht, hlt, ⟨p, q, h1, h2, e⟩ => by
    subst e
    exact ⟨p, q, Below.trod laidOut (ht t (List.mem_cons_self ..)).1 (ht t (List.mem_cons_self ..)).2 h1 hb (fun x hx => hlt x (List.mem_append_left _ hx)),
      all_below hb (fun t' h' => ht t' (List.mem_cons_of_mem _ h')) (fun x hx => hlt x (List.mem_append_right _ hx)) h2, rfl⟩
  | [], _ :: _, _, _, _, _, h => h.elim
  | [], [], _ :: _, _, _, _, h => h.elim
  | _ :: _, [], _, _, _, _, h => h.elim
  | _ :: _, _ :: _, [], _, _, _, h => h.elim

/-- The row's word behind a call that answers true and turns nothing. -/
theorem post_true {H : Type} {enc : TypeId × Value → H} {fn : Func} {s : ChangeSpec} {W W' : World} {args : Array Value} {ds gs : List (DataW H)} {before : List MemPlace} (hW : DataW.Whole enc Tryz.prog fn.params.toList s.vars false W args.toList ds gs before)
    (hv : s.vars = []) (hr : fn.resultTypes = #[4]) (hs : (s.fn H ds).results = [.lit (.bool true)]) (ha : (s.fn H ds).args = ds) (hvs : (s.fn H ds).vars = [])
    (ht : ∀ t ∈ fn.params.toList, Tryz.prog.readableRec t = true ∧ t < Tryz.prog.types.size) (hg : W.grownBy W' none) : s.post enc Tryz.prog fn false true false false W args (.bool true) W' := by
  have hb : Below W.heap.size W W' := (Below.refl _ W).grown hg (Nat.le_refl _) (fun _ h => by cases h)
  have hW' := hW
  obtain ⟨p, q, hA, hV, rfl, _, _⟩ := hW
  rw [hv] at hV
  obtain ⟨rfl, rfl⟩ := trodVars_none hV
  have hlt : ∀ x ∈ p, x.block < W.heap.size := fun x hx => by simpa using hW'.lt x (List.mem_append_left _ hx)
  refine ⟨ds, [], _, [], p, [], hW', ?_, ?_, ?_, hb.frame _, fun h => by cases h⟩
  · rw [List.append_nil, hs, hr]
    exact trodAll_mk1 (shut_bool Tryz.underlying4 _)
  · rw [List.append_nil, ha]
    exact all_below hb ht hlt hA
  · rw [List.append_nil, hvs, hv]
    rfl
end Go.Pv.T

/- Data that come in, of whatever plain type, as the interpreter has them. -/
namespace Go.Pv.T
open Go Go.Pv Go.Proofs Go.ChangeShapes Go.WideShapes Go.ChangeAt Go.RowKit

inductive Ty where
  | bool
  | int (k : IntKind)
  | str
  | unit
  | pair (a b : Ty)
  | slice (t : Ty)

def Ty.cells : Ty → Nat
  | .unit => 0
  | .pair a b => a.cells + b.cells
  | _ => 1

/-- Cells of a shape. -/
inductive Sh : Ty → List V → Prop where
  | bool (b : Bool) : Sh .bool [.bool b]
  | int (k : IntKind) (n : Int) : Sh (.int k) [.int k n]
  | str (s : List UInt8) : Sh .str [.str s]
  | unit : Sh .unit []
  | pair {a b : Ty} {va vb : List V} (ha : Sh a va) (hb : Sh b vb) : Sh (.pair a b) (va ++ vb)
  | nil {t : Ty} : Sh (.slice t) [.sl none true 0 []]
  | slice {t : Ty} (es : List (List V)) (hn : es.length ≤ maxLen) (h : ∀ e ∈ es, Sh t e) : Sh (.slice t) [.sl none false es.length es.flatten]

def fieldsTy (P : Program) (g : TypeId → Option Ty) : List Field → Nat → Option Ty
  | [], _ => some .unit
  | f :: r, off => if f.offset = off then (g f.type).bind fun a => if P.cellsOf f.type = a.cells then (fieldsTy P g r (off + a.cells)).map (.pair a) else none else none
def tyOf (P : Program) : Nat → TypeId → Option Ty
  | 0, _ => none
  | n + 1, t => match P.underlying t with
    | some .bool => some .bool
    | some (.int k) => some (.int k)
    | some .string => some .str
    | some (.slice e) => (tyOf P n e).bind fun ty => if P.cellsOf e = ty.cells then some (.slice ty) else none
    | some (.struct fs) => (fieldsTy P (tyOf P n) fs.toList 0).bind fun ty => if P.cellsOf t = ty.cells then some ty else none
    | _ => none

theorem Sh.len {t : Ty} {vs : List V} (h : Sh t vs) : vs.length = t.cells := by
  induction h with
  | pair _ _ iha ihb => simp [Ty.cells, iha, ihb]
  | _ => rfl
theorem Sh.pure {t : Ty} {vs : List V} (h : Sh t vs) : ∀ v ∈ vs, v.pureLeaf = true := by
  induction h with
  | pair _ _ iha ihb => intro v hv; rcases List.mem_append.1 hv with h | h; exact iha v h; exact ihb v h
  | unit => intro v hv; cases hv
  | _ => intro v hv; rw [List.mem_singleton] at hv; subst hv; rfl

def Reps (I : IMap) (cs : List Value) (vs : List V) : Prop := cs.length = vs.length ∧ ∀ (j : Nat) (x : Value) (v : V), cs[j]? = some x → vs[j]? = some v → RepP I x v

theorem Reps.one {I : IMap} {x : Value} {v : V} (h : RepP I x v) : Reps I [x] [v] :=
  ⟨rfl, fun j y u hj hu => by
    match j, hj, hu with
    | 0, hj, hu => cases hj; cases hu; exact h
    | j + 1, hj, _ => simp at hj⟩

theorem flat_get {α : Type} {sz : Nat} (hs : 0 < sz) : ∀ (es : List (List α)), (∀ e ∈ es, e.length = sz) → ∀ j, es.flatten[j]? = (es[j / sz]?).bind fun e => e[j % sz]?
  | [], _, j => by simp
  | e :: es, h, j => by
    have he := h e (List.mem_cons_self ..)
    rw [List.flatten_cons, List.getElem?_append, he]
    split
    · rename_i hlt
      rw [Nat.div_eq_of_lt hlt, Nat.mod_eq_of_lt hlt]
      rfl
    · rename_i hge
      have hj : j = (j - sz) + sz := by omega
      rw [flat_get hs es (fun e he => h e (List.mem_cons_of_mem _ he)) (j - sz)]
      conv => rhs; rw [hj, Nat.add_div_right _ hs, Nat.add_mod_right]
      rfl
theorem flat_len {α : Type} {sz : Nat} : ∀ (es : List (List α)), (∀ e ∈ es, e.length = sz) → es.flatten.length = es.length * sz
  | [], _ => by simp
  | e :: es, h => by
    rw [List.flatten_cons, List.length_append, h e (List.mem_cons_self ..), flat_len es (fun e he => h e (List.mem_cons_of_mem _ he)), List.length_cons, Nat.succ_mul]
    omega

section
variable {H : Type} {enc : TypeId × Value → H} {W : World} {P : Program}

/-- For each of many there is one: a list of them. -/
theorem pick_list {α : Type} {p : Nat → α → Prop} : ∀ (n : Nat), (∀ i, i < n → ∃ a, p i a) → ∃ l : List α, l.length = n ∧ ∀ i a, l[i]? = some a → p i a
  | 0, _ => ⟨[], rfl, fun i a h => by simp at h⟩
  | n + 1, h => by
    obtain ⟨l, h1, h2⟩ := pick_list n (fun i hi => h i (by omega))
    obtain ⟨a, ha⟩ := h n (by omega)
    refine ⟨l ++ [a], by simp [h1], fun i b hb => ?_⟩
    rw [List.getElem?_append] at hb
    split at hb
    · exact h2 i b hb
    · rename_i hge
      have : i = n := by
        have := (List.getElem?_eq_some_iff.1 hb).1
        simp at this
        omega
      subst this
      simp [h1] at hb
      subst hb
      exact ha

theorem fields_rep {g : TypeId → Option Ty} {n : Nat} {cs : List Value} (ih : ∀ t ty, g t = some ty → ∀ cs x, DataW.trod enc P W 0 (fun _ => true) true n t cs = some x → ∃ vs, Sh ty vs ∧ Reps (cellsI W) cs vs) :
    ∀ (fs : List Field) (off : Nat) (ty : Ty), fieldsTy P g fs off = some ty → (∀ f ∈ fs, ∃ x, DataW.trod enc P W 0 (fun _ => true) true n f.type ((cs.drop f.offset).take (P.cellsOf f.type)) = some x) → cs.length = off + ty.cells →
      ∃ vs, Sh ty vs ∧ Reps (cellsI W) (cs.drop off) vs
  | [], off, ty, h, _, hl => by
    simp only [fieldsTy, Option.some.injEq] at h
    subst h
    simp only [Ty.cells, Nat.add_zero] at hl
    exact ⟨[], .unit, by simp [hl], fun j x v _ hv => by simp at hv⟩
  | f :: r, off, ty, h, hx, hl => by
    simp only [fieldsTy] at h
    split at h
    · rename_i hoff
      cases hg : g f.type with
      | none => rw [hg] at h; cases h
      | some a =>
        rw [hg, Option.bind_some] at h
        split at h
        · rename_i hc
          cases hr : fieldsTy P g r (off + a.cells) with
          | none => rw [hr] at h; cases h
          | some b =>
            rw [hr] at h
            cases h
            simp only [Ty.cells] at hl
            obtain ⟨x, hx0⟩ := hx f (List.mem_cons_self ..)
            obtain ⟨va, ha, hra⟩ := ih f.type a hg _ _ hx0
            obtain ⟨vb, hb, hrb⟩ := fields_rep ih r (off + a.cells) b hr (fun f' hf => hx f' (List.mem_cons_of_mem _ hf)) (by omega)
            refine ⟨va ++ vb, .pair ha hb, ?_, fun j y u hj hu => ?_⟩
            · have := ha.len; have := hb.len
              simp only [List.length_drop, List.length_append]
              omega
            · rw [hoff, hc] at hra
              rw [List.getElem?_append] at hu
              rw [ha.len] at hu
              rw [List.getElem?_drop] at hj
              split at hu
              · rename_i hlt
                exact hra.2 j y u (by rw [List.getElem?_take, if_pos hlt, List.getElem?_drop]; exact hj) hu
              · rename_i hge
                exact hrb.2 (j - a.cells) y u (by rw [List.getElem?_drop, show off + a.cells + (j - a.cells) = off + j from by omega]; exact hj) hu
        · cases h
    · cases h

theorem rep_of : ∀ (n : Nat) (t : TypeId) (ty : Ty), tyOf P n t = some ty → ∀ (fuel : Nat) (cs : List Value) (x : DataW H × List MemPlace), DataW.trod enc P W 0 (fun _ => true) true fuel t cs = some x → ∃ vs, Sh ty vs ∧ Reps (cellsI W) cs vs
  | 0, _, _, h, _, _, _, _ => by cases h
  | n + 1, t, ty, h, fuel, cs, x, hx => by
    simp only [tyOf] at h
    split at h
    · rename_i ht
      cases h
      obtain ⟨b, rfl, _⟩ := DataW.trod_bool ht hx
      exact ⟨_, .bool b, Reps.one (.bool b)⟩
    · rename_i k ht
      cases h
      obtain ⟨b, rfl, _⟩ := DataW.trod_int ht hx
      exact ⟨_, .int k b, Reps.one (.int k b)⟩
    · rename_i ht
      cases h
      obtain ⟨s, rfl, _⟩ := DataW.trod_string ht hx
      exact ⟨_, .str s.data.toList, Reps.one (.str s)⟩
    · rename_i e ht
      cases he : tyOf P n e with
      | none => rw [he] at h; cases h
      | some te =>
        rw [he, Option.bind_some] at h
        split at h
        · rename_i hc
          cases h
          rcases DataW.trod_slice ht hx with ⟨rfl, _⟩ | ⟨a, len, cap, elems, rest, m, _, rfl, _, _, hl, hm, hlen, hel, _, _⟩
          · exact ⟨_, .nil, Reps.one .slnil⟩
          · have each : ∀ i, i < len → ∃ vs, Sh te vs ∧ ∃ c, W.cells? 0 (a.add (i * te.cells)) te.cells = some c ∧ Reps (cellsI W) c vs := by
              intro i hi
              have h1 := hel i hi
              rw [List.getElem?_eq_getElem (by omega), hc] at h1
              obtain ⟨c, hc1, hc2⟩ := Option.bind_eq_some_iff.1 h1
              obtain ⟨vs, h3, h4⟩ := rep_of n e te he m c _ hc2
              exact ⟨vs, h3, c, hc1, h4⟩
            obtain ⟨es, h1, h2⟩ := pick_list len each
            have hsh : ∀ e ∈ es, Sh te e := fun e he => by
              obtain ⟨i, hi⟩ := List.getElem?_of_mem he
              exact (h2 i e hi).1
            have hsz : ∀ e ∈ es, e.length = te.cells := fun e he => (hsh e he).len
            have key : ∀ (j : Nat) (v : V), es.flatten[j]? = some v → 0 < te.cells ∧ j / te.cells < len ∧ ∃ y, W.cell? ((a.add (j / te.cells * te.cells)).add (j % te.cells)) = some y ∧ RepP (cellsI W) y v ∧ v.pureLeaf = true := by
              intro j v hj
              have h0 : 0 < te.cells := by
                rcases Nat.eq_zero_or_pos te.cells with h | h
                · have := flat_len es hsz
                  rw [h, Nat.mul_zero] at this
                  rw [List.length_eq_zero_iff.1 this] at hj
                  simp at hj
                · exact h
              rw [flat_get h0 es hsz] at hj
              cases hee : es[j / te.cells]? with
              | none => rw [hee] at hj; cases hj
              | some e =>
                rw [hee, Option.bind_some] at hj
                have hlt : j / te.cells < len := by rw [← h1]; exact (List.getElem?_eq_some_iff.1 hee).1
                obtain ⟨hse, c, hcc, hrr⟩ := h2 _ e hee
                have hme := Nat.mod_lt j h0
                have hcell := (World.cells?_some hcc).2.2 _ hme
                have hclen : c.length = te.cells := by rw [hrr.1, hse.len]
                rw [List.getElem?_eq_getElem (by omega)] at hcell
                exact ⟨h0, hlt, _, hcell, hrr.2 _ _ v (List.getElem?_eq_getElem (by omega)) hj, hse.pure v (List.mem_of_getElem? hj)⟩
            have spot : es.flatten ≠ [] → a.spot = none := by
              intro hne
              obtain ⟨v, hv⟩ : ∃ v, es.flatten[0]? = some v := by
                cases hf : es.flatten with
                | nil => exact absurd hf hne
                | cons v l => exact ⟨v, rfl⟩
              obtain ⟨h0, _, y, hy, _⟩ := key 0 v hv
              rw [Nat.zero_div, Nat.zero_mod, Nat.zero_mul] at hy
              simpa [Addr.add] using World.cell?_spot hy
            have cellAt : ∀ (j : Nat) (v : V), es.flatten[j]? = some v → ∃ y, W.cell? ⟨a.block, a.off + j, none⟩ = some y ∧ RepP (cellsI W) y v := by
              intro j v hj
              obtain ⟨h0, _, y, hy, hr, _⟩ := key j v hj
              have hs := spot (fun h => by rw [h] at hj; simp at hj)
              obtain ⟨b, off, sp⟩ := a
              simp only at hs
              subst hs
              rw [add_plain, add_plain] at hy
              refine ⟨y, ?_, hr⟩
              rw [← hy, Nat.add_assoc, Nat.div_add_mod']
            rw [← h1] at hl
            refine ⟨_, .slice es (Nat.le_trans hl hm) hsh, Reps.one ?_⟩
            rw [h1] at hl ⊢
            refine RepP.sl a len cap es.flatten (fun j => (W.cell? ⟨a.block, a.off + j, none⟩).getD .nilFunc) spot hl hm (fun j hj => ?_) (fun j v hj => ?_) (fun j v hj => ?_)
            · obtain ⟨y, hy, _⟩ := cellAt j _ (List.getElem?_eq_getElem hj)
              show W.cell? _ = some ((W.cell? _).getD _)
              rw [hy]
              rfl
            · exact (key j v hj).2.2.choose_spec.2.2
            · obtain ⟨y, hy, hr⟩ := cellAt j v hj
              show RepP _ ((W.cell? _).getD _) v
              rw [hy]
              exact hr
        · cases h
    · rename_i fs ht
      cases hf : fieldsTy P (tyOf P n) fs.toList 0 with
      | none => rw [hf] at h; cases h
      | some b =>
        rw [hf, Option.bind_some] at h
        split at h
        · rename_i hc
          cases h
          obtain ⟨xs, m, rfl, _, hl, hn, hel⟩ := DataW.trod_struct ht hx
          have := fields_rep (n := m) (cs := cs) (fun t ty h cs x hx => rep_of n t ty h m cs x hx) fs.toList 0 ty hf (fun f hfm => by
            obtain ⟨i, hi⟩ := List.getElem?_of_mem hfm
            have hi' : fs[i]? = some f := by simpa using hi
            have h1 := hel i f hi'
            have hlt : i < xs.length := by rw [hn]; exact (Array.getElem?_eq_some_iff.1 hi').1
            rw [List.getElem?_eq_getElem hlt] at h1
            exact ⟨_, h1⟩) (by rw [Nat.zero_add, hl, hc])
          simpa using this
        · cases h
    · cases h
end
end Go.Pv.T

/- The laid variables read as the interpreter has them; a call that answers true. -/
namespace Go.Pv.T
open Go Go.Pv Go.Proofs Go.ChangeShapes Go.WideShapes Go.ChangeAt Go.RowKit Go.Proofs.YtopjfnbonjmnjaaGreatDoor

/-- An array of pairs of numbers that reads as listed. -/
theorem arr2_rep {W : World} {t e : TypeId} {n fuel : Nat} {cs : List Value} {ds : List (DataW Unit)} {p : List MemPlace} {f0 f1 : Field} {k0 k1 : IntKind} (ht : Tryz.prog.underlying t = some (.array n e)) (hc : Tryz.prog.cellsOf e = 2)
    (he : Tryz.prog.underlying e = some (.struct #[f0, f1])) (o0 : f0.offset = 0) (o1 : f1.offset = 1) (c0 : Tryz.prog.cellsOf f0.type = 1) (c1 : Tryz.prog.cellsOf f1.type = 1)
    (u0 : Tryz.prog.underlying f0.type = some (.int k0)) (u1 : Tryz.prog.underlying f1.type = some (.int k1)) (h : DataW.trod (fun _ => ()) Tryz.prog W 0 (fun _ => true) false fuel t cs = some (.agg ds, p)) (I : IMap) :
    ∀ (j : Nat) (d : DataW Unit), (ds.map aggOf).flatten[j]? = some d → ∃ x, cs[j]? = some x ∧ RepP I x (litV d) := by
  obtain ⟨xs, m, rfl, hx, hlen, hn, hel⟩ := DataW.trod_array ht h
  simp only [Prod.mk.injEq, DataW.agg.injEq] at hx
  have one : ∀ (l : List Value) (j : Nat) c, (l.drop j).take 1 = [c] → l[j]? = some c := by
    intro l j c hcc
    have := congrArg List.head? hcc
    simpa [List.head?_take, List.head?_drop] using this
  have each : ∀ (j : Nat) (y : DataW Unit × List MemPlace), xs[j]? = some y → ∃ d0 d1 x0 x1, y.1 = .agg [d0, d1] ∧ cs[j * 2]? = some x0 ∧ RepP I x0 (litV d0) ∧ cs[j * 2 + 1]? = some x1 ∧ RepP I x1 (litV d1) := by
    intro j y hy
    have hj : j < n := by rw [← hn]; exact (List.getElem?_eq_some_iff.1 hy).1
    have h2 := hel j hj
    rw [hc, hy] at h2
    obtain ⟨y0, y1, m', e1, hl2, g0, g1⟩ := trod_struct2 he h2
    rw [o0, c0] at g0
    rw [o1, c1] at g1
    obtain ⟨z0, a0, b0, _⟩ := DataW.trod_int u0 g0
    obtain ⟨z1, a1, b1, _⟩ := DataW.trod_int u1 g1
    have q0 := one _ _ _ a0
    have q1 := one _ _ _ a1
    rw [List.getElem?_take, if_pos (by omega), List.getElem?_drop] at q0 q1
    refine ⟨y0.1, y1.1, _, _, by rw [e1], by simpa using q0, ?_, q1, ?_⟩
    · rw [b0]; exact RepP.int k0 z0
    · rw [b1]; exact RepP.int k1 z1
  have hds : ds = xs.map (·.1) := hx.1
  have len2 : ∀ e ∈ ds.map aggOf, e.length = 2 := by
    intro e he
    rw [hds, List.map_map] at he
    obtain ⟨y, hy, rfl⟩ := List.mem_map.1 he
    obtain ⟨j, hj⟩ := List.getElem?_of_mem hy
    obtain ⟨d0, d1, x0, x1, e, _⟩ := each j y hj
    simp only [Function.comp, e, aggOf, List.length_cons, List.length_nil]
  intro k d hd
  rw [flat_get (by decide) _ len2] at hd
  rw [hds, List.map_map, List.getElem?_map] at hd
  cases hy : xs[k / 2]? with
  | none => rw [hy] at hd; cases hd
  | some y =>
    rw [hy] at hd
    obtain ⟨d0, d1, x0, x1, e, g0, r0, g1, r1⟩ := each _ y hy
    simp only [Option.map_some, Option.bind_some, Function.comp, e, aggOf] at hd
    rcases Nat.mod_two_eq_zero_or_one k with hk | hk
    · rw [hk] at hd
      cases hd
      rw [show k / 2 * 2 = k from by omega] at g0
      exact ⟨x0, g0, r0⟩
    · rw [hk] at hd
      cases hd
      rw [show k / 2 * 2 + 1 = k from by omega] at g1
      exact ⟨x1, g1, r1⟩

def accD : List (DataW Unit) := ((aggOf Rows.laid_unicode_utf8_acceptRanges).map aggOf).flatten
theorem gAcc : Tryz.prog.globalNamed "unicode/utf8.acceptRanges" = some 2 := by kernel_rfl
theorem acc_eq : accD.map litV = accR := by kernel_rfl
theorem acc_agg : Rows.laid_unicode_utf8_acceptRanges = .agg (aggOf Rows.laid_unicode_utf8_acceptRanges) := by kernel_rfl
theorem acc_pure : (accD.map litV).all V.pureLeaf = true := by kernel_rfl
theorem tAcc : (Tryz.prog.globals[2]?).map (·.type) = some 289 := by kernel_rfl

theorem glOk {W : World} (h : laidMetH Tryz.prog laidL W) : GlOk E (cellsI W) := by
  rw [MakeChecks.laidMetH_plain _ _ _ (by kernel_rfl)] at h
  obtain ⟨ps, ⟨g2, t2, cs2, f2, p2, q2, hg2, ht2, hv2, hd2, ⟨g0, t0, cs0, f0, p0, q0, hg0, ht0, hv0, hd0, ⟨g1, t1, cs1, f1, p1, q1, hg1, ht1, hv1, hd1, _, _⟩, _⟩, _⟩, _, _⟩ := h
  obtain rfl := Option.some.inj (gWords.symm.trans hg0)
  obtain rfl := Option.some.inj (gFirst.symm.trans hg1)
  obtain rfl := Option.some.inj (tWords.symm.trans ht0)
  obtain rfl := Option.some.inj (tFirst.symm.trans ht1)
  obtain rfl := Option.some.inj (gAcc.symm.trans hg2)
  obtain rfl := Option.some.inj (tAcc.symm.trans ht2)
  intro g cs hcs
  simp only [E] at hcs
  split at hcs
  · cases hcs
    rw [← words_eq]
    exact gl_rep gWords hv0 words_pure (arr_rep Tryz.underlying274 (by kernel_rfl) (Or.inl (by kernel_rfl)) hd0 _)
  · cases hcs
    rw [← first_eq]
    rw [first_agg] at hd1
    exact gl_rep gFirst hv1 first_pure (arr_rep Tryz.underlying286 (by kernel_rfl) (Or.inr ⟨.u8, by kernel_rfl⟩) hd1 _)
  · cases hcs
    rw [← acc_eq]
    rw [acc_agg] at hd2
    exact gl_rep gAcc hv2 acc_pure (arr2_rep (k0 := .u8) (k1 := .u8) Tryz.underlying289 (by kernel_rfl) Tryz.underlying288 rfl rfl (by kernel_rfl) (by kernel_rfl) (by kernel_rfl) (by kernel_rfl) hd2 _)
  · cases hcs


/-- What the call of a law answers, out of the interpreter's word. -/
theorem calls_true {f : FuncId} {W : World} {args : Array Value} {vs : List V} (hL : laidMetH Tryz.prog laidL W) (hlen : args.size = vs.length) (hr : ∀ (j : Nat) (x : Value) (v : V), args[j]? = some x → vs[j]? = some v → RepP (cellsI W) x v)
    (he : Ev E f vs (.bool true)) : Calls Tryz.prog f args W fun e w' => e = .returned (.bool true) ∧ W.grownBy w' none := by
  refine (Ev.sound mixed envOk he W (cellsI W) args (cellsI_ok W) (glOk hL) hlen hr).mono fun e W' ⟨x, τ, I', h1, h2, _, _, _, h3, _⟩ => ⟨?_, h2⟩
  rw [h1]
  have h4 : RepP I' x (.bool true) := h3
  cases h4
  rfl
end Go.Pv.T

/- Histories and other arguments that come in. -/
namespace Go.Pv.T
open Go Go.Pv Go.Proofs Go.ChangeShapes Go.WideShapes Go.ChangeAt Go.RowKit Go.Proofs.YtopjfnbonjmnjaaGreatDoor

abbrev valTy : Ty := .pair (.int .i64) (.pair (.int .i64) .unit)
abbrev opTy : Ty := .pair .bool (.pair (.int .i64) (.pair valTy .unit))
abbrev txnTy : Ty := .pair (.int .i64) (.pair (.int .i64) (.pair (.slice opTy) .unit))
abbrev histTy : Ty := .pair (.slice .str) (.pair (.slice .str) (.pair (.slice txnTy) .unit))

theorem sh_slice {α : Type} {t : Ty} {f : α → List V} (hf : ∀ e, Sh t e → ∃ a, e = f a) {vs : List V} (h : Sh (.slice t) vs) : ∃ nl l, vs = [slOf nl f l] := by
  cases h with
  | nil => exact ⟨true, [], rfl⟩
  | slice es hn h =>
    have all : ∀ es : List (List V), (∀ e ∈ es, Sh t e) → ∃ l : List α, es = l.map f := by
      intro es
      induction es with
      | nil => intro _; exact ⟨[], rfl⟩
      | cons e es ih =>
        intro h
        obtain ⟨a, rfl⟩ := hf e (h e (List.mem_cons_self ..))
        obtain ⟨l, rfl⟩ := ih (fun e he => h e (List.mem_cons_of_mem _ he))
        exact ⟨a :: l, rfl⟩
    obtain ⟨l, rfl⟩ := all es h
    exact ⟨false, l, by simp [slOf, List.flatMap]⟩
theorem sh_val {vs : List V} (h : Sh valTy vs) : ∃ v : Val', vs = valC v := by
  cases h with
  | pair ha hb => cases ha with
    | int _ k => cases hb with
      | pair hc hd => cases hc with
        | int _ n => cases hd; exact ⟨⟨k, n⟩, rfl⟩
theorem sh_op {vs : List V} (h : Sh opTy vs) : ∃ o : Op', vs = opC o := by
  cases h with
  | pair ha hb => cases ha with
    | bool w => cases hb with
      | pair hc hd => cases hc with
        | int _ k => cases hd with
          | pair he hf =>
            obtain ⟨v, rfl⟩ := sh_val he
            cases hf
            exact ⟨⟨w, k, v⟩, rfl⟩
theorem sh_txn {vs : List V} (h : Sh txnTy vs) : ∃ t : Txn', vs = txnC t := by
  cases h with
  | pair ha hb => cases ha with
    | int _ s => cases hb with
      | pair hc hd => cases hc with
        | int _ f => cases hd with
          | pair he hf =>
            obtain ⟨nl, l, rfl⟩ := sh_slice (f := opC) (fun e => sh_op) he
            cases hf
            exact ⟨⟨s, f, nl, l⟩, rfl⟩
theorem sh_str {vs : List V} (h : Sh .str vs) : ∃ s : List UInt8, vs = strC s := by
  cases h with
  | str s => exact ⟨s, rfl⟩
theorem sh_hist {vs : List V} (h : Sh histTy vs) : ∃ g : Hist', vs = histC g := by
  cases h with
  | pair ha hb => cases hb with
    | pair hc hd => cases hd with
      | pair he hf =>
        obtain ⟨n0, l0, rfl⟩ := sh_slice (f := strC) (fun e => sh_str) ha
        obtain ⟨n1, l1, rfl⟩ := sh_slice (f := strC) (fun e => sh_str) hc
        obtain ⟨n2, l2, rfl⟩ := sh_slice (f := txnC) (fun e => sh_txn) he
        cases hf
        exact ⟨⟨n0, l0, n1, l1, n2, l2⟩, rfl⟩

theorem leaf_of_pure {v : V} (h : v.pureLeaf = true) : v.leaf = true := by cases v <;> first | rfl | cases h

section
variable {H : Type} {enc : TypeId × Value → H} {W : World} {v : Value} {d : DataW H} {p : List MemPlace} {base : Nat}
set_option maxRecDepth 100000 in
theorem struct_arg {t : TypeId} {fs : Array Field} {n : Nat} {ty : Ty} (ht : Tryz.prog.underlying t = some (.struct fs)) (hty : tyOf Tryz.prog n t = some ty) (hval : Value.okWide Tryz.prog W .any base t v)
    (h : DataW.Trod enc Tryz.prog W 0 (fun _ => true) true t v d p) : ∃ vs, Sh ty vs ∧ RepP (cellsI W) v (.agg vs) := by
  obtain ⟨cs, rfl, _⟩ := okWide_struct ht hval
  obtain ⟨fuel, hf⟩ := h
  obtain ⟨vs, hs, hr⟩ := rep_of n t ty hty fuel _ _ hf
  refine ⟨vs, hs, RepP.agg cs vs (by simpa [Value.cells] using hr.1) (fun j v hj => leaf_of_pure (hs.pure v (List.mem_of_getElem? hj))) (fun j x v hx hv => hr.2 j x v (by simpa [Value.cells] using hx) hv)⟩
theorem trodAll_two {s t : TypeId} {vs : List Value} {ds : List (DataW H)} {p : List MemPlace} (h : DataW.TrodAll enc Tryz.prog W 0 (fun _ => true) true [s, t] vs ds p) :
    ∃ v0 v1 d0 d1 p0 p1, vs = [v0, v1] ∧ ds = [d0, d1] ∧ DataW.Trod enc Tryz.prog W 0 (fun _ => true) true s v0 d0 p0 ∧ DataW.Trod enc Tryz.prog W 0 (fun _ => true) true t v1 d1 p1 := by
  match vs, ds, h with
  | [v0, v1], [d0, d1], ⟨p0, q, h0, ⟨p1, q', h1, _, _⟩, _⟩ => exact ⟨v0, v1, d0, d1, p0, p1, rfl, rfl, h0, h1⟩
  | [], [], h => exact h.elim
  | [v0], [d0], ⟨_, _, _, h, _⟩ => exact h.elim
  | [], _ :: _, h => exact h.elim
  | _ :: _, [], h => exact h.elim
  | [_], _ :: _ :: _, ⟨_, _, _, h, _⟩ => exact h.elim
  | _ :: _ :: _, [_], ⟨_, _, _, h, _⟩ => exact h.elim
  | _ :: _ :: _ :: _, [_, _], ⟨_, _, _, ⟨_, _, _, h, _⟩, _⟩ => exact h.elim
  | [_, _], _ :: _ :: _ :: _, ⟨_, _, _, ⟨_, _, _, h, _⟩, _⟩ => exact h.elim
  | _ :: _ :: _ :: _, _ :: _ :: _ :: _, ⟨_, _, _, ⟨_, _, _, h, _⟩, _⟩ => exact h.elim
theorem read_ok (ts : List TypeId) (h : (ts.all fun t => Tryz.prog.readableRec t && decide (t < Tryz.prog.types.size)) = true) (t : TypeId) (ht : t ∈ ts) : Tryz.prog.readableRec t = true ∧ t < Tryz.prog.types.size := by
  have := List.all_eq_true.1 h t ht
  simpa using this
set_option maxRecDepth 100000 in
theorem hist_arg (hval : Value.okWide Tryz.prog W .any base 25 v) (h : DataW.Trod enc Tryz.prog W 0 (fun _ => true) true 25 v d p) : ∃ g : Hist', RepP (cellsI W) v (.agg (histC g)) := by
  obtain ⟨vs, hs, hr⟩ := struct_arg (n := 8) (ty := histTy) Tryz.underlying25 (by kernel_rfl) hval h
  obtain ⟨g, rfl⟩ := sh_hist hs
  exact ⟨g, hr⟩
set_option maxRecDepth 100000 in
theorem int_arg (hval : Value.okWide Tryz.prog W .any base 3 v) : ∃ n : Int, RepP (cellsI W) v (.int .i64 n) := by
  obtain ⟨n, rfl⟩ := okWide_int Tryz.underlying3 hval
  exact ⟨n, RepP.int .i64 n⟩
end
end Go.Pv.T
