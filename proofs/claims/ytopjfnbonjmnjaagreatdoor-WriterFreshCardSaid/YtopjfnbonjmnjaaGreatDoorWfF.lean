/- Few of a history: the walk. -/
import Derived.Test.YtopjfnbonjmnjaaGreatDoorWfE
import Derived.Test.YtopjfnbonjmnjaaGreatDoorRows
import Derived.Test.YtopjfnbonjmnjaaGreatDoorTie
import Derived.ProofKit
import Derived.LaidMore
import Derived.OpenShut
import Derived.Stop.Joined
import Derived.SizedLaws
import Derived.Carry
import Derived.Handed
import Derived.ChangeSame
namespace Go.Pv.T
open Go Go.Pv

def tlC : C → C
  | .seq _ b => b
  | c => c
def hdC : C → C
  | .seq a _ => a
  | c => c
def few1C : C := tlC (tlC F14.body)
def few2C : C := tlC few1C
def few3C : C := tlC few2C
def few4C : C := tlC few3C
theorem min_len (n m : Nat) : minmaxV false [.int .i64 (n : Int), .int .i64 (m : Int)] = some (.int .i64 ((min n m : Nat) : Int)) := by
  simp only [minmaxV, minmaxL]
  by_cases h : n ≤ m
  · rw [Nat.min_eq_left h]; simp [minmax2]; omega
  · rw [Nat.min_eq_right (Nat.le_of_not_le h)]; simp [minmax2]; omega
theorem take_min100 (c : List UInt8) : c.take (min c.length 100) = c.take 100 := by
  rcases Nat.le_total c.length 100 with h' | h'
  · rw [Nat.min_eq_left h', List.take_of_length_le (Nat.le_refl _), List.take_of_length_le h']
  · rw [Nat.min_eq_right h']
theorem fewS_len (n : Nat) (l : List (List UInt8)) : (fewS n l).length ≤ n := by simp [fewS]; omega
theorem slStr_to {l : List UInt8} {kk : IntKind} {k : Nat} (h : k ≤ l.length) : slStrV none (some (.int kk (k : Int))) (.str l) = some (.str (l.take k)) := by
  simp [slStrV, bounds, h]
theorem slSl_to {cs : List V} {kk : IntKind} {t : Option (Nat × Nat)} {nl : Bool} {sz n k : Nat} (h : k ≤ n) (hc : cs.length = n * sz) : slSlV sz none (some (.int kk (k : Int))) (.sl t nl n cs) = some (.sl none nl k (cs.take (k * sz))) := by
  simp [slSlV, bounds, h, hc]
structure FewS (h : Hist') (s : St) (a b c N1 N2 : Nat) (Sv Kv Tv : V) : Prop where
  t1 : s.tm 1 = .ptr 2 0 0
  t2 : s.tm 2 = .ptr 4 64 0
  t3 : s.tm 3 = .ptr 6 192 0
  d : s.df = []
  ro : s.ro = 0
  fb : s.fb = 0
  o2 : s.ob 2 = some ⟨0, .cells (histC h)⟩
  o4 : s.ob 4 = some ⟨64, .cells [.sl none true 0 [], .sl none true 0 [], .sl none true 0 []]⟩
  o6 : s.ob 6 = some ⟨192, .cells [Sv, Kv, Tv]⟩
  gS : Grow s.tk 0 N1 strC 1 (fewS a h.ss) Sv
  gK : Grow s.tk N1 N2 strC 1 (fewS b h.ks) Kv
  gT : Grow s.tk N2 s.nx txnC 3 ((h.ts.take c).map fewT) Tv
  n1 : N1 ≤ N2
  n2 : N2 ≤ s.nx
theorem few1_eq : few1C = .seq (hdC few1C) few2C := rfl
set_option maxRecDepth 100000 in
theorem few1 {h : Hist'} {s0 : St} {Q : Ex → St → Prop} (hs : FewS h s0 0 0 0 s0.nx s0.nx (.sl none true 0 []) (.sl none true 0 []) (.sl none true 0 []))
    (hrest : ∀ s Sv, FewS h s 25 0 0 s.nx s.nx Sv (.sl none true 0 []) (.sl none true 0 []) → wpC E noYF few2C s Q) : wpC E noYF few1C s0 Q := by
  rw [few1_eq]
  obtain ⟨f1, f2, f3, fd, fr, fb, o2, o4, o6, gS, gK, gT, n1, n2⟩ := hs
  simp [hdC, few1C, tlC, F14]
  refine wp_loopUp [(4, 4), (9, 37)] 25 (fun i s => s.tm 4 = .int .i64 i ∧ i ≤ h.ss.length ∧ ∃ Sv, FewS h s i 0 0 s.nx s.nx Sv (.sl none true 0 []) (.sl none true 0 [])) rfl rfl ?_ ?_
  · refine ⟨by simp, by simp, .sl none true 0 [], ⟨by simp [f1], by simp [f2], by simp [f3], by simp [fd], by simp [fr], by simp [fb], by simp [o2], by simp [o4], by simp [o6], .inl ⟨rfl, rfl⟩, .inl ⟨rfl, rfl⟩, .inl ⟨rfl, rfl⟩, Nat.le_refl _, Nat.le_refl _⟩⟩
  rintro i s hi ⟨h4, hle, Sv, f1, f2, f3, fd, fr, fb, o2, o4, o6, gS, gK, gT, n1, n2⟩ f
  clear f
  by_cases hlt : i < h.ss.length
  · by_cases hl5 : i < 25
    · have hw := wrapU hl5 (by omega)
      have hl5' : (i : Int) < 25 := by omega
      obtain ⟨c, hc⟩ : ∃ c, h.ss[i] = c := ⟨_, rfl⟩
      have hsi := str_at h.ss hlt
      have hsn := fewS_succ hlt hl5
      rw [hc] at hsi hsn
      have hmn := min_len c.length 100
      have hst := slStr_to (l := c) (kk := .i64) (Nat.min_le_left c.length 100)
      have htk := take_min100 c
      rw [htk] at hst
      rw [show ((100 : Nat) : Int) = 100 from rfl] at hmn
      simp [hmn, hst, h4, f1, o2, objCells, histC, hlt, hl5', f3, o6, idx_slOf strC_len, hsi]
      refine kD_buildSl (cs := [.str (c.take 100)]) (by simp [splice]) rfl rfl ?_
      simp
      refine kD_appendG2 (f := strC) (lo := 0) (hi := s.nx) (l := fewS i h.ss) (a := c.take 100) (v := Sv) (gS.mono (fun u _ _ h => by simp [app_tk, h]) (Nat.le_refl _)) (by simp) (by simp [slCells, strC]) strC_len (by decide) rfl (by have := fewS_len i h.ss; omega) (by have := fewS_len i h.ss; omega) (fun del hdel => ?_)
      have hne : fewS (i + 1) h.ss ≠ [] := by rw [hsn]; simp
      have hlen : (fewS i h.ss).length + 1 = (fewS (i + 1) h.ss).length := by rw [hsn]; simp
      rw [← hsn, hlen]
      simp [f3, o6, objCells, fr, splice, h4, hw]
      refine ⟨by simp [drawOk, indep, disj, fpOf, rdOb, rdTk, lOf, uOf, Delta.wo, Delta.wt], ?_⟩
      refine ⟨hl5, by omega, .sl (some (s.nx + 64 + 64 + 64 + 64 + 64 + 64 + 64 + 64 + 64 + 64 + 64 + 64 + 64 + 64 + 64 + 64 + 64 + 64 + 64 + 64 + 64 + 64 + 64 + 64 + 64, 1)) false (fewS (i + 1) h.ss).length ((fewS (i + 1) h.ss).flatMap strC), ⟨by simp [f1], by simp [f2], by simp [f3], by simp [fd], by simp [fr], by simp [fb], by simp [o2, histC], by simp [o4], by simp, .inr ⟨hne, _, rfl, by simp [app_tk], Nat.zero_le _, by simp⟩, .inl ⟨rfl, rfl⟩, .inl ⟨rfl, rfl⟩, Nat.le_refl _, Nat.le_refl _⟩⟩
    · have hl5' : ¬ (i : Int) < 25 := by omega
      simp [h4, f1, o2, objCells, histC, hlt, hl5']
      refine hrest _ Sv ⟨by simp [f1], by simp [f2], by simp [f3], by simp [fd], by simp [fr], by simp [fb], by simp [o2, histC], by simp [o4], by simp [o6], ?_, .inl ⟨rfl, rfl⟩, .inl ⟨rfl, rfl⟩, Nat.le_refl _, Nat.le_refl _⟩
      rw [← fewS_end hle hi (by omega)]
      simp
      exact gS.mono (fun _ _ _ h => h) (by omega)
  · simp [h4, f1, o2, objCells, histC, hlt]
    refine hrest _ Sv ⟨by simp [f1], by simp [f2], by simp [f3], by simp [fd], by simp [fr], by simp [fb], by simp [o2, histC], by simp [o4], by simp [o6], ?_, .inl ⟨rfl, rfl⟩, .inl ⟨rfl, rfl⟩, Nat.le_refl _, Nat.le_refl _⟩
    rw [← fewS_end hle hi (by omega)]
    simp
    exact gS.mono (fun _ _ _ h => h) (by omega)
end Go.Pv.T

/- Few of a history: the keys. -/
namespace Go.Pv.T
open Go Go.Pv

theorem few2_eq : few2C = .seq (hdC few2C) few3C := rfl
set_option maxRecDepth 100000 in
theorem few2 {h : Hist'} {s0 : St} {Q : Ex → St → Prop} {S0 : V} {N1 : Nat} (hs : FewS h s0 25 0 0 N1 s0.nx S0 (.sl none true 0 []) (.sl none true 0 []))
    (hrest : ∀ s Kv, FewS h s 25 45 0 N1 s.nx S0 Kv (.sl none true 0 []) → wpC E noYF few3C s Q) : wpC E noYF few2C s0 Q := by
  rw [few2_eq]
  obtain ⟨f1, f2, f3, fd, fr, fb, o2, o4, o6, gS, gK, gT, n1, n2⟩ := hs
  simp [hdC, few2C, few1C, tlC, F14]
  refine wp_loopUp [(5, 5), (38, 66)] 45 (fun i s => s.tm 5 = .int .i64 i ∧ i ≤ h.ks.length ∧ ∃ Kv, FewS h s 25 i 0 N1 s.nx S0 Kv (.sl none true 0 [])) rfl rfl ?_ ?_
  · refine ⟨by simp, by simp, .sl none true 0 [], ⟨by simp [f1], by simp [f2], by simp [f3], by simp [fd], by simp [fr], by simp [fb], by simp [o2], by simp [o4], by simp [o6], ?_, .inl ⟨rfl, rfl⟩, .inl ⟨rfl, rfl⟩, by simp; omega, Nat.le_refl _⟩⟩
    simp
    exact gS
  rintro i s hi ⟨h4, hle, Kv, f1, f2, f3, fd, fr, fb, o2, o4, o6, gS, gK, gT, n1, n2⟩ f
  clear f
  by_cases hlt : i < h.ks.length
  · by_cases hl5 : i < 45
    · have hw := wrapU hl5 (by omega)
      have hl5' : (i : Int) < 45 := by omega
      obtain ⟨c, hc⟩ : ∃ c, h.ks[i] = c := ⟨_, rfl⟩
      have hsi := str_at h.ks hlt
      have hsn := fewS_succ hlt hl5
      rw [hc] at hsi hsn
      have hmn := min_len c.length 100
      have hst := slStr_to (l := c) (kk := .i64) (Nat.min_le_left c.length 100)
      have htk := take_min100 c
      rw [htk] at hst
      rw [show ((100 : Nat) : Int) = 100 from rfl] at hmn
      simp [hmn, hst, h4, f1, o2, objCells, histC, hlt, hl5', f3, o6, idx_slOf strC_len, hsi]
      refine kD_buildSl (cs := [.str (c.take 100)]) (by simp [splice]) rfl rfl ?_
      simp
      refine kD_appendG2 (f := strC) (lo := N1) (hi := s.nx) (l := fewS i h.ks) (a := c.take 100) (v := Kv) (gK.mono (fun u _ _ h => by simp [app_tk, h]) (Nat.le_refl _)) (by simp) (by simp [slCells, strC]) strC_len (by decide) rfl (by have := fewS_len i h.ks; omega) (by have := fewS_len i h.ks; omega) (fun del hdel => ?_)
      have hne : fewS (i + 1) h.ks ≠ [] := by rw [hsn]; simp
      have hlen : (fewS i h.ks).length + 1 = (fewS (i + 1) h.ks).length := by rw [hsn]; simp
      have hdN : ∀ u, u < N1 → ¬ del = some u := fun u hu e => by have := (gK.tok_lt _ (hdel u e)).1; omega
      rw [← hsn, hlen]
      simp [f3, o6, objCells, fr, splice, h4, hw]
      refine ⟨by simp [drawOk, indep, disj, fpOf, rdOb, rdTk, lOf, uOf, Delta.wo, Delta.wt], ?_⟩
      refine ⟨hl5, by omega, .sl (some (s.nx + 64 + 64 + 64 + 64 + 64 + 64 + 64 + 64 + 64 + 64 + 64 + 64 + 64 + 64 + 64 + 64 + 64 + 64 + 64 + 64 + 64 + 64 + 64 + 64 + 64, 1)) false (fewS (i + 1) h.ks).length ((fewS (i + 1) h.ks).flatMap strC), ⟨by simp [f1], by simp [f2], by simp [f3], by simp [fd], by simp [fr], by simp [fb], by simp [o2, histC], by simp [o4], by simp, gS.mono (fun u _ hu ht => by simp [app_tk, ht, hdN u hu]) (Nat.le_refl _), .inr ⟨hne, _, rfl, by simp [app_tk], by omega, by simp⟩, .inl ⟨rfl, rfl⟩, by first | omega | (simp; omega), Nat.le_refl _⟩⟩
    · have hl5' : ¬ (i : Int) < 45 := by omega
      simp [h4, f1, o2, objCells, histC, hlt, hl5']
      refine hrest _ Kv ⟨by simp [f1], by simp [f2], by simp [f3], by simp [fd], by simp [fr], by simp [fb], by simp [o2, histC], by simp [o4], by simp [o6], ?_, ?_, .inl ⟨rfl, rfl⟩, by simp; omega, Nat.le_refl _⟩
      · simp
        exact gS
      rw [← fewS_end hle hi (by omega)]
      simp
      exact gK.mono (fun _ _ _ h => h) (by omega)
  · simp [h4, f1, o2, objCells, histC, hlt]
    refine hrest _ Kv ⟨by simp [f1], by simp [f2], by simp [f3], by simp [fd], by simp [fr], by simp [fb], by simp [o2, histC], by simp [o4], by simp [o6], ?_, ?_, .inl ⟨rfl, rfl⟩, by simp; omega, Nat.le_refl _⟩
    · simp
      exact gS
    rw [← fewS_end hle hi (by omega)]
    simp
    exact gK.mono (fun _ _ _ h => h) (by omega)
end Go.Pv.T

/- Few of a history: the transactions. -/
namespace Go.Pv.T
open Go Go.Pv

theorem few3_eq : few3C = .seq (hdC few3C) few4C := rfl
theorem few_end {h : Hist'} {i : Nat} (hi : i ≤ h.ts.length) (hn : i ≤ 45) (hx : ¬ (i < h.ts.length ∧ i < 45)) : (h.ts.take i).map fewT = (h.ts.take 45).map fewT := by
  congr 1
  by_cases h1 : i < h.ts.length
  · have : i = 45 := by omega
    rw [this]
  · rw [List.take_of_length_le (by omega), List.take_of_length_le (by omega)]
theorem take_ops (l : List Op') (k : Nat) : (l.flatMap opC).take (k * 4) = (l.take k).flatMap opC := by
  induction l generalizing k with
  | nil => simp
  | cons a l ih =>
    cases k with
    | zero => simp
    | succ k =>
      rw [List.flatMap_cons, List.take_succ_cons, List.flatMap_cons, Nat.succ_mul, ← ih k]
      show (V.bool a.w :: V.int .i64 a.key :: V.int .i64 a.v.kind :: V.int .i64 a.v.n :: l.flatMap opC).take (k * 4 + 4) = _
      simp [opC]
theorem kS_appendL2 {E : Env} {Yf : YF} {st : St} {ub : Nat} {K : St → Nat → Prop} {d : Option Nat} {nm : Bool} {α : Type} {f : α → List V} {sz bytes u : Nat} {l1 l2 : List α} {s x : A} (hs : eval E st.tm s = .sl (some (u, sz)) false l1.length (l1.flatMap f)) (hu : st.tk u = true) (hle : u ≤ ub) (hx : slCells st.ob sz (eval E st.tm x) = some (l2.flatMap f)) (hf : ∀ a, (f a).length = sz) (h0 : 0 < sz)
    (hp : (l2.flatMap f).all V.pureLeaf = true) (hb : (l1.length + l2.length) * bytes ≤ 140737488355328) (hb2 : l1.length + l2.length ≤ 140737488355328)
    (h : ∀ (u' : Nat) (del : Option Nat) (add : List Nat), u' ≤ ub → (∀ v, del = some v → v = u) → (if u' ∈ add then true else if u' ∈ del.toList then false else st.tk u') = true → kApp K st d ub { v := .sl (some (u', sz)) false (l1 ++ l2).length ((l1 ++ l2).flatMap f), del := del, add := add }) : wpStep E Yf ⟨d, .append false sz bytes s x, none, nm⟩ st ub K := by
  cases l2 with
  | nil =>
    rw [wpStep_of _ rfl rfl]
    simp only [aop, hs, hx, Option.bind_some, List.flatMap_nil, if_true]
    rw [if_pos (by rw [flatMap_len hf]), wpD_one]
    have := h u none [] hle (fun v e => by cases e) (by simpa using hu)
    simpa using this
  | cons a l =>
    have h1 : ((a :: l).flatMap f).length / sz = (a :: l).length := by rw [flatMap_len hf]; exact Nat.mul_div_cancel _ h0
    have hne : (a :: l).flatMap f ≠ [] := fun e => by have := congrArg List.length e; rw [flatMap_len hf] at this; have := Nat.mul_pos (show 0 < (a :: l).length by simp) h0; simp_all
    refine kS_append_tok hs hu hx hne (by rw [flatMap_len hf]) h0 hp (by rw [h1]; exact hb) (by rw [h1]; exact hb2) ?_
    rw [h1, ← List.length_append, ← List.flatMap_append]
    exact h ub (some u) [ub] (Nat.le_refl _) (fun v e => by cases e; rfl) (by simp)
set_option maxRecDepth 100000 in
theorem few3 {h : Hist'} {s0 : St} {Q : Ex → St → Prop} {S0 K0 : V} {N1 N2 : Nat} (hs : FewS h s0 25 45 0 N1 N2 S0 K0 (.sl none true 0 []))
    (hrest : ∀ s Tv, FewS h s 25 45 45 N1 N2 S0 K0 Tv → wpC E noYF few4C s Q) : wpC E noYF few3C s0 Q := by
  rw [few3_eq]
  obtain ⟨f1, f2, f3, fd, fr, fb, o2, o4, o6, gS, gK, gT, n1, n2⟩ := hs
  simp [hdC, few3C, few2C, few1C, tlC, F14]
  refine wp_loopUp [(6, 7), (67, 98)] 45 (fun i s => s.tm 6 = .int .i64 i ∧ i ≤ h.ts.length ∧ ∃ Tv, FewS h s 25 45 i N1 N2 S0 K0 Tv) rfl rfl ?_ ?_
  · refine ⟨by simp, by simp, .sl none true 0 [], ⟨by simp [f1], by simp [f2], by simp [f3], by simp [fd], by simp [fr], by simp [fb], by simp [o2], by simp [o4], by simp [o6], ?_, ?_, .inl ⟨rfl, rfl⟩, n1, by simp; omega⟩⟩
    · simp
      exact gS
    · simp
      exact gK
  rintro i s hi ⟨h4, hle, Tv, f1, f2, f3, fd, fr, fb, o2, o4, o6, gS, gK, gT, n1, n2⟩ f
  clear f
  by_cases hlt : i < h.ts.length
  · by_cases hl5 : i < 45
    · have hw := wrapU hl5 (by omega)
      have hl5' : (i : Int) < 45 := by omega
      obtain ⟨t, ht⟩ : ∃ t, h.ts[i] = t := ⟨_, rfl⟩
      have hmn := min_len t.ops.length 25
      rw [show ((25 : Nat) : Int) = 25 from rfl] at hmn
      have hld := load_slOf txnC_len s.ob h.ts hlt
      rw [ht] at hld
      simp [h4, f1, o2, objCells, histC, hlt, hl5', idx_slOf txnC_len, load_slOf txnC_len, ht, txnC, fr, fb, splice]
      refine kS_buildSl (cs := []) rfl rfl rfl ?_
      have hss := slSl_to (cs := t.ops.flatMap opC) (kk := .i64) (t := none) (nl := t.nl) (sz := 4) (n := t.ops.length) (Nat.min_le_left t.ops.length 25) (by rw [flatMap_len opC_len])
      rw [take_ops] at hss
      have hto : t.ops.take (min t.ops.length 25) = t.ops.take 25 := by
        rcases Nat.le_total t.ops.length 25 with h' | h'
        · rw [Nat.min_eq_left h', List.take_of_length_le (Nat.le_refl _), List.take_of_length_le h']
        · rw [Nat.min_eq_right h']
      rw [hto] at hss
      have hmm : min t.ops.length 25 = (t.ops.take 25).length := by rw [List.length_take, Nat.min_comm]
      rw [hmm] at hss hmn
      replace hss : slSlV 4 none (some (.int .i64 ((t.ops.take 25).length : Int))) (slOf t.nl opC t.ops) = _ := hss
      generalize hL : t.ops.take 25 = L at *
      simp [objCells, hmn, hss]
      have hLl : L.length ≤ 25 := by rw [← hL, List.length_take]; omega
      have hop : (L.flatMap opC).all V.pureLeaf = true := by
        rw [List.all_eq_true]
        intro y hy
        obtain ⟨a, _, ha⟩ := List.mem_flatMap.1 hy
        simp [opC] at ha
        rcases ha with rfl | rfl | rfl | rfl <;> rfl
      refine kS_appendL2 (f := opC) (l1 := []) (l2 := L) (by simp; try rfl) (by simp [app_tk]) (by omega) (by simp [slCells, -List.length_flatMap, flatMap_len opC_len]) opC_len (by decide) hop (by simp; omega) (by simp; omega) ?_
      intro u2 del2 add2 hu2 hd2 htk2
      have hdS : ∀ u, u < s.nx → ¬ del2 = some u := fun u hu e => by have := hd2 u e; omega
      simp [objCells, fr, splice, f3, o6]
      refine kS_buildSl (cs := [.int .i64 t.s, .int .i64 t.f, .sl (some (u2, 4)) false L.length (L.flatMap opC)]) (by simp [splice]) rfl (by simp [-List.length_flatMap]) ?_
      simp
      have hl45 : ((h.ts.take i).map fewT).length ≤ 45 := by rw [List.length_map, List.length_take]; omega
      have hfT : txnC (fewT t) = [.int .i64 t.s, .int .i64 t.f, .sl none false L.length (L.flatMap opC)] := by simp [txnC, fewT, slOf, hL]
      obtain ⟨tT, hTv⟩ := gT.form
      refine kS_appendG (f := txnC) (lo := N2) (hi := s.nx) (l := (h.ts.take i).map fewT) (a := fewT t) (v := Tv) ?_ (by simp) (by simp [slCells, hfT]) txnC_len (by decide) (by simp [hfT, -List.length_flatMap]) (by omega) (by omega) (fun del hdel => ?_)
      · exact gT.mono (fun u _ hu ht => by simp [app_tk, ht, hdS u hu]) (Nat.le_refl _)
      have hdN : ∀ u, u < N2 → ¬ del = some u := fun u hu e => by have := hdel u e; omega
      have hsn : (h.ts.take (i + 1)).map fewT = (h.ts.take i).map fewT ++ [fewT t] := by rw [List.take_succ_eq_append_getElem hlt, ht]; simp
      have hne : (h.ts.take (i + 1)).map fewT ≠ [] := by rw [hsn]; simp
      have hlen : ((h.ts.take i).map fewT).length + 1 = ((h.ts.take (i + 1)).map fewT).length := by rw [hsn]; simp
      rw [← hsn, hlen]
      generalize hM : (h.ts.take (i + 1)).map fewT = M at *
      simp [f3, o6, objCells, fr, splice, h4, hw]
      refine ⟨hl5, by omega, _, ⟨by simp [f1], by simp [f2], by simp [f3], by simp [fd], by simp [fr], by simp [fb], by simp [o2, histC], by simp [o4], by simp; try rfl, gS.mono (fun u _ hu ht => by simp [app_tk, ht, hdS u (by omega), hdN u (by omega)]) (Nat.le_refl _), gK.mono (fun u _ hu ht => by simp [app_tk, ht, hdS u (by omega), hdN u (by omega)]) (Nat.le_refl _), ?_, n1, by first | omega | (simp; omega)⟩⟩
      rw [hM]
      exact .inr ⟨hne, _, rfl, by simp [app_tk], by omega, by first | omega | simp⟩
    · have hl5' : ¬ (i : Int) < 45 := by omega
      simp [h4, f1, o2, objCells, histC, hlt, hl5']
      refine hrest _ Tv ⟨by simp [f1], by simp [f2], by simp [f3], by simp [fd], by simp [fr], by simp [fb], by simp [o2, histC], by simp [o4], by simp [o6], ?_, ?_, ?_, n1, by simp; omega⟩
      · simp
        exact gS
      · simp
        exact gK
      rw [← few_end hle hi (fun hx => by omega)]
      simp [-List.map_take]
      exact gT.mono (fun _ _ _ h => h) (by omega)
  · simp [h4, f1, o2, objCells, histC, hlt]
    refine hrest _ Tv ⟨by simp [f1], by simp [f2], by simp [f3], by simp [fd], by simp [fr], by simp [fb], by simp [o2, histC], by simp [o4], by simp [o6], ?_, ?_, ?_, n1, by simp; omega⟩
    · simp
      exact gS
    · simp
      exact gK
    rw [← few_end hle hi (fun hx => by omega)]
    simp [-List.map_take]
    exact gT.mono (fun _ _ _ h => h) (by omega)
end Go.Pv.T

/- Few of a history: whole. -/
namespace Go.Pv.T
open Go Go.Pv

theorem kE1 {st : St} {p l u : Nat} {x y z : V} {g : Hist'} (hd : st.df = []) (hp : st.tm p = .ptr l u 0) (ho : st.ob l = some ⟨u, .cells [x, y, z]⟩)
    (hx : SlOut st x g.sn g.ss.length (g.ss.flatMap strC)) (hy : SlOut st y g.kn g.ks.length (g.ks.flatMap strC)) (hz : SlOut st z g.tn g.ts.length (g.ts.flatMap txnC)) : kEndE [.cell p (some 3)] (fun r => HistR r g) .ret st := endH1 hd hp ho hx hy hz
set_option maxRecDepth 100000 in
theorem few4 {h : Hist'} {s : St} {N1 N2 : Nat} {S0 K0 T0 : V} (hs : FewS h s 25 45 45 N1 N2 S0 K0 T0) : wpC E noYF few4C s (kEndE [.cell 2 (some 3)] fun r => HistR r (fewH h)) := by
  obtain ⟨f1, f2, f3, fd, fr, fb, o2, o4, o6, gS, gK, gT, n1, n2⟩ := hs
  obtain ⟨T, hTd⟩ : ∃ T, (h.ts.take 45).map fewT = T := ⟨_, rfl⟩
  obtain ⟨S, hSd⟩ : ∃ S, fewS 25 h.ss = S := ⟨_, rfl⟩
  obtain ⟨K, hKd⟩ : ∃ K, fewS 45 h.ks = K := ⟨_, rfl⟩
  have hg : fewH h = ⟨S.isEmpty, S, K.isEmpty, K, T.isEmpty, T⟩ := by rw [← hTd, ← hSd, ← hKd]; rfl
  rw [hTd] at gT
  rw [hSd] at gS
  rw [hKd] at gK
  rw [hg]
  obtain ⟨tS, hS⟩ := gS.form
  obtain ⟨tK, hK⟩ := gK.form
  obtain ⟨tT, hT⟩ := gT.form
  generalize hP : (kEndE [.cell 2 (some 3)] fun r => HistR r ⟨S.isEmpty, S, K.isEmpty, K, T.isEmpty, T⟩) = P
  simp [few4C, few3C, few2C, few1C, tlC, F14, f3, f2, o6, o4, objCells, fr, splice, hS, hK, hT]
  subst hP
  refine kE1 (l := 4) (u := 64) (x := .sl tS S.isEmpty S.length (S.flatMap strC)) (y := .sl tK K.isEmpty K.length (K.flatMap strC)) (z := .sl tT T.isEmpty T.length (T.flatMap txnC)) (by simp [fd]) (by simp [f2]) (by simp) (slOut_sl _ tS _ _ _) (slOut_sl _ tK _ _ _) (slOut_sl _ tT _ _ _)
theorem ev14 (h : Hist') : ∃ r, Ev E 14 [.agg (histC h)] r ∧ HistR r (fewH h) := by
  refine Ev_wpE (af := F14) rfl (by decide) ?_
  show wpC E noYF F14.body _ (kEndE [.cell 2 (some 3)] fun r => HistR r (fewH h))
  generalize hP : (kEndE [.cell 2 (some 3)] fun r => HistR r (fewH h)) = P
  have e : F14.body = .seq (hdC F14.body) (.seq (hdC (tlC F14.body)) few1C) := rfl
  rw [e]
  simp [hdC, tlC, F14, histC, objCells, splice]
  refine few1 (h := h) ⟨by simp, by simp, by simp, by simp, by simp, by simp, by simp [histC], by simp, by simp, .inl ⟨rfl, rfl⟩, .inl ⟨rfl, rfl⟩, .inl ⟨rfl, rfl⟩, Nat.le_refl _, Nat.le_refl _⟩ ?_
  intro s1 Sv h1
  refine few2 h1 ?_
  intro s2 Kv h2
  refine few3 h2 ?_
  intro s3 Tv h3
  rw [← hP]
  exact few4 h3
end Go.Pv.T

/- Fresh numbers: the reference's way. -/
namespace Go.Pv.T
open Go Go.Pv

/-- What is written of a key, ahead of a place. -/
def wrTo (h : Hist') (key : Int) (i k : Nat) : List Int := ((opsTo h i k).filter (wkB key)).map (·.v.n)
def wrL (h : Hist') (key : Int) : List Int := ((opsOf h).filter (wkB key)).map (·.v.n)
theorem wrTo_end (h : Hist') (key : Int) : wrTo h key h.ts.length 0 = wrL h key := by unfold wrTo wrL; rw [opsTo_end]
theorem wrTo_next {h : Hist'} {i : Nat} (hi : i < h.ts.length) (key : Int) : wrTo h key i (h.ts[i]).ops.length = wrTo h key (i + 1) 0 := by unfold wrTo; rw [opsTo_next hi]
theorem wrTo_step {h : Hist'} {i k : Nat} (hi : i < h.ts.length) (hk : k < (h.ts[i]).ops.length) (key : Int) :
    wrTo h key i (k + 1) = wrTo h key i k ++ (if wkB key (h.ts[i]).ops[k] then [((h.ts[i]).ops[k]).v.n] else []) := by
  unfold wrTo
  rw [opsTo_step hi hk, List.filter_append, List.map_append]
  cases hw : wkB key (h.ts[i]).ops[k] <;> simp [hw]
theorem wr_mem {h : Hist'} {i k : Nat} (hi : i < h.ts.length) (hk : k < (h.ts[i]).ops.length) {key : Int} (hw : wkB key (h.ts[i]).ops[k] = true) : ((h.ts[i]).ops[k]).v.n ∈ wrL h key := by
  unfold wrL opsOf
  exact List.mem_map.2 ⟨_, List.mem_filter.2 ⟨List.mem_flatMap.2 ⟨_, List.getElem_mem hi, List.getElem_mem hk⟩, hw⟩, rfl⟩

theorem ev71 {h : Hist'} (hs : Small h) (key n : Int) : Ev E 71 [.agg (histC h), .int .i64 key, .int .i64 n] (.bool (decide (n ∈ wrL h key))) := by
  refine Ev_wpK (af := F71) rfl ?_
  have hts := hs.ts
  simp [F71, histC]
  refine wp_loopUp [(6, 51)] h.ts.length (fun i s => s.tm 7 = .int .i64 i ∧ s.ob 6 = some ⟨0, .cells (histC h)⟩ ∧ n ∉ wrTo h key i 0) rfl rfl ⟨by simp, by simp [histC], by simp [wrTo, opsTo_zero]⟩ ?_
  rintro i s hi ⟨h7, o6, hno⟩ f
  have f1 : s.tm 1 = .int .i64 key := by rw [f.t 1 (by simp)]; simp
  have f2 : s.tm 2 = .int .i64 n := by rw [f.t 2 (by simp)]; simp
  have f3 : s.tm 3 = .ptr 6 0 0 := by rw [f.t 3 (by simp)]; simp
  have fd : s.df = [] := by rw [f.d]; simp
  have fb : s.fb = 0 := by rw [f.b]; simp
  have fr : s.ro = 0 := by rw [f.r]; simp
  clear f
  by_cases hlt : i < h.ts.length
  · have hw := wrapU hlt (by omega)
    obtain ⟨t, ht⟩ : ∃ t, h.ts[i] = t := ⟨_, rfl⟩
    have hos := hs.os t (ht ▸ List.getElem_mem hlt)
    have hl3 : (h.ts.flatMap txnC)[i * 3 + 2]? = some (slOf t.nl opC t.ops) := by
      rw [fld_at txnC_len h.ts hlt (by decide : 2 < 3), ht]; rfl
    simp [h7, f3, o6, objCells, histC, hlt]
    refine wp_loopUp [(6, 6), (8, 9), (17, 51)] t.ops.length (fun k s' => s'.tm 8 = .int .i64 k ∧ s'.ob 6 = some ⟨0, .cells (histC h)⟩ ∧ n ∉ wrTo h key i k) rfl rfl ⟨by simp, by simp [o6], hno⟩ ?_
    rintro k s1 hk ⟨k8, q6, hnk⟩ f
    have m1 : s1.tm 1 = .int .i64 key := by rw [f.t 1 (by simp)]; simp [f1]
    have m2 : s1.tm 2 = .int .i64 n := by rw [f.t 2 (by simp)]; simp [f2]
    have m3 : s1.tm 3 = .ptr 6 0 0 := by rw [f.t 3 (by simp)]; simp [f3]
    have m7 : s1.tm 7 = .int .i64 i := by rw [f.t 7 (by simp)]; simp [h7]
    have md : s1.df = [] := by rw [f.d]; simp [fd]
    have mb : s1.fb = 0 := by rw [f.b]; simp [fb]
    have mr : s1.ro = 0 := by rw [f.r]; simp [fr]
    clear f
    by_cases hkt : k < t.ops.length
    · have hwk := wrapU hkt (by omega)
      obtain ⟨o, ho⟩ : ∃ o, t.ops[k] = o := ⟨_, rfl⟩
      have hl4 := load_slOf opC_len s1.ob t.ops hkt
      rw [ho] at hl4
      have hstep : wrTo h key i (k + 1) = wrTo h key i k ++ (if wkB key o then [o.v.n] else []) := by
        have := wrTo_step (h := h) hlt (k := k) (by rw [ht]; exact hkt) key
        simp only [ht, ho] at this
        exact this
      have hmem : wkB key o = true → o.v.n ∈ wrL h key := fun hw => by
        have := wr_mem (h := h) hlt (k := k) (by rw [ht]; exact hkt) (key := key) (by simp only [ht, ho]; exact hw)
        simp only [ht, ho] at this
        exact this
      have q6' : s1.ob 6 = some ⟨0, .cells [slOf h.sn strC h.ss, slOf h.kn strC h.ks, slOf h.tn txnC h.ts]⟩ := q6
      have hskip : wkB key o = false → n ∉ wrTo h key i (k + 1) := fun hw => by rw [hstep, hw]; simpa using hnk
      simp [k8, m3, q6', objCells, hlt, m7, idx_slOf txnC_len, hl3, hkt, idx_slOf opC_len, load_slOf opC_len, ho, opC, mb, mr, splice]
      cases hw1 : o.w
      · simp [k8, hwk, q6', histC]
        exact ⟨hkt, hskip (by unfold wkB; rw [hw1]; rfl)⟩
      · cases hk1 : (o.key == key)
        · simp [k8, hwk, q6', histC, m1, hk1, objCells]
          exact ⟨hkt, hskip (by unfold wkB; rw [hw1, hk1]; rfl)⟩
        · have hwt : wkB key o = true := by unfold wkB; rw [hw1, hk1]; rfl
          cases hn1 : (o.v.n == n)
          · simp [k8, hwk, q6', histC, m1, m2, hk1, objCells, hn1]
            refine ⟨hkt, ?_⟩
            rw [hstep, hwt]
            simp only [if_true, List.mem_append, List.mem_singleton, not_or]
            exact ⟨hnk, fun e => by rw [e] at hn1; simp at hn1⟩
          · simp [histC, m1, m2, hk1, objCells, hn1]
            have hn2 : o.v.n = n := by simpa using hn1
            have := hmem hwt
            rw [hn2] at this
            exact endV_1 (by simp [md]) (by simp [this]) rfl
    · have : k = t.ops.length := by omega
      subst this
      simp [k8, m3, q6, objCells, histC, m7, hlt, idx_slOf txnC_len, hl3, hw]
      have := wrTo_next (h := h) hlt key
      rw [ht] at this
      rw [← this]
      exact hnk
  · have : i = h.ts.length := by omega
    subst this
    rw [wrTo_end] at hno
    simp [h7, f3, o6, objCells, histC]
    exact endV_1 (by simp [fd]) (by simp [hno]) rfl
end Go.Pv.T

/- Fresh numbers: least that is not there; the reference's walk. -/
namespace Go.Pv.T
open Go Go.Pv

def mex (l : List Int) : Nat := ((List.range (l.length + 1)).find? fun (n : Nat) => !decide ((n : Int) ∈ l)).getD 0
theorem mex_le : ∀ (n : Nat) (l : List Int), (∀ j : Nat, j < n → (j : Int) ∈ l) → n ≤ l.length
  | 0, _, _ => Nat.zero_le _
  | n + 1, l, h => by
    have h1 := h n (by omega)
    have h2 := mex_le n (l.erase (n : Int)) (fun j hj => (List.mem_erase_of_ne (by omega)).2 (h j (by omega)))
    rw [List.length_erase_of_mem h1] at h2
    have := List.length_pos_of_mem h1
    omega
theorem mex_of {l : List Int} {n : Nat} (h1 : (n : Int) ∉ l) (h2 : ∀ j : Nat, j < n → (j : Int) ∈ l) : mex l = n := by
  have hn := mex_le n l h2
  unfold mex
  rw [List.find?_range_eq_some.2 ⟨by simpa using h1, by rw [List.mem_range]; omega, fun j hj => by simpa using h2 j hj⟩]
  rfl
theorem may_bad {g : Hist'} (hm : mayH g = false) : errH g = 4 := by unfold errH; rw [hm]; rfl
theorem flat_le {ts : List Txn'} (h : ∀ t ∈ ts, t.ops.length ≤ 1000) : (ts.flatMap (·.ops)).length ≤ ts.length * 1000 := by
  induction ts with
  | nil => simp
  | cons t ts ih =>
    rw [List.flatMap_cons, List.length_append, List.length_cons]
    have := h t (List.mem_cons_self ..)
    have := ih fun t ht => h t (List.mem_cons_of_mem _ ht)
    omega
theorem wrL_len {h : Hist'} (hs : Small h) (key : Int) : (wrL h key).length ≤ 1000000 := by
  unfold wrL
  rw [List.length_map]
  have h1 := List.length_filter_le (wkB key) (opsOf h)
  have h2 : (opsOf h).length ≤ h.ts.length * 1000 := flat_le hs.os
  have h3 := hs.ts
  omega
def freshH (h : Hist') (key : Int) : Val' := if mayH h && (decide (0 ≤ key) && decide (key < h.ks.length)) then ⟨1, (mex (wrL h key) : Nat)⟩ else ⟨0, 0⟩
theorem ev22 {h : Hist'} (hs : Small h) (key : Int) : Ev E 22 [.agg (histC h), .int .i64 key] (.agg (valC (freshH h key))) := by
  have e32 := ev32 hs
  have hks := hs.ks
  have hwl := wrL_len hs key
  refine Ev_wpK (af := F22) rfl ?_
  obtain ⟨R, hR⟩ : ∃ R, freshH h key = R := ⟨_, rfl⟩
  rw [hR]
  unfold freshH at hR
  simp [F22, histC, objCells]
  refine kS_ev e32 (by simp [histC]) rfl (by simp [histC]) ?_
  cases hm : mayH h
  · rw [may_bad hm]
    rw [hm] at hR
    subst hR
    simp [objCells, splice]
    exact kEnd_of (by simp) (l := [.agg (valC ⟨0, 0⟩)]) (by simp [resOf, objCells, valC]) rfl rfl
  rw [hm] at hR
  rw [may_err hm]
  by_cases k1 : key < 0
  · rw [if_neg (by simp; omega)] at hR
    subst hR
    simp [k1, objCells, splice]
    exact kEnd_of (by simp) (l := [.agg (valC ⟨0, 0⟩)]) (by simp [resOf, objCells, valC]) rfl rfl
  by_cases k2 : (h.ks.length : Int) ≤ key
  · rw [if_neg (by simp; omega)] at hR
    subst hR
    simp [k1, k2, objCells, splice]
    exact kEnd_of (by simp) (l := [.agg (valC ⟨0, 0⟩)]) (by simp [resOf, objCells, valC]) rfl rfl
  rw [if_pos (by simp; omega)] at hR
  simp [k1, k2, objCells]
  refine wp_loopUp [(5, 5), (21, 26)] 1000000 (fun n s => s.tm 5 = .int .i64 n ∧ s.ob 4 = some ⟨0, .cells (histC h)⟩ ∧ s.ob 8 = some ⟨64, .cells [.int .i64 0, .int .i64 0]⟩ ∧ ∀ j : Nat, j < n → (j : Int) ∈ wrL h key) rfl rfl ⟨by simp, by simp [histC], by simp, by simp⟩ ?_
  rintro n s hn ⟨h5, o4, o8, hall⟩ f
  have f1 : s.tm 1 = .int .i64 key := by rw [f.t 1 (by simp)]; simp
  have f2 : s.tm 2 = .ptr 4 0 0 := by rw [f.t 2 (by simp)]; simp
  have f4 : s.tm 4 = .ptr 8 64 0 := by rw [f.t 4 (by simp)]; simp
  have fd : s.df = [] := by rw [f.d]; simp
  have fr : s.ro = 0 := by rw [f.r]; simp
  clear f
  have e71 := ev71 hs key n
  simp [f2, o4, objCells, histC, f1, h5]
  refine kS_ev e71 (by simp [histC]) rfl (by simp [histC]) ?_
  by_cases hin : (n : Int) ∈ wrL h key
  · have hlt : n < 1000000 := by
      have := mex_le (n + 1) (wrL h key) (fun j hj => by rcases Nat.lt_succ_iff_lt_or_eq.1 hj with h | h; exact hall j h; rw [h]; exact hin)
      omega
    have hw := wrapU (i := n) (N := 1000000) hlt (by omega)
    simp [hin, h5, hw, o4, o8, histC]
    refine ⟨hlt, fun j hj => ?_⟩
    rcases Nat.lt_succ_iff_lt_or_eq.1 hj with h | h
    · exact hall j h
    · rw [h]; exact hin
  · rw [mex_of hin hall] at hR
    subst hR
    simp [hin, h5, o8, f4, objCells, splice, fr]
    exact kEnd_of (by simp [fd]) (l := [.agg (valC ⟨1, n⟩)]) (by simp [resOf, objCells, valC, f4]) rfl rfl
end Go.Pv.T

/- Fresh numbers: the program's walk. -/
namespace Go.Pv.T
open Go Go.Pv

theorem mset_cons {α : Type} (k0 : Int) (b : α) (m : List (Int × α)) (k : Int) (a : α) : mset ((k0, b) :: m) k a = if k = k0 then (k, a) :: m else (k0, b) :: mset m k a := by
  unfold mset
  rw [mfind]
  by_cases h : k = k0
  · simp [h]
  · rw [if_neg h, if_neg h]
    cases mfind m k <;> simp
theorem mval_mset {α : Type} (k : Int) (a : α) (k' : Int) : ∀ m : List (Int × α), (mfind (mset m k a) k').map (·.2) = if k' = k then some a else (mfind m k').map (·.2)
  | [] => by
    by_cases h : k' = k <;> simp [mset, mfind, h]
  | (k0, b) :: m => by
    rw [mset_cons]
    have ih := mval_mset k a k' m
    by_cases h : k = k0
    · subst h
      rw [if_pos rfl, mfind, mfind]
      by_cases h' : k' = k <;> simp [h']
    · rw [if_neg h, mfind, mfind]
      by_cases h' : k' = k0
      · subst h'
        simp [show ¬ k' = k from fun e => h e.symm]
      · rw [if_neg h', if_neg h']
        simp only [Option.map_map]
        have e : ((fun x : Nat × α => x.2) ∘ fun p : Nat × α => (p.1 + 1, p.2)) = fun x => x.2 := rfl
        rw [e]
        exact ih
theorem mcnt_mset (m : List (Int × Int)) (k a k' : Int) : mcnt (mset m k a) k' = if k' = k then a else mcnt m k' := by
  unfold mcnt
  rw [mval_mset]
  split <;> rfl
/-- A map that counts. -/
def Cnt (m : List (Int × Int)) (L : List Int) : Prop := ∀ k, mcnt m k = (L.count k : Nat)
theorem Cnt.nil : Cnt [] [] := fun k => rfl
theorem Cnt.snoc {m : List (Int × Int)} {L : List Int} (h : Cnt m L) (k : Int) : Cnt (mset m k (mcnt m k + 1)) (L ++ [k]) := fun k' => by
  rw [mcnt_mset, h k', h k, List.count_append]
  by_cases e : k' = k
  · subst e; simp
  · rw [if_neg e]
    have : List.count k' [k] = 0 := List.count_eq_zero.2 (by simpa using e)
    omega
theorem Cnt.le {m : List (Int × Int)} {L : List Int} (h : Cnt m L) (k : Int) : 0 ≤ mcnt m k ∧ mcnt m k ≤ L.length := by
  rw [h k]
  have := List.count_le_length (a := k) (l := L)
  omega
theorem Cnt.pos {m : List (Int × Int)} {L : List Int} (h : Cnt m L) (k : Int) : (0 < mcnt m k) ↔ k ∈ L := by
  rw [h k]
  exact ⟨fun hp => List.count_pos_iff.1 (by omega), fun hm => by have := List.count_pos_iff.2 hm; omega⟩
theorem wrTo_le {h : Hist'} (hs : Small h) (key : Int) (i k : Nat) (hi : i < h.ts.length) : (wrTo h key i k).length ≤ 1000000 + 1000 := by
  unfold wrTo opsTo
  rw [List.length_map]
  refine Nat.le_trans (List.length_filter_le _ _) ?_
  rw [List.length_append]
  have h1 : ((h.ts.take i).flatMap (·.ops)).length ≤ (h.ts.take i).length * 1000 := flat_le fun t ht => hs.os t (List.mem_of_mem_take ht)
  rw [List.length_take] at h1
  have h2 : ((h.ts.getD i ⟨0, 0, true, []⟩).ops.take k).length ≤ 1000 := by
    rw [List.length_take, getD_lt hi]
    have := hs.os _ (List.getElem_mem hi)
    omega
  have h3 := hs.ts
  omega

theorem ev21 {h : Hist'} (hs : Small h) (key : Int) : Ev E 21 [.agg (histC h), .int .i64 key] (.agg (valC (freshH h key))) := by
  have e70 := ev70 hs
  have hks := hs.ks
  have hts := hs.ts
  have hwl := wrL_len hs key
  refine Ev_wpK (af := F21) rfl ?_
  obtain ⟨R, hR⟩ : ∃ R, freshH h key = R := ⟨_, rfl⟩
  rw [hR]
  unfold freshH at hR
  simp [F21, histC, objCells]
  refine kS_ev e70 (by simp [histC]) rfl (by simp [histC]) ?_
  cases hm : mayH h
  · rw [may_bad hm]
    rw [hm] at hR
    subst hR
    simp [objCells, splice]
    exact kEnd_of (by simp) (l := [.agg (valC ⟨0, 0⟩)]) (by simp [resOf, objCells, valC]) rfl rfl
  rw [hm] at hR
  rw [may_err hm]
  by_cases k1 : key < 0
  · rw [if_neg (by simp; omega)] at hR
    subst hR
    simp [k1, objCells, splice]
    exact kEnd_of (by simp) (l := [.agg (valC ⟨0, 0⟩)]) (by simp [resOf, objCells, valC]) rfl rfl
  by_cases k2 : (h.ks.length : Int) ≤ key
  · rw [if_neg (by simp; omega)] at hR
    subst hR
    simp [k1, k2, objCells, splice]
    exact kEnd_of (by simp) (l := [.agg (valC ⟨0, 0⟩)]) (by simp [resOf, objCells, valC]) rfl rfl
  rw [if_pos (by simp; omega)] at hR
  simp [k1, k2, objCells]
  refine wpC_gen fun st hst => ?_
  have g1 : st.tm 1 = .int .i64 key := by rw [hst]; simp
  have g2 : st.tm 2 = .ptr 4 0 0 := by rw [hst]; simp
  have g4 : st.tm 4 = .ptr 8 64 0 := by rw [hst]; simp
  obtain ⟨u, g5, p52⟩ : ∃ u, st.tm 5 = .map 52 u ∧ st.ob 52 = some ⟨u, .mp 0 []⟩ := ⟨_, by rw [hst]; simp; rfl, by rw [hst]; simp⟩
  have g28 : st.tm 28 = slOf h.tn txnC h.ts := by rw [hst]; simp
  have g29 : st.tm 29 = .int .i64 h.ts.length := by rw [hst]; simp
  have g30 : st.tm 30 = .int .i64 0 := by rw [hst]; simp
  have p4 : st.ob 4 = some ⟨0, .cells (histC h)⟩ := by rw [hst]; simp [histC]
  have p8 : st.ob 8 = some ⟨64, .cells [.int .i64 0, .int .i64 0]⟩ := by rw [hst]; simp
  have gd : st.df = [] := by rw [hst]; simp
  have gb : st.fb = 0 := by rw [hst]; simp
  have gr : st.ro = 0 := by rw [hst]; simp
  clear hst
  refine wp_loopUp [(7, 9), (30, 56)] h.ts.length (fun i s => s.tm 30 = .int .i64 i ∧ s.ob 8 = some ⟨64, .cells [.int .i64 0, .int .i64 0]⟩ ∧ ∃ ver m, s.ob 52 = some ⟨u, .mp ver (MP intV m)⟩ ∧ Cnt m (wrTo h key i 0)) rfl rfl
    ⟨by simp [g30], p8, 0, [], by simp [MP, p52], by simp [wrTo, opsTo_zero, Cnt.nil]⟩ ?_
  rintro i s hi ⟨h30, o8, ver, m, o52, hcnt⟩ f
  have f1 : s.tm 1 = .int .i64 key := by rw [f.t 1 (by simp), g1]
  have f5 : s.tm 5 = .map 52 u := by rw [f.t 5 (by simp), g5]
  have f4 : s.tm 4 = .ptr 8 64 0 := by rw [f.t 4 (by simp), g4]
  have f28 : s.tm 28 = slOf h.tn txnC h.ts := by rw [f.t 28 (by simp), g28]
  have f29 : s.tm 29 = .int .i64 h.ts.length := by rw [f.t 29 (by simp), g29]
  have fd : s.df = [] := by rw [f.d, gd]
  have fb : s.fb = 0 := by rw [f.b, gb]
  have fr : s.ro = 0 := by rw [f.r, gr]
  clear f
  by_cases hlt : i < h.ts.length
  · have hw := wrapU hlt (by omega)
    obtain ⟨t, ht⟩ : ∃ t, h.ts[i] = t := ⟨_, rfl⟩
    have hos := hs.os t (ht ▸ List.getElem_mem hlt)
    simp [h30, f28, f29, hlt, idx_slOf txnC_len, load_slOf txnC_len, ht, txnC, objCells, fb, fr, splice]
    refine wp_loopUp [(9, 9), (37, 55)] t.ops.length (fun k s' => s'.tm 37 = .int .i64 k ∧ s'.ob 8 = some ⟨64, .cells [.int .i64 0, .int .i64 0]⟩ ∧ ∃ ver m, s'.ob 52 = some ⟨u, .mp ver (MP intV m)⟩ ∧ Cnt m (wrTo h key i k)) rfl rfl
      ⟨by simp, by simp [o8], ver, m, by simp [o52], hcnt⟩ ?_
    rintro k s1 hk ⟨k37, q8, ver1, m1, q52, hc1⟩ f
    have n1 : s1.tm 1 = .int .i64 key := by rw [f.t 1 (by simp)]; simp [f1]
    have n5 : s1.tm 5 = .map 52 u := by rw [f.t 5 (by simp)]; simp [f5]
    have n30 : s1.tm 30 = .int .i64 i := by rw [f.t 30 (by simp)]; simp [h30]
    have n35 : s1.tm 35 = slOf t.nl opC t.ops := by rw [f.t 35 (by simp)]; simp
    have n36 : s1.tm 36 = .int .i64 t.ops.length := by rw [f.t 36 (by simp)]; simp
    have md : s1.df = [] := by rw [f.d]; simp [fd]
    have mb : s1.fb = 0 := by rw [f.b]; simp [fb]
    have mr : s1.ro = 0 := by rw [f.r]; simp [fr]
    clear f
    by_cases hkt : k < t.ops.length
    · have hwk := wrapU hkt (by omega)
      obtain ⟨o, ho⟩ : ∃ o, t.ops[k] = o := ⟨_, rfl⟩
      have hstep : wrTo h key i (k + 1) = wrTo h key i k ++ (if wkB key o then [o.v.n] else []) := by
        have := wrTo_step (h := h) hlt (k := k) (by rw [ht]; exact hkt) key
        simp only [ht, ho] at this
        exact this
      have hskip : wkB key o = false → Cnt m1 (wrTo h key i (k + 1)) := fun hw => by rw [hstep, hw]; simpa using hc1
      have hl4 := load_slOf opC_len s1.ob t.ops hkt
      rw [ho] at hl4
      simp [k37, n35, n36, hkt, idx_slOf opC_len, load_slOf opC_len, ho, opC, objCells, mb, mr, splice]
      cases hw1 : o.w
      · simp [k37, hwk, q8, q52]
        exact ⟨hkt, ver1, m1, ⟨rfl, rfl⟩, hskip (by unfold wkB; rw [hw1]; rfl)⟩
      · cases hk1 : (o.key == key)
        · simp [k37, hwk, q8, q52, n1, hk1, objCells]
          exact ⟨hkt, ver1, m1, ⟨rfl, rfl⟩, hskip (by unfold wkB; rw [hw1, hk1]; rfl)⟩
        · have hwt : wkB key o = true := by unfold wkB; rw [hw1, hk1]; rfl
          have hle := hc1.le o.v.n
          have hwl := wrTo_le hs key i k hlt
          have hwr : IntKind.i64.wrap (mcnt m1 o.v.n + 1) = mcnt m1 o.v.n + 1 := wrap64' (by omega) (by omega)
          simp [n1, hk1, objCells, n5, lookupV_MI m1, objMap, q52, hwr]
          refine kS_mapSet (f := intV) (a := mcnt m1 o.v.n + 1) (ver := ver1) (l := 52) (u := u) (k := o.v.n) m1 (by simp) (by simp) (by simp [intV]) (by simp [q52]) (by simp [mr]) ?_
          simp [k37, hwk, q8]
          refine ⟨hkt, ver1 + 1, mset m1 o.v.n (mcnt m1 o.v.n + 1), by simp, ?_⟩
          rw [hstep, hwt]
          exact hc1.snoc _
    · have : k = t.ops.length := by omega
      subst this
      have := wrTo_next (h := h) hlt key
      rw [ht] at this
      rw [this] at hc1
      simp [k37, n36, hw, n30, q8, q52]
      exact ⟨hlt, ver1, m1, ⟨rfl, rfl⟩, hc1⟩
  · have : i = h.ts.length := by omega
    subst this
    rw [wrTo_end] at hcnt
    simp [h30, f29]
    refine wp_loopUp [(10, 10), (57, 62)] 1000000 (fun n s' => s'.tm 10 = .int .i64 n ∧ s'.ob = s.ob ∧ ∀ j : Nat, j < n → (j : Int) ∈ wrL h key) rfl rfl ⟨by simp, by simp, by simp⟩ ?_
    rintro n s1 hn ⟨h10, ho, hall⟩ f
    have n5 : s1.tm 5 = .map 52 u := by rw [f.t 5 (by simp)]; simp [f5]
    have n4 : s1.tm 4 = .ptr 8 64 0 := by rw [f.t 4 (by simp)]; simp [f4]
    have md : s1.df = [] := by rw [f.d]; simp [fd]
    have mr : s1.ro = 0 := by rw [f.r]; simp [fr]
    clear f
    by_cases hin : (n : Int) ∈ wrL h key
    · have hlt : n < 1000000 := by
        have := mex_le (n + 1) (wrL h key) (fun j hj => by rcases Nat.lt_succ_iff_lt_or_eq.1 hj with h | h; exact hall j h; rw [h]; exact hin)
        omega
      have hw := wrapU (i := n) (N := 1000000) hlt (by omega)
      have hpos := (hcnt.pos (n : Int)).2 hin
      simp [h10, n5, ho, lookupV_MI m, objMap, o52, hpos, hw]
      refine ⟨hlt, fun j hj => ?_⟩
      rcases Nat.lt_succ_iff_lt_or_eq.1 hj with h | h
      · exact hall j h
      · rw [h]; exact hin
    · have hpos : ¬ 0 < mcnt m n := fun h => hin ((hcnt.pos (n : Int)).1 h)
      rw [mex_of hin hall] at hR
      subst hR
      simp [h10, n5, ho, lookupV_MI m, objMap, o52, hpos, o8, n4, objCells, splice, mr]
      exact kEnd_of (by simp [md]) (l := [.agg (valC ⟨1, n⟩)]) (by simp [resOf, objCells, valC, n4]) rfl rfl
end Go.Pv.T

/- How many write one key, of whatever history. -/
namespace Go.Pv.T
open Go Go.Pv

theorem ev72n {g : Hist'} (hs : Small g) (hm : mayH g = false) (k : Int) : Ev E 72 [.agg (histC g), .int .i64 k] (.sl none true 0 []) := by
  have e70 := ev70 hs
  rw [may_bad hm] at e70
  refine Ev_wpK (af := F72) rfl ?_
  simp [F72, histC, objCells]
  refine kS_ev e70 (by simp [histC]) rfl (by simp [histC]) ?_
  simp
  exact endV_1 (by simp) (by simp) rfl
def mostQ (g : Hist') : Nat := if mayH g then mostH g else 0
theorem ev23q {g : Hist'} (hs : Small g) : Ev E 23 [.agg (histC g)] (.int .i64 (mostQ g : Nat)) := by
  unfold mostQ
  cases hm : mayH g
  · have hks := hs.ks
    refine Ev_wpK (af := F23) rfl ?_
    simp [F23, histC, objCells]
    refine wp_loopUp [(3, 4), (8, 17)] g.ks.length (fun i s => s.tm 8 = .int .i64 i ∧ s.ob 2 = some ⟨0, .cells (histC g)⟩ ∧ s.tm 3 = .int .i64 0) rfl rfl ⟨by simp, by simp [histC], by simp⟩ ?_
    rintro i s hi ⟨h8, o2, h3⟩ f
    have f1 : s.tm 1 = .ptr 2 0 0 := by rw [f.t 1 (by simp)]; simp
    have f7 : s.tm 7 = .int .i64 g.ks.length := by rw [f.t 7 (by simp)]; simp
    have fd : s.df = [] := by rw [f.d]; simp
    clear f
    by_cases hlt : i < g.ks.length
    · have hw := wrapU hlt (by omega)
      have ev := ev72n hs hm (i : Int)
      simp [h8, f7, hlt, h3, f1, o2, objCells, histC]
      refine kS_ev ev (by simp [histC]) rfl (by simp [histC]) ?_
      have hmx := max_int 0 0
      simp at hmx
      simp [h8, hw, hmx, o2, histC]
      exact hlt
    · have : i = g.ks.length := by omega
      subst this
      simp [h8, f7, h3]
      exact endV_1 (by simp [fd]) (by simp) rfl
  · exact ev23 hs hm
theorem ev24q {g : Hist'} (hs : Small g) : Ev E 24 [.agg (histC g)] (.int .i64 (mostQ g : Nat)) := by
  unfold mostQ
  cases hm : mayH g
  · have e32 := ev32 hs
    rw [may_bad hm] at e32
    refine Ev_wpK (af := F24) rfl ?_
    by_cases h0 : 0 < g.ks.length
    · simp [F24, histC]
      refine wp_unroll 1 ?_
      simp [objCells, h0]
      refine kS_ev e32 (by simp [histC]) rfl (by simp [histC]) ?_
      simp
      exact endV_1 (by simp) (by simp) rfl
    · simp [F24, histC]
      refine wp_unroll 1 ?_
      simp [objCells, h0]
      exact endV_1 (by simp) (by simp) rfl
  · exact ev24 hs hm
end Go.Pv.T

/- WriterFresh, but for its fixed example. -/
namespace Go.Pv.T
open Go Go.Pv

set_option maxRecDepth 100000 in
theorem ev5_of (ev25 : Ev E 25 [] (.bool true)) (h : Hist') (key : Int) : Ev E 5 [.agg (histC h), .int .i64 key] (.bool true) := by
  obtain ⟨r, ev, hr⟩ := ev14 h
  obtain ⟨r2, ev2, hr2⟩ := ev14 (fewH h)
  rw [fewH_few] at hr2
  have e21 := ev21 (small_few h) key
  have e22 := ev22 (small_few h) key
  have e23 := ev23q (small_few h)
  have e24 := ev24q (small_few h)
  refine Ev_wpK (af := F5) rfl ?_
  generalize fewH h = g at *
  obtain ⟨R, hR⟩ : ∃ R, freshH g key = R := ⟨_, rfl⟩
  rw [hR] at e21 e22
  obtain ⟨M, hM⟩ : ∃ M, mostQ g = M := ⟨_, rfl⟩
  rw [hM] at e23 e24
  clear hR hM
  simp [F5, histC, objCells]
  refine kS_ev ev (by simp [histC]) rfl (by simp [histC]) ?_
  obtain ⟨a, b, c, add, hret⟩ := retA_hist1 (ub := 192) hr
  rw [hret]
  simp [objCells, splice]
  refine kD_ev ev2 (by simp [histC, slOf]) rfl (by simp [histC]) ?_
  obtain ⟨a2, b2, c2, add2, hret2⟩ := retA_hist1 (ub := 384) hr2
  rw [hret2]
  simp
  refine kD_ev e21 (by simp [histC, slOf]) rfl (by simp [histC]) ?_
  rw [retA_plain (by simp [V.plain, valC])]
  simp [objCells]
  refine kD_ev e22 (by simp [histC, slOf]) rfl (by simp [histC]) ?_
  rw [retA_plain (by simp [V.plain, valC])]
  simp [objCells, valC]
  refine kD_ev ev2 (by simp [histC, slOf]) rfl (by simp [histC]) ?_
  obtain ⟨a3, b3, c3, add3, hret3⟩ := retA_hist1 (ub := 960) hr2
  rw [hret3]
  simp
  refine kD_ev e23 (by simp [histC, slOf]) rfl (by simp [histC]) ?_
  simp [objCells]
  refine kD_ev e24 (by simp [histC, slOf]) rfl (by simp [histC]) ?_
  simp
  refine kD_ev ev25 (by simp) rfl (by simp) ?_
  simp
  exact endV_1 rfl (by simp) rfl
end Go.Pv.T

/- WriterFresh: its fixed example, by the kernel. -/
namespace Go.Pv.T
open Go Go.Pv

theorem k25 : (callers E 100 noY).d 25 [] = some (.bool true) := by kernel_rfl
theorem ev5 (h : Hist') (key : Int) : Ev E 5 [.agg (histC h), .int .i64 key] (.bool true) := ev5_of ⟨100, k25⟩ h key
end Go.Pv.T

/- The environment is what the program's code says. -/
namespace Go.Pv.T
open Go Go.Pv Go.Proofs

theorem afOk_of {P : Program} {m r : Bool} {f : FuncId} {fn : Func} {af : AF} (h1 : P.funcs[f]? = some fn) (h2 : compF P m r fn = some af) (h3 : (fn.name == "runtime.NumGoroutine") = false) (h4 : af.body.dstOk fn.ntmps = true) : AfOk P r f af := by
  unfold compF at h2
  cases hb : fn.body with
  | none => rw [hb] at h2; cases h2
  | some c =>
    rw [hb, Option.bind_some] at h2
    cases hc : comp P m r c with
    | none => rw [hc] at h2; cases h2
    | some b =>
      rw [hc, Option.bind_some] at h2
      cases hr : fn.results.toList.mapM (compRes P) with
      | none => rw [hr] at h2; cases h2
      | some res =>
        rw [hr] at h2
        cases h2
        exact ⟨m, fn, c, h1, hb, hc, hr, h3, h4⟩

theorem okc5 : AfOk Tryz.prog false 5 F5 := afOk_of (m := false) Tryz.func5 (by kernel_rfl) (by kernel_rfl) (by kernel_rfl)
theorem okc14 : AfOk Tryz.prog false 14 F14 := afOk_of (m := false) Tryz.func14 (by kernel_rfl) (by kernel_rfl) (by kernel_rfl)
theorem okc21 : AfOk Tryz.prog false 21 F21 := afOk_of (m := false) Tryz.func21 (by kernel_rfl) (by kernel_rfl) (by kernel_rfl)
theorem okc22 : AfOk Tryz.prog false 22 F22 := afOk_of (m := false) Tryz.func22 (by kernel_rfl) (by kernel_rfl) (by kernel_rfl)
theorem okc23 : AfOk Tryz.prog false 23 F23 := afOk_of (m := false) Tryz.func23 (by kernel_rfl) (by kernel_rfl) (by kernel_rfl)
theorem okc24 : AfOk Tryz.prog false 24 F24 := afOk_of (m := false) Tryz.func24 (by kernel_rfl) (by kernel_rfl) (by kernel_rfl)
theorem okc25 : AfOk Tryz.prog false 25 F25 := afOk_of (m := false) Tryz.func25 (by kernel_rfl) (by kernel_rfl) (by kernel_rfl)
theorem okc26 : AfOk Tryz.prog false 26 F26 := afOk_of (m := false) Tryz.func26 (by kernel_rfl) (by kernel_rfl) (by kernel_rfl)
theorem okc27 : AfOk Tryz.prog false 27 F27 := afOk_of (m := true) Tryz.func27 (by kernel_rfl) (by kernel_rfl) (by kernel_rfl)
theorem okc32 : AfOk Tryz.prog false 32 F32 := afOk_of (m := true) Tryz.func32 (by kernel_rfl) (by kernel_rfl) (by kernel_rfl)
theorem okc67 : AfOk Tryz.prog false 67 F67 := afOk_of (m := false) Tryz.func67 (by kernel_rfl) (by kernel_rfl) (by kernel_rfl)
theorem okc70 : AfOk Tryz.prog false 70 F70 := afOk_of (m := false) Tryz.func70 (by kernel_rfl) (by kernel_rfl) (by kernel_rfl)
theorem okc71 : AfOk Tryz.prog false 71 F71 := afOk_of (m := false) Tryz.func71 (by kernel_rfl) (by kernel_rfl) (by kernel_rfl)
theorem okc72 : AfOk Tryz.prog false 72 F72 := afOk_of (m := false) Tryz.func72 (by kernel_rfl) (by kernel_rfl) (by kernel_rfl)
theorem okc73 : AfOk Tryz.prog false 73 F73 := afOk_of (m := false) Tryz.func73 (by kernel_rfl) (by kernel_rfl) (by kernel_rfl)
theorem okc74 : AfOk Tryz.prog false 74 F74 := afOk_of (m := false) Tryz.func74 (by kernel_rfl) (by kernel_rfl) (by kernel_rfl)
theorem okc78 : AfOk Tryz.prog false 78 F78 := afOk_of (m := false) Tryz.func78 (by kernel_rfl) (by kernel_rfl) (by kernel_rfl)
theorem okc81 : AfOk Tryz.prog false 81 F81 := afOk_of (m := false) Tryz.func81 (by kernel_rfl) (by kernel_rfl) (by kernel_rfl)
theorem okc104 : AfOk Tryz.prog false 104 F104 := afOk_of (m := false) Tryz.func104 (by kernel_rfl) (by kernel_rfl) (by kernel_rfl)
theorem okc105 : AfOk Tryz.prog false 105 F105 := afOk_of (m := true) Tryz.func105 (by kernel_rfl) (by kernel_rfl) (by kernel_rfl)
theorem okc107 : AfOk Tryz.prog false 107 F107 := afOk_of (m := false) Tryz.func107 (by kernel_rfl) (by kernel_rfl) (by kernel_rfl)
theorem okc110 : AfOk Tryz.prog false 110 F110 := afOk_of (m := false) Tryz.func110 (by kernel_rfl) (by kernel_rfl) (by kernel_rfl)
theorem okc111 : AfOk Tryz.prog false 111 F111 := afOk_of (m := false) Tryz.func111 (by kernel_rfl) (by kernel_rfl) (by kernel_rfl)
theorem okc112 : AfOk Tryz.prog false 112 F112 := afOk_of (m := false) Tryz.func112 (by kernel_rfl) (by kernel_rfl) (by kernel_rfl)
theorem okc116 : AfOk Tryz.prog false 116 F116 := afOk_of (m := false) Tryz.func116 (by kernel_rfl) (by kernel_rfl) (by kernel_rfl)
theorem okc118 : AfOk Tryz.prog false 118 F118 := afOk_of (m := false) Tryz.func118 (by kernel_rfl) (by kernel_rfl) (by kernel_rfl)
theorem okc119 : AfOk Tryz.prog false 119 F119 := afOk_of (m := false) Tryz.func119 (by kernel_rfl) (by kernel_rfl) (by kernel_rfl)
theorem okc124 : AfOk Tryz.prog false 124 F124 := afOk_of (m := false) Tryz.func124 (by kernel_rfl) (by kernel_rfl) (by kernel_rfl)
theorem okc126 : AfOk Tryz.prog false 126 F126 := afOk_of (m := false) Tryz.func126 (by kernel_rfl) (by kernel_rfl) (by kernel_rfl)
theorem okc127 : AfOk Tryz.prog false 127 F127 := afOk_of (m := false) Tryz.func127 (by kernel_rfl) (by kernel_rfl) (by kernel_rfl)
theorem okc129 : AfOk Tryz.prog false 129 F129 := afOk_of (m := false) Tryz.func129 (by kernel_rfl) (by kernel_rfl) (by kernel_rfl)
theorem okc130 : AfOk Tryz.prog false 130 F130 := afOk_of (m := false) Tryz.func130 (by kernel_rfl) (by kernel_rfl) (by kernel_rfl)
theorem okc147 : AfOk Tryz.prog false 147 F147 := afOk_of (m := false) Tryz.func147 (by kernel_rfl) (by kernel_rfl) (by kernel_rfl)
theorem okc148 : AfOk Tryz.prog false 148 F148 := afOk_of (m := false) Tryz.func148 (by kernel_rfl) (by kernel_rfl) (by kernel_rfl)
theorem okc151 : AfOk Tryz.prog false 151 F151 := afOk_of (m := false) Tryz.func151 (by kernel_rfl) (by kernel_rfl) (by kernel_rfl)
theorem okc153 : AfOk Tryz.prog false 153 F153 := afOk_of (m := false) Tryz.func153 (by kernel_rfl) (by kernel_rfl) (by kernel_rfl)
theorem okc155 : AfOk Tryz.prog false 155 F155 := afOk_of (m := false) Tryz.func155 (by kernel_rfl) (by kernel_rfl) (by kernel_rfl)
theorem okc163 : AfOk Tryz.prog false 163 F163 := afOk_of (m := false) Tryz.func163 (by kernel_rfl) (by kernel_rfl) (by kernel_rfl)
theorem okc167 : AfOk Tryz.prog false 167 F167 := afOk_of (m := false) Tryz.func167 (by kernel_rfl) (by kernel_rfl) (by kernel_rfl)
theorem okc168 : AfOk Tryz.prog false 168 F168 := afOk_of (m := false) Tryz.func168 (by kernel_rfl) (by kernel_rfl) (by kernel_rfl)
theorem okc169 : AfOk Tryz.prog false 169 F169 := afOk_of (m := false) Tryz.func169 (by kernel_rfl) (by kernel_rfl) (by kernel_rfl)
theorem okc172 : AfOk Tryz.prog false 172 F172 := afOk_of (m := false) Tryz.func172 (by kernel_rfl) (by kernel_rfl) (by kernel_rfl)
theorem okc173 : AfOk Tryz.prog false 173 F173 := afOk_of (m := false) Tryz.func173 (by kernel_rfl) (by kernel_rfl) (by kernel_rfl)
theorem okc174 : AfOk Tryz.prog false 174 F174 := afOk_of (m := false) Tryz.func174 (by kernel_rfl) (by kernel_rfl) (by kernel_rfl)
theorem okc188 : AfOk Tryz.prog false 188 F188 := afOk_of (m := false) Tryz.func188 (by kernel_rfl) (by kernel_rfl) (by kernel_rfl)
theorem okc189 : AfOk Tryz.prog false 189 F189 := afOk_of (m := false) Tryz.func189 (by kernel_rfl) (by kernel_rfl) (by kernel_rfl)
theorem okc190 : AfOk Tryz.prog false 190 F190 := afOk_of (m := false) Tryz.func190 (by kernel_rfl) (by kernel_rfl) (by kernel_rfl)
theorem okc191 : AfOk Tryz.prog false 191 F191 := afOk_of (m := false) Tryz.func191 (by kernel_rfl) (by kernel_rfl) (by kernel_rfl)
theorem okc192 : AfOk Tryz.prog false 192 F192 := afOk_of (m := false) Tryz.func192 (by kernel_rfl) (by kernel_rfl) (by kernel_rfl)
theorem okc193 : AfOk Tryz.prog false 193 F193 := afOk_of (m := false) Tryz.func193 (by kernel_rfl) (by kernel_rfl) (by kernel_rfl)
theorem okc194 : AfOk Tryz.prog false 194 F194 := afOk_of (m := false) Tryz.func194 (by kernel_rfl) (by kernel_rfl) (by kernel_rfl)
theorem okc195 : AfOk Tryz.prog false 195 F195 := afOk_of (m := false) Tryz.func195 (by kernel_rfl) (by kernel_rfl) (by kernel_rfl)
theorem okc198 : AfOk Tryz.prog false 198 F198 := afOk_of (m := false) Tryz.func198 (by kernel_rfl) (by kernel_rfl) (by kernel_rfl)
theorem okc199 : AfOk Tryz.prog false 199 F199 := afOk_of (m := false) Tryz.func199 (by kernel_rfl) (by kernel_rfl) (by kernel_rfl)
theorem okc205 : AfOk Tryz.prog false 205 F205 := afOk_of (m := false) Tryz.func205 (by kernel_rfl) (by kernel_rfl) (by kernel_rfl)
theorem okc216 : AfOk Tryz.prog false 216 F216 := afOk_of (m := false) Tryz.func216 (by kernel_rfl) (by kernel_rfl) (by kernel_rfl)
theorem okc224 : AfOk Tryz.prog false 224 F224 := afOk_of (m := false) Tryz.func224 (by kernel_rfl) (by kernel_rfl) (by kernel_rfl)
theorem okc225 : AfOk Tryz.prog false 225 F225 := afOk_of (m := false) Tryz.func225 (by kernel_rfl) (by kernel_rfl) (by kernel_rfl)
theorem okc227 : AfOk Tryz.prog false 227 F227 := afOk_of (m := false) Tryz.func227 (by kernel_rfl) (by kernel_rfl) (by kernel_rfl)
theorem okc228 : AfOk Tryz.prog false 228 F228 := afOk_of (m := false) Tryz.func228 (by kernel_rfl) (by kernel_rfl) (by kernel_rfl)
theorem okc229 : AfOk Tryz.prog false 229 F229 := afOk_of (m := false) Tryz.func229 (by kernel_rfl) (by kernel_rfl) (by kernel_rfl)
theorem okc230 : AfOk Tryz.prog false 230 F230 := afOk_of (m := false) Tryz.func230 (by kernel_rfl) (by kernel_rfl) (by kernel_rfl)
theorem okc231 : AfOk Tryz.prog false 231 F231 := afOk_of (m := false) Tryz.func231 (by kernel_rfl) (by kernel_rfl) (by kernel_rfl)
theorem okc232 : AfOk Tryz.prog false 232 F232 := afOk_of (m := false) Tryz.func232 (by kernel_rfl) (by kernel_rfl) (by kernel_rfl)
theorem okc233 : AfOk Tryz.prog false 233 F233 := afOk_of (m := false) Tryz.func233 (by kernel_rfl) (by kernel_rfl) (by kernel_rfl)
theorem okc234 : AfOk Tryz.prog false 234 F234 := afOk_of (m := false) Tryz.func234 (by kernel_rfl) (by kernel_rfl) (by kernel_rfl)
theorem okc235 : AfOk Tryz.prog false 235 F235 := afOk_of (m := false) Tryz.func235 (by kernel_rfl) (by kernel_rfl) (by kernel_rfl)
theorem okc239 : AfOk Tryz.prog false 239 F239 := afOk_of (m := false) Tryz.func239 (by kernel_rfl) (by kernel_rfl) (by kernel_rfl)
theorem okc247 : AfOk Tryz.prog false 247 F247 := afOk_of (m := false) Tryz.func247 (by kernel_rfl) (by kernel_rfl) (by kernel_rfl)
theorem okc248 : AfOk Tryz.prog false 248 F248 := afOk_of (m := false) Tryz.func248 (by kernel_rfl) (by kernel_rfl) (by kernel_rfl)
theorem okc249 : AfOk Tryz.prog false 249 F249 := afOk_of (m := false) Tryz.func249 (by kernel_rfl) (by kernel_rfl) (by kernel_rfl)
theorem okc250 : AfOk Tryz.prog false 250 F250 := afOk_of (m := false) Tryz.func250 (by kernel_rfl) (by kernel_rfl) (by kernel_rfl)
theorem okc251 : AfOk Tryz.prog false 251 F251 := afOk_of (m := false) Tryz.func251 (by kernel_rfl) (by kernel_rfl) (by kernel_rfl)
theorem okc252 : AfOk Tryz.prog false 252 F252 := afOk_of (m := false) Tryz.func252 (by kernel_rfl) (by kernel_rfl) (by kernel_rfl)
theorem okc253 : AfOk Tryz.prog false 253 F253 := afOk_of (m := false) Tryz.func253 (by kernel_rfl) (by kernel_rfl) (by kernel_rfl)
theorem okc256 : AfOk Tryz.prog false 256 F256 := afOk_of (m := false) Tryz.func256 (by kernel_rfl) (by kernel_rfl) (by kernel_rfl)
theorem okc261 : AfOk Tryz.prog false 261 F261 := afOk_of (m := false) Tryz.func261 (by kernel_rfl) (by kernel_rfl) (by kernel_rfl)
theorem okc262 : AfOk Tryz.prog false 262 F262 := afOk_of (m := false) Tryz.func262 (by kernel_rfl) (by kernel_rfl) (by kernel_rfl)
theorem okc263 : AfOk Tryz.prog false 263 F263 := afOk_of (m := false) Tryz.func263 (by kernel_rfl) (by kernel_rfl) (by kernel_rfl)
theorem okc265 : AfOk Tryz.prog false 265 F265 := afOk_of (m := false) Tryz.func265 (by kernel_rfl) (by kernel_rfl) (by kernel_rfl)
theorem okc267 : AfOk Tryz.prog false 267 F267 := afOk_of (m := false) Tryz.func267 (by kernel_rfl) (by kernel_rfl) (by kernel_rfl)
theorem okc271 : AfOk Tryz.prog false 271 F271 := afOk_of (m := false) Tryz.func271 (by kernel_rfl) (by kernel_rfl) (by kernel_rfl)
theorem okc280 : AfOk Tryz.prog false 280 F280 := afOk_of (m := false) Tryz.func280 (by kernel_rfl) (by kernel_rfl) (by kernel_rfl)
theorem oks75 : AfOk Tryz.prog true 75 S75 := afOk_of (m := true) Tryz.func75 (by kernel_rfl) (by kernel_rfl) (by kernel_rfl)
theorem oks76 : AfOk Tryz.prog true 76 S76 := afOk_of (m := true) Tryz.func76 (by kernel_rfl) (by kernel_rfl) (by kernel_rfl)
theorem oks82 : AfOk Tryz.prog true 82 S82 := afOk_of (m := true) Tryz.func82 (by kernel_rfl) (by kernel_rfl) (by kernel_rfl)
theorem oks102 : AfOk Tryz.prog true 102 S102 := afOk_of (m := true) Tryz.func102 (by kernel_rfl) (by kernel_rfl) (by kernel_rfl)
theorem oks108 : AfOk Tryz.prog true 108 S108 := afOk_of (m := true) Tryz.func108 (by kernel_rfl) (by kernel_rfl) (by kernel_rfl)
theorem oks109 : AfOk Tryz.prog true 109 S109 := afOk_of (m := true) Tryz.func109 (by kernel_rfl) (by kernel_rfl) (by kernel_rfl)
theorem oks113 : AfOk Tryz.prog true 113 S113 := afOk_of (m := true) Tryz.func113 (by kernel_rfl) (by kernel_rfl) (by kernel_rfl)
theorem oks114 : AfOk Tryz.prog true 114 S114 := afOk_of (m := true) Tryz.func114 (by kernel_rfl) (by kernel_rfl) (by kernel_rfl)
theorem oks115 : AfOk Tryz.prog true 115 S115 := afOk_of (m := true) Tryz.func115 (by kernel_rfl) (by kernel_rfl) (by kernel_rfl)
theorem oks117 : AfOk Tryz.prog true 117 S117 := afOk_of (m := true) Tryz.func117 (by kernel_rfl) (by kernel_rfl) (by kernel_rfl)
theorem oks146 : AfOk Tryz.prog true 146 S146 := afOk_of (m := true) Tryz.func146 (by kernel_rfl) (by kernel_rfl) (by kernel_rfl)
theorem oks149 : AfOk Tryz.prog true 149 S149 := afOk_of (m := true) Tryz.func149 (by kernel_rfl) (by kernel_rfl) (by kernel_rfl)
theorem oks150 : AfOk Tryz.prog true 150 S150 := afOk_of (m := true) Tryz.func150 (by kernel_rfl) (by kernel_rfl) (by kernel_rfl)
theorem oks152 : AfOk Tryz.prog true 152 S152 := afOk_of (m := true) Tryz.func152 (by kernel_rfl) (by kernel_rfl) (by kernel_rfl)
theorem oks154 : AfOk Tryz.prog true 154 S154 := afOk_of (m := true) Tryz.func154 (by kernel_rfl) (by kernel_rfl) (by kernel_rfl)
theorem oks156 : AfOk Tryz.prog true 156 S156 := afOk_of (m := true) Tryz.func156 (by kernel_rfl) (by kernel_rfl) (by kernel_rfl)
theorem oks157 : AfOk Tryz.prog true 157 S157 := afOk_of (m := true) Tryz.func157 (by kernel_rfl) (by kernel_rfl) (by kernel_rfl)
theorem oks175 : AfOk Tryz.prog true 175 S175 := afOk_of (m := true) Tryz.func175 (by kernel_rfl) (by kernel_rfl) (by kernel_rfl)
theorem oks196 : AfOk Tryz.prog true 196 S196 := afOk_of (m := true) Tryz.func196 (by kernel_rfl) (by kernel_rfl) (by kernel_rfl)
theorem oks197 : AfOk Tryz.prog true 197 S197 := afOk_of (m := true) Tryz.func197 (by kernel_rfl) (by kernel_rfl) (by kernel_rfl)
theorem oks217 : AfOk Tryz.prog true 217 S217 := afOk_of (m := true) Tryz.func217 (by kernel_rfl) (by kernel_rfl) (by kernel_rfl)
theorem oks236 : AfOk Tryz.prog true 236 S236 := afOk_of (m := true) Tryz.func236 (by kernel_rfl) (by kernel_rfl) (by kernel_rfl)
theorem oks237 : AfOk Tryz.prog true 237 S237 := afOk_of (m := true) Tryz.func237 (by kernel_rfl) (by kernel_rfl) (by kernel_rfl)
theorem oks238 : AfOk Tryz.prog true 238 S238 := afOk_of (m := true) Tryz.func238 (by kernel_rfl) (by kernel_rfl) (by kernel_rfl)
theorem oks254 : AfOk Tryz.prog true 254 S254 := afOk_of (m := true) Tryz.func254 (by kernel_rfl) (by kernel_rfl) (by kernel_rfl)
theorem oks255 : AfOk Tryz.prog true 255 S255 := afOk_of (m := true) Tryz.func255 (by kernel_rfl) (by kernel_rfl) (by kernel_rfl)
theorem oks264 : AfOk Tryz.prog true 264 S264 := afOk_of (m := true) Tryz.func264 (by kernel_rfl) (by kernel_rfl) (by kernel_rfl)
theorem oks272 : AfOk Tryz.prog true 272 S272 := afOk_of (m := true) Tryz.func272 (by kernel_rfl) (by kernel_rfl) (by kernel_rfl)
set_option maxRecDepth 100000 in
theorem fcOk_1 {f : FuncId} {af : AF} (h : fc_1 f = some af) : AfOk Tryz.prog false f af := by
  unfold fc_1 at h
  split at h
  · cases h; exact okc194
  · cases h; exact okc195
  · cases h; exact okc198
  · cases h; exact okc199
  · cases h; exact okc205
  · cases h; exact okc216
  · cases h; exact okc224
  · cases h; exact okc225
  · cases h; exact okc227
  · cases h; exact okc228
  · cases h; exact okc229
  · cases h; exact okc230
  · cases h; exact okc231
  · cases h; exact okc232
  · cases h; exact okc233
  · cases h; exact okc234
  · cases h; exact okc235
  · cases h; exact okc239
  · cases h; exact okc247
  · cases h; exact okc248
  · cases h; exact okc249
  · cases h; exact okc250
  · cases h; exact okc251
  · cases h; exact okc252
  · cases h; exact okc253
  · cases h; exact okc256
  · cases h; exact okc261
  · cases h; exact okc262
  · cases h; exact okc263
  · cases h; exact okc265
  · cases h; exact okc267
  · cases h; exact okc271
  · cases h; exact okc280
  · cases h
set_option maxRecDepth 100000 in
theorem fcOk_0 {f : FuncId} {af : AF} (h : fc f = some af) : AfOk Tryz.prog false f af := by
  unfold fc at h
  split at h
  · cases h; exact okc5
  · cases h; exact okc14
  · cases h; exact okc21
  · cases h; exact okc22
  · cases h; exact okc23
  · cases h; exact okc24
  · cases h; exact okc25
  · cases h; exact okc26
  · cases h; exact okc27
  · cases h; exact okc32
  · cases h; exact okc67
  · cases h; exact okc70
  · cases h; exact okc71
  · cases h; exact okc72
  · cases h; exact okc73
  · cases h; exact okc74
  · cases h; exact okc78
  · cases h; exact okc81
  · cases h; exact okc104
  · cases h; exact okc105
  · cases h; exact okc107
  · cases h; exact okc110
  · cases h; exact okc111
  · cases h; exact okc112
  · cases h; exact okc116
  · cases h; exact okc118
  · cases h; exact okc119
  · cases h; exact okc124
  · cases h; exact okc126
  · cases h; exact okc127
  · cases h; exact okc129
  · cases h; exact okc130
  · cases h; exact okc147
  · cases h; exact okc148
  · cases h; exact okc151
  · cases h; exact okc153
  · cases h; exact okc155
  · cases h; exact okc163
  · cases h; exact okc167
  · cases h; exact okc168
  · cases h; exact okc169
  · cases h; exact okc172
  · cases h; exact okc173
  · cases h; exact okc174
  · cases h; exact okc188
  · cases h; exact okc189
  · cases h; exact okc190
  · cases h; exact okc191
  · cases h; exact okc192
  · cases h; exact okc193
  · exact fcOk_1 h
set_option maxRecDepth 100000 in
theorem fsOk_0 {f : FuncId} {af : AF} (h : fs f = some af) : AfOk Tryz.prog true f af := by
  unfold fs at h
  split at h
  · cases h; exact oks75
  · cases h; exact oks76
  · cases h; exact oks82
  · cases h; exact oks102
  · cases h; exact oks108
  · cases h; exact oks109
  · cases h; exact oks113
  · cases h; exact oks114
  · cases h; exact oks115
  · cases h; exact oks117
  · cases h; exact oks146
  · cases h; exact oks149
  · cases h; exact oks150
  · cases h; exact oks152
  · cases h; exact oks154
  · cases h; exact oks156
  · cases h; exact oks157
  · cases h; exact oks175
  · cases h; exact oks196
  · cases h; exact oks197
  · cases h; exact oks217
  · cases h; exact oks236
  · cases h; exact oks237
  · cases h; exact oks238
  · cases h; exact oks254
  · cases h; exact oks255
  · cases h; exact oks264
  · cases h; exact oks272
  · cases h
theorem envOk : EnvOk Tryz.prog E := ⟨fun _ _ h => fcOk_0 h, fun _ _ h => fsOk_0 h⟩
end Go.Pv.T

/- The row's side, the same for every law of the seat. -/
namespace Go.Pv.T
open Go Go.Pv Go.Proofs Go.ChangeShapes Go.WideShapes Go.ChangeAt Go.RowKit Go.Proofs.YtopjfnbonjmnjaaGreatDoor

theorem own : ownKnob Tryz.prog.godebug = none := by kernel_rfl
theorem laidOut : laidOutB Tryz.prog = true := by kernel_rfl
theorem mixed : Tryz.prog.follows .mixedOrders = true := by kernel_rfl

/-- What is laid ahead of the call. -/
def laidL : List (String × DataW Unit) := [("unicode/utf8.acceptRanges", Rows.laid_unicode_utf8_acceptRanges), ("deemster/event.words", Rows.laid_deemster_event_words), ("unicode/utf8.first", Rows.laid_unicode_utf8_first)]

def litVal : V → Value
  | .int k n => .int k n
  | .str s => .string ⟨s.toArray⟩
  | _ => .nilFunc
def putCells (h : Array Obj) (g : Nat) (cs : Array Value) : Array Obj := h.modify g fun
    | .cells _ t frozen => .cells cs t frozen
    | o => o
def acceptCells : Array Value := #[.int .u8 128, .int .u8 191, .int .u8 160, .int .u8 191, .int .u8 128, .int .u8 159, .int .u8 144, .int .u8 191, .int .u8 128, .int .u8 143, .int .u8 0, .int .u8 0, .int .u8 0, .int .u8 0, .int .u8 0, .int .u8 0, .int .u8 0, .int .u8 0, .int .u8 0, .int .u8 0, .int .u8 0, .int .u8 0, .int .u8 0, .int .u8 0, .int .u8 0, .int .u8 0, .int .u8 0, .int .u8 0, .int .u8 0, .int .u8 0, .int .u8 0, .int .u8 0]
/-- A start that meets the condition: the settled world, three variables laid. -/
noncomputable def laidWorld (os : Os) : World :=
  let w0 := World.holding Tryz.prog os ⟨#[], #[], []⟩
  { w0 with heap := putCells (putCells (putCells w0.heap 0 (words.map litVal).toArray) 1 (utf8first.map litVal).toArray) 2 acceptCells }
set_option maxRecDepth 100000 in
theorem door_met (os : Os) (args : Array Value) : laidMetH Tryz.prog laidL ((laidWorld os).forCall (fun _ _ => 0) ⟨#[], args, []⟩).memory := by
  rw [MakeChecks.laidMetH_plain _ _ _ (by kernel_rfl)]
  exact laidMet_of_run' 8 (by kernel_rfl) (by kernel_rfl)

theorem gWords : Tryz.prog.globalNamed "deemster/event.words" = some 0 := by kernel_rfl
theorem gFirst : Tryz.prog.globalNamed "unicode/utf8.first" = some 1 := by kernel_rfl
theorem tWords : (Tryz.prog.globals[0]?).map (·.type) = some 274 := by kernel_rfl
theorem tFirst : (Tryz.prog.globals[1]?).map (·.type) = some 286 := by kernel_rfl

/-- What a world's cells say. -/
def cellsI (W : World) : IMap := fun b o => W.cell? ⟨b, o, none⟩
theorem cellsI_ok (W : World) : ImmOk (cellsI W) W := fun _ _ _ h => h

def litV : DataW Unit → V
  | .lit (.int k n) => .int k n
  | .lit (.string s) => .str s
  | _ => .undef

/-- An array of plain cells that reads as listed. -/
theorem arr_rep {W : World} {t e : TypeId} {n fuel : Nat} {cs : List Value} {ds : List (DataW Unit)} {p : List MemPlace} (ht : Tryz.prog.underlying t = some (.array n e)) (hc : Tryz.prog.cellsOf e = 1)
    (he : Tryz.prog.underlying e = some .string ∨ ∃ k, Tryz.prog.underlying e = some (.int k)) (h : DataW.trod (fun _ => ()) Tryz.prog W 0 (fun _ => true) false fuel t cs = some (.agg ds, p)) (I : IMap) :
    ∀ (j : Nat) (d : DataW Unit), ds[j]? = some d → ∃ x, cs[j]? = some x ∧ RepP I x (litV d) := by
  obtain ⟨xs, m, rfl, hx, hlen, hn, hel⟩ := DataW.trod_array ht h
  intro j d hd
  simp only [Prod.mk.injEq, DataW.agg.injEq] at hx
  rw [hx.1, List.getElem?_map] at hd
  cases hy : xs[j]? with
  | none => simp [hy] at hd
  | some y =>
    rw [hy] at hd
    simp only [Option.map_some, Option.some.injEq] at hd
    have hj : j < n := by rw [← hn]; exact (List.getElem?_eq_some_iff.1 hy).1
    have := hel j hj
    rw [hc, Nat.mul_one, hy] at this
    have one : ∀ c, (cs.drop j).take 1 = [c] → cs[j]? = some c := by
      intro c hcc
      have := congrArg List.head? hcc
      simpa [List.head?_take, List.head?_drop] using this
    rcases he with he | ⟨k, he⟩
    · obtain ⟨s, e1, e2, _⟩ := DataW.trod_string he this
      refine ⟨_, one _ e1, ?_⟩
      rw [← hd, e2]
      exact RepP.str s
    · obtain ⟨s, e1, e2, _⟩ := DataW.trod_int he this
      refine ⟨_, one _ e1, ?_⟩
      rw [← hd, e2]
      exact RepP.int k s

theorem gl_rep {W : World} {nm : String} {g : Nat} {cs : Array Value} {ds : List (DataW Unit)} (hg : Tryz.prog.globalNamed nm = some g) (hv : W.var? Tryz.prog nm = some cs) (hp : (ds.map litV).all V.pureLeaf = true)
    (h : ∀ (j : Nat) (d : DataW Unit), ds[j]? = some d → ∃ x, cs.toList[j]? = some x ∧ RepP (cellsI W) x (litV d)) : RepP (cellsI W) (.pointer (some ⟨g, 0, none⟩)) (.eptr (ds.map litV) 0) := by
  have hc := World.var?_cell hg hv
  refine RepP.eptr g 0 0 (ds.map litV) (fun j => (cs[j]?).getD .nilFunc) (fun j hj => ?_) (fun j v hj => ?_) (fun j v hj => ?_)
  · rw [List.length_map] at hj
    obtain ⟨x, hx, _⟩ := h j ds[j] (List.getElem?_eq_getElem hj)
    have hx' : cs[j]? = some x := by simpa using hx
    show W.cell? ⟨g, 0 + j, none⟩ = _
    rw [Nat.zero_add, hc j, hx']
    rfl
  · exact List.all_eq_true.1 hp v (List.mem_of_getElem? hj)
  · rw [List.getElem?_map] at hj
    cases hd : ds[j]? with
    | none => rw [hd] at hj; cases hj
    | some d =>
      rw [hd] at hj
      cases hj
      obtain ⟨x, hx, hr⟩ := h j d hd
      have hx' : cs[j]? = some x := by simpa using hx
      rw [hx']
      exact hr

def aggOf : DataW Unit → List (DataW Unit)
  | .agg l => l
  | _ => []
theorem words_eq : (aggOf Rows.laid_deemster_event_words).map litV = words := by kernel_rfl
theorem first_eq : (aggOf Rows.laid_unicode_utf8_first).map litV = utf8first := by kernel_rfl
theorem first_agg : Rows.laid_unicode_utf8_first = .agg (aggOf Rows.laid_unicode_utf8_first) := by kernel_rfl
theorem words_pure : ((aggOf Rows.laid_deemster_event_words).map litV).all V.pureLeaf = true := by kernel_rfl
theorem first_pure : ((aggOf Rows.laid_unicode_utf8_first).map litV).all V.pureLeaf = true := by kernel_rfl

/-- Behind a call that leaves what was there as it was, each argument reads as it did. -/
theorem all_below {H : Type} {enc : TypeId × Value → H} {W W' : World} (hb : Below W.heap.size W W') : ∀ {ts : List TypeId} {vs : List Value} {ds : List (DataW H)} {ps : List MemPlace},
    (∀ t ∈ ts, Tryz.prog.readableRec t = true ∧ t < Tryz.prog.types.size) → (∀ x ∈ ps, x.block < W.heap.size) →
    DataW.TrodAll enc Tryz.prog W 0 (fun _ => true) true ts vs ds ps → DataW.TrodAll enc Tryz.prog W' 0 (fun b => decide (b < W.heap.size)) true ts vs ds ps
  | [], [], [], _, _, _, h => h
  | t :: ts, v :: vs, d :: ds, _, ht, hlt, ⟨p, q, h1, h2, e⟩ => by
    subst e
    exact ⟨p, q, Below.trod laidOut (ht t (List.mem_cons_self ..)).1 (ht t (List.mem_cons_self ..)).2 h1 hb (fun x hx => hlt x (List.mem_append_left _ hx)),
      all_below hb (fun t' h' => ht t' (List.mem_cons_of_mem _ h')) (fun x hx => hlt x (List.mem_append_right _ hx)) h2, rfl⟩
  | [], _ :: _, _, _, _, _, h => h.elim
  | [], [], _ :: _, _, _, _, h => h.elim
  | _ :: _, [], _, _, _, _, h => h.elim
  | _ :: _, _ :: _, [], _, _, _, h => h.elim

/-- The row's word behind a call that answers true and turns nothing. -/
theorem post_true {H : Type} {enc : TypeId × Value → H} {fn : Func} {s : ChangeSpec} {W W' : World} {args : Array Value} {ds gs : List (DataW H)} {before : List MemPlace} (hW : DataW.Whole enc Tryz.prog fn.params.toList s.vars false W args.toList ds gs before)
    (hv : s.vars = []) (hr : fn.resultTypes = #[4]) (hs : (s.fn H ds).results = [.lit (.bool true)]) (ha : (s.fn H ds).args = ds) (hvs : (s.fn H ds).vars = [])
    (ht : ∀ t ∈ fn.params.toList, Tryz.prog.readableRec t = true ∧ t < Tryz.prog.types.size) (hg : W.grownBy W' none) : s.post enc Tryz.prog fn false true false false W args (.bool true) W' := by
  have hb : Below W.heap.size W W' := (Below.refl _ W).grown hg (Nat.le_refl _) (fun _ h => by cases h)
  have hW' := hW
  obtain ⟨p, q, hA, hV, rfl, _, _⟩ := hW
  rw [hv] at hV
  obtain ⟨rfl, rfl⟩ := trodVars_none hV
  have hlt : ∀ x ∈ p, x.block < W.heap.size := fun x hx => by simpa using hW'.lt x (List.mem_append_left _ hx)
  refine ⟨ds, [], _, [], p, [], hW', ?_, ?_, ?_, hb.frame _, fun h => by cases h⟩
  · rw [List.append_nil, hs, hr]
    exact trodAll_mk1 (shut_bool Tryz.underlying4 _)
  · rw [List.append_nil, ha]
    exact all_below hb ht hlt hA
  · rw [List.append_nil, hvs, hv]
    rfl
end Go.Pv.T

/- Data that come in, of whatever plain type, as the interpreter has them. -/
namespace Go.Pv.T
open Go Go.Pv Go.Proofs Go.ChangeShapes Go.WideShapes Go.ChangeAt Go.RowKit

inductive Ty where
  | bool
  | int (k : IntKind)
  | str
  | unit
  | pair (a b : Ty)
  | slice (t : Ty)

def Ty.cells : Ty → Nat
  | .unit => 0
  | .pair a b => a.cells + b.cells
  | _ => 1

/-- Cells of a shape. -/
inductive Sh : Ty → List V → Prop where
  | bool (b : Bool) : Sh .bool [.bool b]
  | int (k : IntKind) (n : Int) : Sh (.int k) [.int k n]
  | str (s : List UInt8) : Sh .str [.str s]
  | unit : Sh .unit []
  | pair {a b : Ty} {va vb : List V} (ha : Sh a va) (hb : Sh b vb) : Sh (.pair a b) (va ++ vb)
  | nil {t : Ty} : Sh (.slice t) [.sl none true 0 []]
  | slice {t : Ty} (es : List (List V)) (hn : es.length ≤ maxLen) (h : ∀ e ∈ es, Sh t e) : Sh (.slice t) [.sl none false es.length es.flatten]

def fieldsTy (P : Program) (g : TypeId → Option Ty) : List Field → Nat → Option Ty
  | [], _ => some .unit
  | f :: r, off => if f.offset = off then (g f.type).bind fun a => if P.cellsOf f.type = a.cells then (fieldsTy P g r (off + a.cells)).map (.pair a) else none else none
def tyOf (P : Program) : Nat → TypeId → Option Ty
  | 0, _ => none
  | n + 1, t => match P.underlying t with
    | some .bool => some .bool
    | some (.int k) => some (.int k)
    | some .string => some .str
    | some (.slice e) => (tyOf P n e).bind fun ty => if P.cellsOf e = ty.cells then some (.slice ty) else none
    | some (.struct fs) => (fieldsTy P (tyOf P n) fs.toList 0).bind fun ty => if P.cellsOf t = ty.cells then some ty else none
    | _ => none

theorem Sh.len {t : Ty} {vs : List V} (h : Sh t vs) : vs.length = t.cells := by
  induction h with
  | pair _ _ iha ihb => simp [Ty.cells, iha, ihb]
  | _ => rfl
theorem Sh.pure {t : Ty} {vs : List V} (h : Sh t vs) : ∀ v ∈ vs, v.pureLeaf = true := by
  induction h with
  | pair _ _ iha ihb => intro v hv; rcases List.mem_append.1 hv with h | h; exact iha v h; exact ihb v h
  | unit => intro v hv; cases hv
  | _ => intro v hv; rw [List.mem_singleton] at hv; subst hv; rfl

def Reps (I : IMap) (cs : List Value) (vs : List V) : Prop := cs.length = vs.length ∧ ∀ (j : Nat) (x : Value) (v : V), cs[j]? = some x → vs[j]? = some v → RepP I x v

theorem Reps.one {I : IMap} {x : Value} {v : V} (h : RepP I x v) : Reps I [x] [v] :=
  ⟨rfl, fun j y u hj hu => by
    match j, hj, hu with
    | 0, hj, hu => cases hj; cases hu; exact h
    | j + 1, hj, _ => simp at hj⟩

theorem flat_get {α : Type} {sz : Nat} (hs : 0 < sz) : ∀ (es : List (List α)), (∀ e ∈ es, e.length = sz) → ∀ j, es.flatten[j]? = (es[j / sz]?).bind fun e => e[j % sz]?
  | [], _, j => by simp
  | e :: es, h, j => by
    have he := h e (List.mem_cons_self ..)
    rw [List.flatten_cons, List.getElem?_append, he]
    split
    · rename_i hlt
      rw [Nat.div_eq_of_lt hlt, Nat.mod_eq_of_lt hlt]
      rfl
    · rename_i hge
      have hj : j = (j - sz) + sz := by omega
      rw [flat_get hs es (fun e he => h e (List.mem_cons_of_mem _ he)) (j - sz)]
      conv => rhs; rw [hj, Nat.add_div_right _ hs, Nat.add_mod_right]
      rfl
theorem flat_len {α : Type} {sz : Nat} : ∀ (es : List (List α)), (∀ e ∈ es, e.length = sz) → es.flatten.length = es.length * sz
  | [], _ => by simp
  | e :: es, h => by
    rw [List.flatten_cons, List.length_append, h e (List.mem_cons_self ..), flat_len es (fun e he => h e (List.mem_cons_of_mem _ he)), List.length_cons, Nat.succ_mul]
    omega

section
variable {H : Type} {enc : TypeId × Value → H} {W : World} {P : Program}

/-- For each of many there is one: a list of them. -/
theorem pick_list {α : Type} {p : Nat → α → Prop} : ∀ (n : Nat), (∀ i, i < n → ∃ a, p i a) → ∃ l : List α, l.length = n ∧ ∀ i a, l[i]? = some a → p i a
  | 0, _ => ⟨[], rfl, fun i a h => by simp at h⟩
  | n + 1, h => by
    obtain ⟨l, h1, h2⟩ := pick_list n (fun i hi => h i (by omega))
    obtain ⟨a, ha⟩ := h n (by omega)
    refine ⟨l ++ [a], by simp [h1], fun i b hb => ?_⟩
    rw [List.getElem?_append] at hb
    split at hb
    · exact h2 i b hb
    · rename_i hge
      have : i = n := by
        have := (List.getElem?_eq_some_iff.1 hb).1
        simp at this
        omega
      subst this
      simp [h1] at hb
      subst hb
      exact ha

theorem fields_rep {g : TypeId → Option Ty} {n : Nat} {cs : List Value} (ih : ∀ t ty, g t = some ty → ∀ cs x, DataW.trod enc P W 0 (fun _ => true) true n t cs = some x → ∃ vs, Sh ty vs ∧ Reps (cellsI W) cs vs) :
    ∀ (fs : List Field) (off : Nat) (ty : Ty), fieldsTy P g fs off = some ty → (∀ f ∈ fs, ∃ x, DataW.trod enc P W 0 (fun _ => true) true n f.type ((cs.drop f.offset).take (P.cellsOf f.type)) = some x) → cs.length = off + ty.cells →
      ∃ vs, Sh ty vs ∧ Reps (cellsI W) (cs.drop off) vs
  | [], off, ty, h, _, hl => by
    simp only [fieldsTy, Option.some.injEq] at h
    subst h
    simp only [Ty.cells, Nat.add_zero] at hl
    exact ⟨[], .unit, by simp [hl], fun j x v _ hv => by simp at hv⟩
  | f :: r, off, ty, h, hx, hl => by
    simp only [fieldsTy] at h
    split at h
    · rename_i hoff
      cases hg : g f.type with
      | none => rw [hg] at h; cases h
      | some a =>
        rw [hg, Option.bind_some] at h
        split at h
        · rename_i hc
          cases hr : fieldsTy P g r (off + a.cells) with
          | none => rw [hr] at h; cases h
          | some b =>
            rw [hr] at h
            cases h
            simp only [Ty.cells] at hl
            obtain ⟨x, hx0⟩ := hx f (List.mem_cons_self ..)
            obtain ⟨va, ha, hra⟩ := ih f.type a hg _ _ hx0
            obtain ⟨vb, hb, hrb⟩ := fields_rep ih r (off + a.cells) b hr (fun f' hf => hx f' (List.mem_cons_of_mem _ hf)) (by omega)
            refine ⟨va ++ vb, .pair ha hb, ?_, fun j y u hj hu => ?_⟩
            · have := ha.len; have := hb.len
              simp only [List.length_drop, List.length_append]
              omega
            · rw [hoff, hc] at hra
              rw [List.getElem?_append] at hu
              rw [ha.len] at hu
              rw [List.getElem?_drop] at hj
              split at hu
              · rename_i hlt
                exact hra.2 j y u (by rw [List.getElem?_take, if_pos hlt, List.getElem?_drop]; exact hj) hu
              · rename_i hge
                exact hrb.2 (j - a.cells) y u (by rw [List.getElem?_drop, show off + a.cells + (j - a.cells) = off + j from by omega]; exact hj) hu
        · cases h
    · cases h

theorem rep_of : ∀ (n : Nat) (t : TypeId) (ty : Ty), tyOf P n t = some ty → ∀ (fuel : Nat) (cs : List Value) (x : DataW H × List MemPlace), DataW.trod enc P W 0 (fun _ => true) true fuel t cs = some x → ∃ vs, Sh ty vs ∧ Reps (cellsI W) cs vs
  | 0, _, _, h, _, _, _, _ => by cases h
  | n + 1, t, ty, h, fuel, cs, x, hx => by
    simp only [tyOf] at h
    split at h
    · rename_i ht
      cases h
      obtain ⟨b, rfl, _⟩ := DataW.trod_bool ht hx
      exact ⟨_, .bool b, Reps.one (.bool b)⟩
    · rename_i k ht
      cases h
      obtain ⟨b, rfl, _⟩ := DataW.trod_int ht hx
      exact ⟨_, .int k b, Reps.one (.int k b)⟩
    · rename_i ht
      cases h
      obtain ⟨s, rfl, _⟩ := DataW.trod_string ht hx
      exact ⟨_, .str s.data.toList, Reps.one (.str s)⟩
    · rename_i e ht
      cases he : tyOf P n e with
      | none => rw [he] at h; cases h
      | some te =>
        rw [he, Option.bind_some] at h
        split at h
        · rename_i hc
          cases h
          rcases DataW.trod_slice ht hx with ⟨rfl, _⟩ | ⟨a, len, cap, elems, rest, m, _, rfl, _, _, hl, hm, hlen, hel, _, _⟩
          · exact ⟨_, .nil, Reps.one .slnil⟩
          · have each : ∀ i, i < len → ∃ vs, Sh te vs ∧ ∃ c, W.cells? 0 (a.add (i * te.cells)) te.cells = some c ∧ Reps (cellsI W) c vs := by
              intro i hi
              have h1 := hel i hi
              rw [List.getElem?_eq_getElem (by omega), hc] at h1
              obtain ⟨c, hc1, hc2⟩ := Option.bind_eq_some_iff.1 h1
              obtain ⟨vs, h3, h4⟩ := rep_of n e te he m c _ hc2
              exact ⟨vs, h3, c, hc1, h4⟩
            obtain ⟨es, h1, h2⟩ := pick_list len each
            have hsh : ∀ e ∈ es, Sh te e := fun e he => by
              obtain ⟨i, hi⟩ := List.getElem?_of_mem he
              exact (h2 i e hi).1
            have hsz : ∀ e ∈ es, e.length = te.cells := fun e he => (hsh e he).len
            have key : ∀ (j : Nat) (v : V), es.flatten[j]? = some v → 0 < te.cells ∧ j / te.cells < len ∧ ∃ y, W.cell? ((a.add (j / te.cells * te.cells)).add (j % te.cells)) = some y ∧ RepP (cellsI W) y v ∧ v.pureLeaf = true := by
              intro j v hj
              have h0 : 0 < te.cells := by
                rcases Nat.eq_zero_or_pos te.cells with h | h
                · have := flat_len es hsz
                  rw [h, Nat.mul_zero] at this
                  rw [List.length_eq_zero_iff.1 this] at hj
                  simp at hj
                · exact h
              rw [flat_get h0 es hsz] at hj
              cases hee : es[j / te.cells]? with
              | none => rw [hee] at hj; cases hj
              | some e =>
                rw [hee, Option.bind_some] at hj
                have hlt : j / te.cells < len := by rw [← h1]; exact (List.getElem?_eq_some_iff.1 hee).1
                obtain ⟨hse, c, hcc, hrr⟩ := h2 _ e hee
                have hme := Nat.mod_lt j h0
                have hcell := (World.cells?_some hcc).2.2 _ hme
                have hclen : c.length = te.cells := by rw [hrr.1, hse.len]
                rw [List.getElem?_eq_getElem (by omega)] at hcell
                exact ⟨h0, hlt, _, hcell, hrr.2 _ _ v (List.getElem?_eq_getElem (by omega)) hj, hse.pure v (List.mem_of_getElem? hj)⟩
            have spot : es.flatten ≠ [] → a.spot = none := by
              intro hne
              obtain ⟨v, hv⟩ : ∃ v, es.flatten[0]? = some v := by
                cases hf : es.flatten with
                | nil => exact absurd hf hne
                | cons v l => exact ⟨v, rfl⟩
              obtain ⟨h0, _, y, hy, _⟩ := key 0 v hv
              rw [Nat.zero_div, Nat.zero_mod, Nat.zero_mul] at hy
              simpa [Addr.add] using World.cell?_spot hy
            have cellAt : ∀ (j : Nat) (v : V), es.flatten[j]? = some v → ∃ y, W.cell? ⟨a.block, a.off + j, none⟩ = some y ∧ RepP (cellsI W) y v := by
              intro j v hj
              obtain ⟨h0, _, y, hy, hr, _⟩ := key j v hj
              have hs := spot (fun h => by rw [h] at hj; simp at hj)
              obtain ⟨b, off, sp⟩ := a
              simp only at hs
              subst hs
              rw [add_plain, add_plain] at hy
              refine ⟨y, ?_, hr⟩
              rw [← hy, Nat.add_assoc, Nat.div_add_mod']
            rw [← h1] at hl
            refine ⟨_, .slice es (Nat.le_trans hl hm) hsh, Reps.one ?_⟩
            rw [h1] at hl ⊢
            refine RepP.sl a len cap es.flatten (fun j => (W.cell? ⟨a.block, a.off + j, none⟩).getD .nilFunc) spot hl hm (fun j hj => ?_) (fun j v hj => ?_) (fun j v hj => ?_)
            · obtain ⟨y, hy, _⟩ := cellAt j _ (List.getElem?_eq_getElem hj)
              show W.cell? _ = some ((W.cell? _).getD _)
              rw [hy]
              rfl
            · exact (key j v hj).2.2.choose_spec.2.2
            · obtain ⟨y, hy, hr⟩ := cellAt j v hj
              show RepP _ ((W.cell? _).getD _) v
              rw [hy]
              exact hr
        · cases h
    · rename_i fs ht
      cases hf : fieldsTy P (tyOf P n) fs.toList 0 with
      | none => rw [hf] at h; cases h
      | some b =>
        rw [hf, Option.bind_some] at h
        split at h
        · rename_i hc
          cases h
          obtain ⟨xs, m, rfl, _, hl, hn, hel⟩ := DataW.trod_struct ht hx
          have := fields_rep (n := m) (cs := cs) (fun t ty h cs x hx => rep_of n t ty h m cs x hx) fs.toList 0 ty hf (fun f hfm => by
            obtain ⟨i, hi⟩ := List.getElem?_of_mem hfm
            have hi' : fs[i]? = some f := by simpa using hi
            have h1 := hel i f hi'
            have hlt : i < xs.length := by rw [hn]; exact (Array.getElem?_eq_some_iff.1 hi').1
            rw [List.getElem?_eq_getElem hlt] at h1
            exact ⟨_, h1⟩) (by rw [Nat.zero_add, hl, hc])
          simpa using this
        · cases h
    · cases h
end
end Go.Pv.T

/- The laid variables read as the interpreter has them; a call that answers true. -/
namespace Go.Pv.T
open Go Go.Pv Go.Proofs Go.ChangeShapes Go.WideShapes Go.ChangeAt Go.RowKit Go.Proofs.YtopjfnbonjmnjaaGreatDoor

/-- An array of pairs of numbers that reads as listed. -/
theorem arr2_rep {W : World} {t e : TypeId} {n fuel : Nat} {cs : List Value} {ds : List (DataW Unit)} {p : List MemPlace} {f0 f1 : Field} {k0 k1 : IntKind} (ht : Tryz.prog.underlying t = some (.array n e)) (hc : Tryz.prog.cellsOf e = 2)
    (he : Tryz.prog.underlying e = some (.struct #[f0, f1])) (o0 : f0.offset = 0) (o1 : f1.offset = 1) (c0 : Tryz.prog.cellsOf f0.type = 1) (c1 : Tryz.prog.cellsOf f1.type = 1)
    (u0 : Tryz.prog.underlying f0.type = some (.int k0)) (u1 : Tryz.prog.underlying f1.type = some (.int k1)) (h : DataW.trod (fun _ => ()) Tryz.prog W 0 (fun _ => true) false fuel t cs = some (.agg ds, p)) (I : IMap) :
    ∀ (j : Nat) (d : DataW Unit), (ds.map aggOf).flatten[j]? = some d → ∃ x, cs[j]? = some x ∧ RepP I x (litV d) := by
  obtain ⟨xs, m, rfl, hx, hlen, hn, hel⟩ := DataW.trod_array ht h
  simp only [Prod.mk.injEq, DataW.agg.injEq] at hx
  have one : ∀ (l : List Value) (j : Nat) c, (l.drop j).take 1 = [c] → l[j]? = some c := by
    intro l j c hcc
    have := congrArg List.head? hcc
    simpa [List.head?_take, List.head?_drop] using this
  have each : ∀ (j : Nat) (y : DataW Unit × List MemPlace), xs[j]? = some y → ∃ d0 d1 x0 x1, y.1 = .agg [d0, d1] ∧ cs[j * 2]? = some x0 ∧ RepP I x0 (litV d0) ∧ cs[j * 2 + 1]? = some x1 ∧ RepP I x1 (litV d1) := by
    intro j y hy
    have hj : j < n := by rw [← hn]; exact (List.getElem?_eq_some_iff.1 hy).1
    have h2 := hel j hj
    rw [hc, hy] at h2
    obtain ⟨y0, y1, m', e1, hl2, g0, g1⟩ := trod_struct2 he h2
    rw [o0, c0] at g0
    rw [o1, c1] at g1
    obtain ⟨z0, a0, b0, _⟩ := DataW.trod_int u0 g0
    obtain ⟨z1, a1, b1, _⟩ := DataW.trod_int u1 g1
    have q0 := one _ _ _ a0
    have q1 := one _ _ _ a1
    rw [List.getElem?_take, if_pos (by omega), List.getElem?_drop] at q0 q1
    refine ⟨y0.1, y1.1, _, _, by rw [e1], by simpa using q0, ?_, q1, ?_⟩
    · rw [b0]; exact RepP.int k0 z0
    · rw [b1]; exact RepP.int k1 z1
  have hds : ds = xs.map (·.1) := hx.1
  have len2 : ∀ e ∈ ds.map aggOf, e.length = 2 := by
    intro e he
    rw [hds, List.map_map] at he
    obtain ⟨y, hy, rfl⟩ := List.mem_map.1 he
    obtain ⟨j, hj⟩ := List.getElem?_of_mem hy
    obtain ⟨d0, d1, x0, x1, e, _⟩ := each j y hj
    simp only [Function.comp, e, aggOf, List.length_cons, List.length_nil]
  intro k d hd
  rw [flat_get (by decide) _ len2] at hd
  rw [hds, List.map_map, List.getElem?_map] at hd
  cases hy : xs[k / 2]? with
  | none => rw [hy] at hd; cases hd
  | some y =>
    rw [hy] at hd
    obtain ⟨d0, d1, x0, x1, e, g0, r0, g1, r1⟩ := each _ y hy
    simp only [Option.map_some, Option.bind_some, Function.comp, e, aggOf] at hd
    rcases Nat.mod_two_eq_zero_or_one k with hk | hk
    · rw [hk] at hd
      cases hd
      rw [show k / 2 * 2 = k from by omega] at g0
      exact ⟨x0, g0, r0⟩
    · rw [hk] at hd
      cases hd
      rw [show k / 2 * 2 + 1 = k from by omega] at g1
      exact ⟨x1, g1, r1⟩

def accD : List (DataW Unit) := ((aggOf Rows.laid_unicode_utf8_acceptRanges).map aggOf).flatten
theorem gAcc : Tryz.prog.globalNamed "unicode/utf8.acceptRanges" = some 2 := by kernel_rfl
theorem acc_eq : accD.map litV = accR := by kernel_rfl
theorem acc_agg : Rows.laid_unicode_utf8_acceptRanges = .agg (aggOf Rows.laid_unicode_utf8_acceptRanges) := by kernel_rfl
theorem acc_pure : (accD.map litV).all V.pureLeaf = true := by kernel_rfl
theorem tAcc : (Tryz.prog.globals[2]?).map (·.type) = some 289 := by kernel_rfl

theorem glOk {W : World} (h : laidMetH Tryz.prog laidL W) : GlOk E (cellsI W) := by
  rw [MakeChecks.laidMetH_plain _ _ _ (by kernel_rfl)] at h
  obtain ⟨ps, ⟨g2, t2, cs2, f2, p2, q2, hg2, ht2, hv2, hd2, ⟨g0, t0, cs0, f0, p0, q0, hg0, ht0, hv0, hd0, ⟨g1, t1, cs1, f1, p1, q1, hg1, ht1, hv1, hd1, _, _⟩, _⟩, _⟩, _, _⟩ := h
  obtain rfl := Option.some.inj (gWords.symm.trans hg0)
  obtain rfl := Option.some.inj (gFirst.symm.trans hg1)
  obtain rfl := Option.some.inj (tWords.symm.trans ht0)
  obtain rfl := Option.some.inj (tFirst.symm.trans ht1)
  obtain rfl := Option.some.inj (gAcc.symm.trans hg2)
  obtain rfl := Option.some.inj (tAcc.symm.trans ht2)
  intro g cs hcs
  simp only [E] at hcs
  split at hcs
  · cases hcs
    rw [← words_eq]
    exact gl_rep gWords hv0 words_pure (arr_rep Tryz.underlying274 (by kernel_rfl) (Or.inl (by kernel_rfl)) hd0 _)
  · cases hcs
    rw [← first_eq]
    rw [first_agg] at hd1
    exact gl_rep gFirst hv1 first_pure (arr_rep Tryz.underlying286 (by kernel_rfl) (Or.inr ⟨.u8, by kernel_rfl⟩) hd1 _)
  · cases hcs
    rw [← acc_eq]
    rw [acc_agg] at hd2
    exact gl_rep gAcc hv2 acc_pure (arr2_rep (k0 := .u8) (k1 := .u8) Tryz.underlying289 (by kernel_rfl) Tryz.underlying288 rfl rfl (by kernel_rfl) (by kernel_rfl) (by kernel_rfl) (by kernel_rfl) hd2 _)
  · cases hcs


/-- What the call of a law answers, out of the interpreter's word. -/
theorem calls_true {f : FuncId} {W : World} {args : Array Value} {vs : List V} (hL : laidMetH Tryz.prog laidL W) (hlen : args.size = vs.length) (hr : ∀ (j : Nat) (x : Value) (v : V), args[j]? = some x → vs[j]? = some v → RepP (cellsI W) x v)
    (he : Ev E f vs (.bool true)) : Calls Tryz.prog f args W fun e w' => e = .returned (.bool true) ∧ W.grownBy w' none := by
  refine (Ev.sound mixed envOk he W (cellsI W) args (cellsI_ok W) (glOk hL) hlen hr).mono fun e W' ⟨x, τ, I', h1, h2, _, _, _, h3, _⟩ => ⟨?_, h2⟩
  rw [h1]
  have h4 : RepP I' x (.bool true) := h3
  cases h4
  rfl
end Go.Pv.T

/- Histories and other arguments that come in. -/
namespace Go.Pv.T
open Go Go.Pv Go.Proofs Go.ChangeShapes Go.WideShapes Go.ChangeAt Go.RowKit Go.Proofs.YtopjfnbonjmnjaaGreatDoor

abbrev valTy : Ty := .pair (.int .i64) (.pair (.int .i64) .unit)
abbrev opTy : Ty := .pair .bool (.pair (.int .i64) (.pair valTy .unit))
abbrev txnTy : Ty := .pair (.int .i64) (.pair (.int .i64) (.pair (.slice opTy) .unit))
abbrev histTy : Ty := .pair (.slice .str) (.pair (.slice .str) (.pair (.slice txnTy) .unit))

theorem sh_slice {α : Type} {t : Ty} {f : α → List V} (hf : ∀ e, Sh t e → ∃ a, e = f a) {vs : List V} (h : Sh (.slice t) vs) : ∃ nl l, vs = [slOf nl f l] := by
  cases h with
  | nil => exact ⟨true, [], rfl⟩
  | slice es hn h =>
    have all : ∀ es : List (List V), (∀ e ∈ es, Sh t e) → ∃ l : List α, es = l.map f := by
      intro es
      induction es with
      | nil => intro _; exact ⟨[], rfl⟩
      | cons e es ih =>
        intro h
        obtain ⟨a, rfl⟩ := hf e (h e (List.mem_cons_self ..))
        obtain ⟨l, rfl⟩ := ih (fun e he => h e (List.mem_cons_of_mem _ he))
        exact ⟨a :: l, rfl⟩
    obtain ⟨l, rfl⟩ := all es h
    exact ⟨false, l, by simp [slOf, List.flatMap]⟩
theorem sh_val {vs : List V} (h : Sh valTy vs) : ∃ v : Val', vs = valC v := by
  cases h with
  | pair ha hb => cases ha with
    | int _ k => cases hb with
      | pair hc hd => cases hc with
        | int _ n => cases hd; exact ⟨⟨k, n⟩, rfl⟩
theorem sh_op {vs : List V} (h : Sh opTy vs) : ∃ o : Op', vs = opC o := by
  cases h with
  | pair ha hb => cases ha with
    | bool w => cases hb with
      | pair hc hd => cases hc with
        | int _ k => cases hd with
          | pair he hf =>
            obtain ⟨v, rfl⟩ := sh_val he
            cases hf
            exact ⟨⟨w, k, v⟩, rfl⟩
theorem sh_txn {vs : List V} (h : Sh txnTy vs) : ∃ t : Txn', vs = txnC t := by
  cases h with
  | pair ha hb => cases ha with
    | int _ s => cases hb with
      | pair hc hd => cases hc with
        | int _ f => cases hd with
          | pair he hf =>
            obtain ⟨nl, l, rfl⟩ := sh_slice (f := opC) (fun e => sh_op) he
            cases hf
            exact ⟨⟨s, f, nl, l⟩, rfl⟩
theorem sh_str {vs : List V} (h : Sh .str vs) : ∃ s : List UInt8, vs = strC s := by
  cases h with
  | str s => exact ⟨s, rfl⟩
theorem sh_hist {vs : List V} (h : Sh histTy vs) : ∃ g : Hist', vs = histC g := by
  cases h with
  | pair ha hb => cases hb with
    | pair hc hd => cases hd with
      | pair he hf =>
        obtain ⟨n0, l0, rfl⟩ := sh_slice (f := strC) (fun e => sh_str) ha
        obtain ⟨n1, l1, rfl⟩ := sh_slice (f := strC) (fun e => sh_str) hc
        obtain ⟨n2, l2, rfl⟩ := sh_slice (f := txnC) (fun e => sh_txn) he
        cases hf
        exact ⟨⟨n0, l0, n1, l1, n2, l2⟩, rfl⟩

theorem leaf_of_pure {v : V} (h : v.pureLeaf = true) : v.leaf = true := by cases v <;> first | rfl | cases h

section
variable {H : Type} {enc : TypeId × Value → H} {W : World} {v : Value} {d : DataW H} {p : List MemPlace} {base : Nat}
set_option maxRecDepth 100000 in
theorem struct_arg {t : TypeId} {fs : Array Field} {n : Nat} {ty : Ty} (ht : Tryz.prog.underlying t = some (.struct fs)) (hty : tyOf Tryz.prog n t = some ty) (hval : Value.okWide Tryz.prog W .any base t v)
    (h : DataW.Trod enc Tryz.prog W 0 (fun _ => true) true t v d p) : ∃ vs, Sh ty vs ∧ RepP (cellsI W) v (.agg vs) := by
  obtain ⟨cs, rfl, _⟩ := okWide_struct ht hval
  obtain ⟨fuel, hf⟩ := h
  obtain ⟨vs, hs, hr⟩ := rep_of n t ty hty fuel _ _ hf
  refine ⟨vs, hs, RepP.agg cs vs (by simpa [Value.cells] using hr.1) (fun j v hj => leaf_of_pure (hs.pure v (List.mem_of_getElem? hj))) (fun j x v hx hv => hr.2 j x v (by simpa [Value.cells] using hx) hv)⟩
theorem trodAll_two {s t : TypeId} {vs : List Value} {ds : List (DataW H)} {p : List MemPlace} (h : DataW.TrodAll enc Tryz.prog W 0 (fun _ => true) true [s, t] vs ds p) :
    ∃ v0 v1 d0 d1 p0 p1, vs = [v0, v1] ∧ ds = [d0, d1] ∧ DataW.Trod enc Tryz.prog W 0 (fun _ => true) true s v0 d0 p0 ∧ DataW.Trod enc Tryz.prog W 0 (fun _ => true) true t v1 d1 p1 := by
  match vs, ds, h with
  | [v0, v1], [d0, d1], ⟨p0, q, h0, ⟨p1, q', h1, _, _⟩, _⟩ => exact ⟨v0, v1, d0, d1, p0, p1, rfl, rfl, h0, h1⟩
  | [], [], h => exact h.elim
  | [v0], [d0], ⟨_, _, _, h, _⟩ => exact h.elim
  | [], _ :: _, h => exact h.elim
  | _ :: _, [], h => exact h.elim
  | [_], _ :: _ :: _, ⟨_, _, _, h, _⟩ => exact h.elim
  | _ :: _ :: _, [_], ⟨_, _, _, h, _⟩ => exact h.elim
  | _ :: _ :: _ :: _, [_, _], ⟨_, _, _, ⟨_, _, _, h, _⟩, _⟩ => exact h.elim
  | [_, _], _ :: _ :: _ :: _, ⟨_, _, _, ⟨_, _, _, h, _⟩, _⟩ => exact h.elim
  | _ :: _ :: _ :: _, _ :: _ :: _ :: _, ⟨_, _, _, ⟨_, _, _, h, _⟩, _⟩ => exact h.elim
theorem read_ok (ts : List TypeId) (h : (ts.all fun t => Tryz.prog.readableRec t && decide (t < Tryz.prog.types.size)) = true) (t : TypeId) (ht : t ∈ ts) : Tryz.prog.readableRec t = true ∧ t < Tryz.prog.types.size := by
  have := List.all_eq_true.1 h t ht
  simpa using this
set_option maxRecDepth 100000 in
theorem hist_arg (hval : Value.okWide Tryz.prog W .any base 25 v) (h : DataW.Trod enc Tryz.prog W 0 (fun _ => true) true 25 v d p) : ∃ g : Hist', RepP (cellsI W) v (.agg (histC g)) := by
  obtain ⟨vs, hs, hr⟩ := struct_arg (n := 8) (ty := histTy) Tryz.underlying25 (by kernel_rfl) hval h
  obtain ⟨g, rfl⟩ := sh_hist hs
  exact ⟨g, hr⟩
set_option maxRecDepth 100000 in
theorem int_arg (hval : Value.okWide Tryz.prog W .any base 3 v) : ∃ n : Int, RepP (cellsI W) v (.int .i64 n) := by
  obtain ⟨n, rfl⟩ := okWide_int Tryz.underlying3 hval
  exact ⟨n, RepP.int .i64 n⟩
end
end Go.Pv.T
