/- Part of the proof. -/
import Derived.Test.YtbkdnpdfojjfnaaGreatDoorFAL
set_option maxRecDepth 100000
set_option maxHeartbeats 8000000
set_option linter.all false
namespace Go.Pv.T
open Go Go.Pv
theorem kD_mkSl {E : Env} {st : St} {ub : Nat} {K : List FP → St → Prop} {d : Option Nat} {nm : Bool} {r : List AOpr} {sz bytes n : Nat} {zero : List V} {x y : A} (hl : eval E st.tm x = .int .i64 (n : Int)) (hc : eval E st.tm y = .int .i64 (n : Int)) (hb : n * bytes ≤ 140737488355328) (hn : n ≤ 140737488355328) (hz : zero.length = sz) (h0 : 0 < sz)
    (h : kDApp E r K (eval E st.tm) (.mkSl true sz bytes zero x y) st d ub { v := .osl (objName d nm st.fb ub) ub 0 n sz, obs := [(objName d nm st.fb ub, ⟨ub, .cells (repl n zero)⟩)] }) : wpDraw E (⟨d, .mkSl true sz bytes zero x y, none, nm⟩ :: r) st ub K := by
  rw [wpDraw_of rfl]
  simp only [aop, hl, hc]
  rw [if_pos (by refine ⟨by omega, by omega, ?_, by omega, hz, h0⟩; rw [← Int.natCast_mul]; exact Int.ofNat_le.2 hb)]
  simp only [Bool.not_true, Bool.false_eq_true, false_and, if_false, mkObj, wpD_some, name_eq, Int.toNat_natCast]
  exact h
theorem repl_false (n : Nat) : repl n [.bool false] = (List.replicate n false).map V.bool := by
  unfold repl
  apply List.ext_getElem
  · simp
  · intro i h1 h2
    simp [List.getD, Nat.mod_one]
theorem marks_get (ks : List Int) : ∀ (bs : List Bool) (j : Nat) (hj : j < bs.length), (∀ k ∈ ks, 0 ≤ k) → (marks bs ks)[j]? = some (bs[j] || ks.any fun k => k == (j : Int)) := by
  induction ks with
  | nil => intro bs j hj _; simp [marks, hj]
  | cons k ks ih =>
    intro bs j hj h
    have hk := h k (by simp)
    have := ih (bs.set k.toNat true) j (by simpa using hj) (fun x hx => h x (by simp [hx]))
    show (marks (bs.set k.toNat true) ks)[j]? = _
    rw [this, List.getElem_set, List.any_cons]
    by_cases hkj : k.toNat = j
    · have : k = (j : Int) := by omega
      simp [this]
    · have : ¬ k = (j : Int) := by omega
      have e : (k == (j : Int)) = false := by simpa using this
      rw [if_neg hkj, e, Bool.false_or]
theorem marks_all {ks : List Int} {n : Nat} (h : ∀ k ∈ ks, 0 ≤ k ∧ k < n) : (marks (List.replicate n false) ks).all id = decide ((dd ks).length = n) := by
  have hp := (pigeon n (dd ks) (nodup_dd ks) (fun x hx => h x (mem_dd.1 hx))).2
  rw [Bool.eq_iff_iff, List.all_eq_true, decide_eq_true_eq, hp]
  constructor
  · intro hall k hk
    have hl : k < (marks (List.replicate n false) ks).length := by rw [marks_len]; simpa using hk
    have := hall _ (List.getElem_mem hl)
    have hg := marks_get ks (List.replicate n false) k (by simpa using hk) (fun x hx => (h x hx).1)
    rw [List.getElem?_eq_getElem hl, Option.some.injEq] at hg
    rw [hg] at this
    simp at this
    exact mem_dd.2 this
  · intro hall x hx
    obtain ⟨j, hj, rfl⟩ := List.getElem_of_mem hx
    have hjn : j < n := by rw [marks_len] at hj; simpa using hj
    have hg := marks_get ks (List.replicate n false) j (by simpa using hjn) (fun x hx => (h x hx).1)
    rw [List.getElem?_eq_getElem hj, Option.some.injEq] at hg
    rw [hg]
    have := mem_dd.1 (hall j hjn)
    simp
    exact this
theorem goodT_all (h : Hist') : h.ts.all (goodT h) = (h.ts.all (txnB h) && (opsOf h).all (opB h)) := by
  unfold opsOf
  induction h.ts with
  | nil => rfl
  | cons t l ih =>
    simp only [List.all_cons, List.flatMap_cons, List.all_append, ih, goodT]
    cases txnB h t <;> cases t.ops.all (opB h) <;> cases l.all (txnB h) <;> simp
theorem within_iff {n : Int} {l : Nat} : within n l = true ↔ 0 ≤ n ∧ n < l := by unfold within; simp
theorem mayH_ref {h : Hist'} (hd : headsB h = true) (hg : h.ts.all (goodT h) = true) : mayH h = ((marks (List.replicate h.ks.length false) (usesK h)).all id && (marks (List.replicate h.ss.length false) (usesS h)).all id) := by
  rw [goodT_all, Bool.and_eq_true] at hg
  have hS : ∀ k ∈ usesS h, 0 ≤ k ∧ k < h.ss.length := by
    intro k hk
    obtain ⟨t, ht, rfl⟩ := List.mem_map.1 hk
    have := List.all_eq_true.1 hg.1 t ht
    unfold txnB at this
    rw [Bool.and_eq_true] at this
    exact within_iff.1 this.1
  have hK : ∀ k ∈ usesK h, 0 ≤ k ∧ k < h.ks.length := by
    intro k hk
    obtain ⟨t, ht, rfl⟩ := List.mem_map.1 hk
    have := List.all_eq_true.1 hg.2 t ht
    unfold opB at this
    rw [Bool.and_eq_true] at this
    exact within_iff.1 this.1
  rw [marks_all hS, marks_all hK]
  unfold mayH usedB
  rw [hd, hg.1, hg.2]
  simp only [Bool.true_and]
  rw [Bool.and_comm]
theorem errH_f1 {h : Hist'} (hd : headsB h = false) : errH h = 4 := by unfold errH mayH; rw [hd]; rfl
theorem errH_f2 {h : Hist'} (hg : h.ts.all (goodT h) = false) : errH h = 4 := by
  unfold errH mayH
  rw [goodT_all] at hg
  rw [← Bool.and_assoc (h.ts.all (txnB h)), hg]
  simp
def allT (l : List Bool) : Bool := l.all id
theorem allT_nil : allT [] = true := rfl
theorem allT_succ {l : List Bool} {j : Nat} (h : j < l.length) : allT (l.take (j + 1)) = (allT (l.take j) && l[j]) := by
  unfold allT; rw [List.take_succ_eq_append_getElem h, List.all_append]; simp
theorem ev14 {h : Hist'} (hs : Small h) : Ev E 14 [.agg (histC h)] (.int .i64 (errH h)) := by
  refine Ev_wpK (af := F14) rfl ?_
  have hts := hs.ts
  have hks := hs.ks
  have hss := hs.ss
  have e1 := ev27 h.sn h.ss (by omega) (fun s hx => by have := hs.sl s hx; omega)
  have e2 := ev27 h.kn h.ks (by omega) (fun s hx => by have := hs.kl s hx; omega)
  obtain ⟨R, hR⟩ : ∃ R, errH h = R := ⟨_, rfl⟩
  have bad : headsB h = false → R = 4 := fun hd => hR ▸ errH_f1 hd
  have bad2 : h.ts.all (goodT h) = false → R = 4 := fun hd => hR ▸ errH_f2 hd
  rw [hR]
  simp [F14, histC, objCells]
  refine kS_ev e1 (by simp) rfl rfl ?_
  cases b1 : tabB h.ss
  · rw [bad (by unfold headsB; rw [b1]; rfl)]
    simp
    exact endV_1 rfl (by simp) rfl
  simp [objCells]
  refine kS_ev e2 (by simp) rfl rfl ?_
  cases b2 : tabB h.ks
  · rw [bad (by unfold headsB; rw [b1, b2]; rfl)]
    simp
    exact endV_1 rfl (by simp) rfl
  by_cases c1 : 20 < (h.ss.length : Int)
  · rw [bad (by unfold headsB; simp; omega)]
    simp [objCells, c1]
    exact endV_1 rfl (by simp) rfl
  by_cases c2 : 40 < (h.ks.length : Int)
  · rw [bad (by unfold headsB; simp; omega)]
    simp [objCells, c1, c2]
    exact endV_1 rfl (by simp) rfl
  by_cases c3 : 40 < (h.ts.length : Int)
  · rw [bad (by unfold headsB; simp; omega)]
    simp [objCells, c1, c2, c3]
    exact endV_1 rfl (by simp) rfl
  have hd : headsB h = true := by unfold headsB; rw [b1, b2]; simp; omega
  simp [objCells, c1, c2, c3]
  refine kD_mkSl (n := h.ks.length) (by simp) (by simp) (by omega) (by omega) rfl (by decide) ?_
  simp [objCells]
  refine kD_mkSl (n := h.ss.length) (by simp) (by simp) (by omega) (by omega) rfl (by decide) ?_
  simp [repl_false]
  refine ⟨by simp [drawOk, indep, disj, fpOf, rdOb, rdTk, lOf, Delta.wo, Delta.wt]; decide, ?_⟩
  refine wpC_gen fun st hst => ?_
  have g1 : st.tm 1 = .ptr 1 0 0 := by rw [hst]; simp
  have g3 : st.tm 3 = .osl 4225 2112 0 h.ks.length 1 := by rw [hst]; simp
  have g4 : st.tm 4 = .osl 4737 2368 0 h.ss.length 1 := by rw [hst]; simp
  have g5 : st.tm 5 = .int .i64 0 := by rw [hst]; simp
  have p1 : st.ob 1 = some ⟨0, .cells (histC h)⟩ := by rw [hst]; simp [histC]
  have pk : st.ob 4225 = some ⟨2112, .cells ((List.replicate h.ks.length false).map V.bool)⟩ := by rw [hst]; simp
  have ps : st.ob 4737 = some ⟨2368, .cells ((List.replicate h.ss.length false).map V.bool)⟩ := by rw [hst]; simp
  have gd : st.df = [] := by rw [hst]; simp
  have gb : st.fb = 0 := by rw [hst]; simp
  have gr : st.ro = 0 := by rw [hst]; simp
  have gn : 2400 ≤ st.nx := by rw [hst]; simp
  clear hst
  generalize hB : List.replicate h.ks.length false = B at *
  generalize hC : List.replicate h.ss.length false = D at *
  have hBl : B.length = h.ks.length := by rw [← hB]; simp
  have hDl : D.length = h.ss.length := by rw [← hC]; simp
  refine wp_loopUp [(2, 2), (5, 5), (45, 68)] h.ts.length (fun i s => s.tm 5 = .int .i64 i ∧ s.ob 1 = some ⟨0, .cells (histC h)⟩ ∧ s.ob 4225 = some ⟨2112, .cells ((marks B ((h.ts.take i).flatMap fun t => t.ops.map (·.key))).map V.bool)⟩ ∧
    s.ob 4737 = some ⟨2368, .cells ((marks D ((h.ts.take i).map (·.s))).map V.bool)⟩ ∧ 2400 ≤ s.nx ∧ (h.ts.take i).all (goodT h) = true) rfl rfl ⟨by simp [g5], p1, by simp [pk, marks], by simp [ps, marks], gn, by simp⟩ ?_
  rintro i s hi ⟨h5, o1, ok, os, hnx, hall⟩ f
  have f1 := (f.t 1 (by simp)).trans g1
  have f3 := (f.t 3 (by simp)).trans g3
  have f4 := (f.t 4 (by simp)).trans g4
  have fd := f.d.trans gd
  have fb : s.fb = 0 := by rw [f.b, gb]
  have fr := f.r.trans gr
  clear f
  by_cases hlt : i < h.ts.length
  · have hw := wrapU hlt (by omega)
    obtain ⟨t, ht⟩ : ∃ t, h.ts[i] = t := ⟨_, rfl⟩
    have htm : t ∈ h.ts := ht ▸ List.getElem_mem hlt
    have hos := hs.os t htm
    have hl3 := load_slOf txnC_len s.ob h.ts hlt
    rw [ht] at hl3
    simp [h5, f1, o1, objCells, histC, hlt, idx_slOf txnC_len, load_slOf txnC_len, ht, f3]
    refine kS_callS (vs := [.agg (histC h), .agg (txnC t), .osl 4225 2112 0 h.ks.length 1]) (by simp [histC]) rfl ?_
    simp [fr, fb]
    have hml : (marks B ((h.ts.take i).flatMap fun t => t.ops.map (·.key))).length = h.ks.length := by rw [marks_len, hBl]
    have hmd : (marks D ((h.ts.take i).map (·.s))).length = h.ss.length := by rw [marks_len, hDl]
    obtain ⟨⟨v, ob', tk', ub'⟩, hr, hv, hg⟩ := ev28 (Yf := noYF) (h := h) (t := t) (by omega) (ob := s.ob) (tk := s.tk) (ro := 0) (base := 61440) (ub := s.nx + 64 + 64 + 64 + 64 + 64 + 64 + 64 + 64 + 64 + 64 + 64 + 64) (l := 4225) (u := 2112) hml ok (by omega) (by omega) (fun m hm => by omega)
    refine ⟨v, ob', tk', ub', hr, ?_⟩
    simp only at hv hg
    subst hv
    cases hgt : goodT h t
    · rw [bad2 (all_not hlt (by rw [ht]; exact hgt))]
      simp [put]
      exact endV_1 (by simp [fd]) (by simp) rfl
    · obtain ⟨q1, q2, q3, q4⟩ := hg hgt
      have q1' := (q2 1 (by decide) (fun m hm => by omega)).trans o1
      have qs := (q2 4737 (by decide) (fun m hm => by omega)).trans os
      have htx : txnB h t = true := by unfold goodT at hgt; rw [Bool.and_eq_true] at hgt; exact hgt.1
      have hwi : 0 ≤ t.s ∧ t.s < h.ss.length := by unfold txnB at htx; rw [Bool.and_eq_true] at htx; exact within_iff.1 htx.1
      have hio := idx_osl (l := 4737) (u := 2368) (n := h.ss.length) (kk := .i64) hwi.1 hwi.2
      have hsp := splice_set (marks D ((h.ts.take i).map (·.s))) t.s.toNat (by rw [hmd]; omega)
      have hfl : (h.ts.flatMap txnC)[i * 3]? = some (.int .i64 t.s) := by
        have := fld_at txnC_len h.ts hlt (by decide : 0 < 3)
        rw [Nat.add_zero, ht] at this
        rw [this]; rfl
      have hnk : marks B ((h.ts.take (i + 1)).flatMap fun t => t.ops.map (·.key)) = marks (marks B ((h.ts.take i).flatMap fun t => t.ops.map (·.key))) (t.ops.map (·.key)) := by
        rw [List.take_succ_eq_append_getElem hlt, List.flatMap_append, marks_app, ht]; simp
      have hns : marks D ((h.ts.take (i + 1)).map (·.s)) = (marks D ((h.ts.take i).map (·.s))).set t.s.toNat true := by
        rw [List.take_succ_eq_append_getElem hlt, List.map_append, ht]; exact marks_snoc _ _ _
      have hal : (h.ts.take (i + 1)).all (goodT h) = true := by
        rw [List.take_succ_eq_append_getElem hlt, List.all_append, hall, ht]; simp [hgt]
      rw [← hnk] at q1
      have hts1 : t.s.toNat + 1 ≤ h.ss.length := by omega
      obtain ⟨mk, hmk⟩ : ∃ m, marks B ((h.ts.take (i + 1)).flatMap fun t => t.ops.map (·.key)) = m := ⟨_, rfl⟩
      rw [hmk] at q1
      generalize marks D ((h.ts.take i).map (·.s)) = md at *
      simp [put, upd_apply, f1, f4, h5, q1', objCells, histC, hlt, idx_slOf txnC_len, hfl, hio, qs, hmd, hsp, hw, q1, hts1]
      refine ⟨by rw [hmk], by rw [← List.map_take, hns, List.map_set], by omega, ?_⟩
      rw [List.all_eq_true] at hal
      exact hal
  · have : i = h.ts.length := by omega
    subst this
    rw [List.take_length] at hall ok os
    have hmay := mayH_ref hd hall
    have hK : (h.ts.flatMap fun t => t.ops.map (·.key)) = usesK h := by unfold usesK opsOf; rw [List.map_flatMap]
    have hS : h.ts.map (·.s) = usesS h := rfl
    rw [hK] at ok
    rw [hS] at os
    rw [hB, hC] at hmay
    have hml : (marks B (usesK h)).length = h.ks.length := by rw [marks_len, hBl]
    have hmd : (marks D (usesS h)).length = h.ss.length := by rw [marks_len, hDl]
    have hR' : R = if allT (marks B (usesK h)) && allT (marks D (usesS h)) then 0 else 4 := by rw [← hR, errH, hmay]; rfl
    clear hmay hR
    generalize marks B (usesK h) = mk at *
    generalize marks D (usesS h) = md at *
    simp [h5, f1, o1, objCells, histC]
    refine wp_loopUp [(6, 7), (69, 81)] h.ks.length (fun i s' => s'.tm 7 = .int .i64 i ∧ s'.ob = s.ob ∧ s'.tm 6 = .bool (allT (mk.take i))) rfl rfl ⟨by simp, by simp, by simp [allT_nil]⟩ ?_
    rintro j s1 hj ⟨k7, ko, k6⟩ f
    have m3 : s1.tm 3 = .osl 4225 2112 0 h.ks.length 1 := by rw [f.t 3 (by simp)]; simp [f3]
    have m4 : s1.tm 4 = .osl 4737 2368 0 h.ss.length 1 := by rw [f.t 4 (by simp)]; simp [f4]
    have md1 : s1.df = [] := by rw [f.d]; simp [fd]
    clear f
    by_cases hjt : j < h.ks.length
    · have hw := wrapU hjt (by omega)
      have hjm : j < mk.length := by omega
      have hio := idx_osl (l := 4225) (u := 2112) (n := h.ks.length) (kk := .i64) (x := (j : Int)) (by omega) (by omega)
      have hnx : allT (mk.take (j + 1)) = (allT (mk.take j) && mk[j]) := allT_succ hjm
      cases hb : allT (mk.take j)
      · rw [hb] at k6 hnx
        simp [k7, m3, hjt, k6, hw, ko]
        rw [hnx]; rfl
      · rw [hb] at k6 hnx
        simp [k7, m3, hjt, k6, hw, ko, hio, objCells, ok, hjm]
        rw [hnx]; rfl
    · have : j = h.ks.length := by omega
      subst this
      have hmt : mk.take h.ks.length = mk := List.take_of_length_le (by omega)
      rw [hmt] at k6
      simp [k7, m3]
      refine wp_loopUp [(6, 6), (8, 8), (82, 94)] h.ss.length (fun i s' => s'.tm 8 = .int .i64 i ∧ s'.ob = s.ob ∧ s'.tm 6 = .bool (allT mk && allT (md.take i))) rfl rfl ⟨by simp, by simp [ko], by simp [k6, allT_nil]⟩ ?_
      rintro j s2 hj ⟨z8, zo, z6⟩ f
      have y4 : s2.tm 4 = .osl 4737 2368 0 h.ss.length 1 := by rw [f.t 4 (by simp)]; simp [m4]
      have yd : s2.df = [] := by rw [f.d]; simp [md1]
      clear f
      by_cases hjt : j < h.ss.length
      · have hw := wrapU hjt (by omega)
        have hjm : j < md.length := by omega
        have hio := idx_osl (l := 4737) (u := 2368) (n := h.ss.length) (kk := .i64) (x := (j : Int)) (by omega) (by omega)
        have hnx : allT (md.take (j + 1)) = (allT (md.take j) && md[j]) := allT_succ hjm
        cases hb : (allT mk && allT (md.take j))
        · have hnx' : (allT mk && allT (md.take (j + 1))) = false := by rw [hnx, ← Bool.and_assoc, hb]; rfl
          rw [hb] at z6
          simp [z8, y4, hjt, z6, hw, zo]
          intro hm; rw [hm] at hnx'; exact hnx'
        · have hnx' : (allT mk && allT (md.take (j + 1))) = md[j] := by rw [hnx, ← Bool.and_assoc, hb]; rfl
          rw [hb] at z6
          simp [z8, y4, hjt, z6, hw, zo, hio, objCells, os, hjm]
          exact hnx'.symm
      · have : j = h.ss.length := by omega
        subst this
        have hmt : md.take h.ss.length = md := List.take_of_length_le (by omega)
        rw [hmt] at z6
        cases hb : (allT mk && allT md)
        · rw [hb] at z6 hR'
          simp [z8, y4, z6]
          exact endV_1 (by simp [yd]) (by simp [hR']) rfl
        · rw [hb] at z6 hR'
          simp [z8, y4, z6]
          exact endV_1 (by simp [yd]) (by simp [hR']) rfl
section
variable {E : Env} {Yf : YF} {st : St} {ub : Nat} {K : St → Nat → Prop} {d : Option Nat} {nm : Bool}
theorem kS_buildSlO {sz n : Nat} {zero : List V} {parts : List (Nat × Nat × A)} {cs : List V} (hf : fill zero (evalParts (eval E st.tm) parts) = some cs) (hl : cs.length = n * sz) (hp : cs.all V.leaf = true)
    (h : kApp K st d ub { v := .osl (objName d nm st.fb ub) ub 0 n sz, obs := [(objName d nm st.fb ub, ⟨ub, .cells cs⟩)] }) : wpStep E Yf ⟨d, .buildSl true sz zero parts n, none, nm⟩ st ub K := by
  rw [wpStep_of _ rfl rfl]
  simp only [aop, hf, Option.bind_some, if_true, name_eq]
  rw [if_pos ⟨hl, hp⟩, mkObj, wpD_some]
  exact h
theorem kS_appendO_nil {sz bytes n : Nat} {cs ys : List V} {s x : A} (hs : eval E st.tm s = .sl none true n cs) (hx : slCells st.ob sz (eval E st.tm x) = some ys) (hne : ys ≠ []) (h0 : 0 < sz) (hp : ys.all V.leaf = true)
    (hb : (ys.length / sz) * bytes ≤ 140737488355328) (hb2 : ys.length / sz ≤ 140737488355328) (h : kApp K st d ub { v := .osl (objName d nm st.fb ub) ub 0 (ys.length / sz) sz, obs := [(objName d nm st.fb ub, ⟨ub, .cells ys⟩)] }) :
    wpStep E Yf ⟨d, .append true sz bytes s x, none, nm⟩ st ub K := by
  rw [wpStep_of _ rfl rfl]
  simp only [aop, hs, hx, Option.bind_some, if_neg hne, Bool.and_self, if_true, name_eq]
  rw [if_pos ⟨h0, hp, hb, hb2⟩, mkObj, wpD_some]
  exact h
theorem kS_appendO {sz bytes l u n : Nat} {cs ys : List V} {s x : A} (hs : eval E st.tm s = .osl l u 0 n sz) (hx : slCells st.ob sz (eval E st.tm x) = some ys) (ho : st.ob l = some ⟨u, .cells cs⟩) (hne : ys ≠ []) (hro : st.ro ≤ u) (hn : n * sz ≤ cs.length) (h0 : 0 < sz) (hp : ys.all V.leaf = true)
    (hb : (n + ys.length / sz) * bytes ≤ 140737488355328) (hb2 : n + ys.length / sz ≤ 140737488355328)
    (h : kApp K st d ub { v := .osl (objName d nm st.fb ub) ub 0 (n + ys.length / sz) sz, obs := [(objName d nm st.fb ub, ⟨ub, .cells (cs.take (n * sz) ++ ys)⟩)], kill := [l] }) :
    wpStep E Yf ⟨d, .append true sz bytes s x, none, nm⟩ st ub K := by
  rw [wpStep_of _ rfl rfl]
  have hoc : objCells st.ob l u = some cs := by simp [objCells, ho]
  simp only [aop, hs, hx, Option.bind_some, hoc, if_neg hne, name_eq]
  rw [if_pos ⟨Nat.ble_eq ▸ hro, trivial, trivial, hn, h0, hp, hb, hb2⟩, wpD_some]
  exact h
end
@[simp] theorem app_obk (st : St) (d : Option Nat) (v : V) (l k l' : Nat) (o' : Obj') : (st.app d { v := v, obs := [(l, o')], kill := [l'] }).ob k = if k = l then some o' else if k = l' then none else st.ob k := by
  have e : (Nat.beq k l') = decide (k = l') := by rw [Bool.eq_iff_iff]; simp
  simp only [St.app, setObs, upd_apply, List.any_cons, List.any_nil, Bool.or_false, e, decide_eq_true_eq]
end Go.Pv.T
namespace Go.Pv.T
open Go Go.Pv
end Go.Pv.T
namespace Go.Pv.T
open Go Go.Pv
@[simp] theorem cells_osl (a b c d e : Nat) : (V.osl a b c d e).cells = [.osl a b c d e] := rfl
@[simp] theorem leaf_osl (a b c d e : Nat) : (V.osl a b c d e).leaf = true := rfl
def SlOut (st : St) (v : V) (nl : Bool) (n : Nat) (cs : List V) : Prop := ∀ keep i, ∃ a, outLeaf st keep i v = some (.sl a nl n cs) ∧ (a = none ∨ ∃ z, a = some (i, z))
theorem slOut_sl (st : St) (t : Option (Nat × Nat)) (nl : Bool) (n : Nat) (cs : List V) : SlOut st (.sl t nl n cs) nl n cs := by
  intro keep i
  cases t with
  | none => exact ⟨none, rfl, .inl rfl⟩
  | some p =>
    obtain ⟨u, z⟩ := p
    refine ⟨_, rfl, ?_⟩
    split
    · exact .inr ⟨z, rfl⟩
    · exact .inl rfl
def HistR (r : V) (g : Hist') : Prop := ∃ a b c : Option (Nat × Nat), r = .agg [.sl a g.sn g.ss.length (g.ss.flatMap strC), .sl b g.kn g.ks.length (g.ks.flatMap strC), .sl c g.tn g.ts.length (g.ts.flatMap txnC)] ∧ (∀ p ∈ a.toList ++ b.toList ++ c.toList, p.1 < 64)
theorem toks_sl (a : Option (Nat × Nat)) (nl : Bool) (n : Nat) (cs : List V) : (V.sl a nl n cs).tok = a.toList.map (·.1) := by
  cases a with
  | none => rfl
  | some p => rfl
theorem tokm {a : Option (Nat × Nat)} {nl : Bool} {n : Nat} {cs : List V} {i : Nat} : i ∈ (V.sl a nl n cs).tok ↔ ∃ p ∈ a.toList, p.1 = i := by rw [toks_sl, List.mem_map]
def Grow {α : Type} (tk : Nat → Bool) (lo nx : Nat) (f : α → List V) (sz : Nat) (l : List α) (v : V) : Prop :=
  (l = [] ∧ v = .sl none true 0 []) ∨ (l ≠ [] ∧ ∃ u, v = .sl (some (u, sz)) false l.length (l.flatMap f) ∧ tk u = true ∧ lo ≤ u ∧ u < nx)
theorem Grow.nil {α : Type} (tk : Nat → Bool) (lo nx : Nat) (f : α → List V) (sz : Nat) : Grow tk lo nx f sz [] (.sl none true 0 []) := .inl ⟨rfl, rfl⟩
theorem Grow.form {α : Type} {tk : Nat → Bool} {lo nx : Nat} {f : α → List V} {sz : Nat} {l : List α} {v : V} (h : Grow tk lo nx f sz l v) : ∃ t, v = .sl t l.isEmpty l.length (l.flatMap f) := by
  rcases h with ⟨rfl, rfl⟩ | ⟨hne, u, rfl, _⟩
  · exact ⟨none, rfl⟩
  · cases l with
    | nil => exact absurd rfl hne
    | cons a l => exact ⟨_, rfl⟩
theorem Grow.mono {α : Type} {tk tk' : Nat → Bool} {lo nx nx' : Nat} {f : α → List V} {sz : Nat} {l : List α} {v : V} (h : Grow tk lo nx f sz l v) (ht : ∀ u, lo ≤ u → u < nx → tk u = true → tk' u = true) (hn : nx ≤ nx') : Grow tk' lo nx' f sz l v := by
  rcases h with h | ⟨hne, u, hv, h1, h2, h3⟩
  · exact .inl h
  · exact .inr ⟨hne, u, hv, ht u h2 h3 h1, h2, by omega⟩
section
variable {E : Env} {Yf : YF} {st : St} {ub : Nat} {K : St → Nat → Prop} {d : Option Nat} {nm : Bool}
theorem kS_appendG {α : Type} {f : α → List V} {sz bytes lo hi : Nat} {l : List α} {a : α} {v : V} {s x : A} (hg : Grow st.tk lo hi f sz l v) (hs : eval E st.tm s = v) (hx : slCells st.ob sz (eval E st.tm x) = some (f a)) (hf : ∀ a, (f a).length = sz) (h0 : 0 < sz)
    (hp : (f a).all V.pureLeaf = true) (hb : (l.length + 1) * bytes ≤ 140737488355328) (hb2 : l.length + 1 ≤ 140737488355328)
    (h : ∀ del : Option Nat, (∀ u, del = some u → lo ≤ u ∧ u < hi) → kApp K st d ub { v := .sl (some (ub, sz)) false (l.length + 1) ((l ++ [a]).flatMap f), del := del, add := [ub] }) : wpStep E Yf ⟨d, .append false sz bytes s x, none, nm⟩ st ub K := by
  have hne : f a ≠ [] := fun e => by have := hf a; rw [e] at this; simp at this; omega
  have h1 : (f a).length / sz = 1 := by rw [hf]; exact Nat.div_self h0
  rcases hg with ⟨rfl, rfl⟩ | ⟨hl, u, rfl, ht, h2, h3⟩
  · refine kS_append_nil hs hx hne h0 hp (by rw [h1]; simpa using hb) (by rw [h1]; simp) ?_
    rw [h1]
    have := h none (fun u e => by cases e)
    simpa using this
  · refine kS_append_tok hs ht hx hne (by rw [flatMap_len hf]) h0 hp (by rw [h1]; exact hb) (by rw [h1]; exact hb2) ?_
    rw [h1]
    have := h (some u) (fun u' e => by cases e; exact ⟨h2, h3⟩)
    simpa using this
end
def kEndE (res : List ARes) (P : V → Prop) : Ex → St → Prop := fun e s => ∃ r, endV res (e, s) = some r ∧ P r
theorem Ev_wpE {f : FuncId} {af : AF} {args : List V} {P : V → Prop} (hf : E.fc f = some af) (h1 : af.body.one = true) (h : wpC E noYF af.body (start args) (kEndE af.res P)) : ∃ r, Ev E f args r ∧ P r := by
  obtain ⟨n, x, hx, r, hr, hP⟩ := one_of h1 h fun _ => rfl
  refine ⟨r, ⟨n + 1, ?_⟩, hP⟩
  simp only [callers, dOr, hf]
  rw [show codeL E (callers E n) noY n af.body (start args) = some [x] from hx]
  exact one1_of (List.cons_ne_nil _ _) (fun y hy => by rw [List.mem_singleton] at hy; subst hy; exact hr)
end Go.Pv.T
namespace Go.Pv.T
open Go Go.Pv
end Go.Pv.T
namespace Go.Pv.T
open Go Go.Pv
section
variable {E : Env} {st : St} {ub : Nat} {K : List FP → St → Prop} {d : Option Nat} {nm : Bool} {r : List AOpr}
theorem kD_buildSl {sz n : Nat} {zero : List V} {parts : List (Nat × Nat × A)} {cs : List V} (hf : fill zero (evalParts (eval E st.tm) parts) = some cs) (hl : cs.length = n * sz) (hp : (cs.map V.strip1).all V.pureLeaf = true)
    (h : kDApp E r K (eval E st.tm) (.buildSl false sz zero parts n) st d ub { v := .sl (some (ub, sz)) false n (cs.map V.strip1), add := [ub] }) : wpDraw E (⟨d, .buildSl false sz zero parts n, none, nm⟩ :: r) st ub K := by
  rw [wpDraw_of rfl]
  simp only [aop, hf, Option.bind_some, Bool.false_eq_true, if_false]
  rw [if_pos ⟨hl, hp⟩, wpD_some]
  exact h
theorem kD_appendG2 {α : Type} {f : α → List V} {sz bytes lo hi : Nat} {l : List α} {a : α} {v : V} {s x : A} (hg : Grow st.tk lo hi f sz l v) (hs : eval E st.tm s = v) (hx : slCells st.ob sz (eval E st.tm x) = some (f a)) (hf : ∀ a, (f a).length = sz) (h0 : 0 < sz)
    (hp : (f a).all V.pureLeaf = true) (hb : (l.length + 1) * bytes ≤ 140737488355328) (hb2 : l.length + 1 ≤ 140737488355328)
    (h : ∀ del : Option Nat, (∀ u, del = some u → u ∈ v.tok) → kDApp E r K (eval E st.tm) (.append false sz bytes s x) st d ub { v := .sl (some (ub, sz)) false (l.length + 1) ((l ++ [a]).flatMap f), del := del, add := [ub] }) : wpDraw E (⟨d, .append false sz bytes s x, none, nm⟩ :: r) st ub K := by
  have hne : f a ≠ [] := fun e => by have := hf a; rw [e] at this; simp at this; omega
  have h1 : (f a).length / sz = 1 := by rw [hf]; exact Nat.div_self h0
  rw [wpDraw_of rfl]
  rcases hg with ⟨rfl, rfl⟩ | ⟨hl, u, rfl, ht, h2, h3⟩
  · simp only [aop, hs, hx, Option.bind_some, if_neg hne, Bool.false_and, Bool.false_eq_true, if_false]
    rw [if_pos ⟨by simp, h0, hp, by rw [h1]; simpa using hb, by rw [h1]; simp⟩, if_pos trivial, wpD_some, h1]
    have := h none (fun u e => by cases e)
    simpa using this
  · simp only [aop, hs, hx, Option.bind_some, if_neg hne, Bool.false_and, Bool.false_eq_true, if_false]
    rw [if_pos ⟨by rw [flatMap_len hf], h0, hp, by rw [h1]; exact hb, by rw [h1]; exact hb2⟩, if_pos (by simp [ht]), wpD_some, h1]
    have := h (some u) (fun u' e => by cases e; simp [V.tok])
    simpa using this
theorem kS_append_allT {E : Env} {Yf : YF} {st : St} {ub : Nat} {K : St → Nat → Prop} {d : Option Nat} {nm : Bool} {α : Type} {f : α → List V} {sz bytes u : Nat} {l : List α} {s x : A} (hs : eval E st.tm s = .sl (some (u, sz)) false 0 []) (hu : st.tk u = true) (hx : slCells st.ob sz (eval E st.tm x) = some (l.flatMap f)) (hf : ∀ a, (f a).length = sz) (h0 : 0 < sz)
    (hp : (l.flatMap f).all V.pureLeaf = true) (hb : l.length * bytes ≤ 140737488355328) (hb2 : l.length ≤ 140737488355328)
    (h : ∀ (t : Option (Nat × Nat)) (del : Option Nat) (add : List Nat), (∀ u' ∈ add, u' = ub) → (∀ u', del = some u' → u' = u) → kApp K st d ub { v := .sl t false l.length (l.flatMap f), del := del, add := add }) : wpStep E Yf ⟨d, .append false sz bytes s x, none, nm⟩ st ub K := by
  cases l with
  | nil =>
    rw [wpStep_of _ rfl rfl]
    simp only [aop, hs, hx, Option.bind_some, List.flatMap_nil, if_true, List.length_nil, Nat.zero_mul, wpD_one]
    exact h _ none [] (fun u hu => by cases hu) (fun u e => by cases e)
  | cons a l =>
    have h1 : ((a :: l).flatMap f).length / sz = (a :: l).length := by rw [flatMap_len hf]; exact Nat.mul_div_cancel _ h0
    have hne : (a :: l).flatMap f ≠ [] := fun e => by have := congrArg List.length e; rw [flatMap_len hf] at this; have := Nat.mul_pos (show 0 < (a :: l).length by simp) h0; simp_all
    refine kS_append_tok hs hu hx hne (by simp) h0 hp (by rw [h1, Nat.zero_add]; exact hb) (by rw [h1, Nat.zero_add]; exact hb2) ?_
    rw [h1, Nat.zero_add, List.nil_append]
    exact h _ (some u) [ub] (fun u hu => by simpa using hu) (fun u' e => by cases e; rfl)
theorem Grow.tok_lt {α : Type} {tk : Nat → Bool} {lo nx : Nat} {f : α → List V} {sz : Nat} {l : List α} {v : V} (h : Grow tk lo nx f sz l v) : ∀ u ∈ v.tok, lo ≤ u ∧ u < nx := by
  rcases h with ⟨_, rfl⟩ | ⟨_, u, rfl, _, h2, h3⟩
  · intro u hu; simp [V.tok] at hu
  · intro u' hu'; simp [V.tok] at hu'; subst hu'; exact ⟨h2, h3⟩
end
@[simp] theorem str_strip1 (s : List UInt8) : (V.str s).strip1 = .str s := rfl
theorem endH1 {st : St} {p l u : Nat} {x y z : V} {g : Hist'} (hd : st.df = []) (hp : st.tm p = .ptr l u 0) (ho : st.ob l = some ⟨u, .cells [x, y, z]⟩)
    (hx : SlOut st x g.sn g.ss.length (g.ss.flatMap strC)) (hy : SlOut st y g.kn g.ks.length (g.ks.flatMap strC)) (hz : SlOut st z g.tn g.ts.length (g.ts.flatMap txnC)) : ∃ r, endV [.cell p (some 3)] (.ret, st) = some r ∧ HistR r g := by
  have h1 : (objCells st.ob l u) = some [x, y, z] := by simp [objCells, ho]
  have hres : [ARes.cell p (some 3)].mapM (resOf st) = some [.agg [x, y, z]] := by
    simp [resOf, hp, h1]
  obtain ⟨a, ha, ha'⟩ := hx (nodup (List.flatMap V.toks [.agg [x, y, z]])) 0
  obtain ⟨b, hb, hb'⟩ := hy (nodup (List.flatMap V.toks [.agg [x, y, z]])) 1
  obtain ⟨c, hc, hc'⟩ := hz (nodup (List.flatMap V.toks [.agg [x, y, z]])) 2
  refine ⟨.agg [.sl a g.sn g.ss.length (g.ss.flatMap strC), .sl b g.kn g.ks.length (g.ks.flatMap strC), .sl c g.tn g.ts.length (g.ts.flatMap txnC)], ?_, a, b, c, rfl, ?_⟩
  · simp only [endV, dfOk_of hd, noDf_of hd, if_true, hres, Option.bind_some, outRes]
    generalize nodup (List.flatMap V.toks [.agg [x, y, z]]) = keep at *
    simp only [outTops, outTop, outList, ha, hb, hc, Nat.zero_add, Option.bind_some, Option.map_some]
    have hnd : nodup (List.flatMap V.toks [.agg [.sl a g.sn g.ss.length (g.ss.flatMap strC), .sl b g.kn g.ks.length (g.ks.flatMap strC), .sl c g.tn g.ts.length (g.ts.flatMap txnC)]]) = true := by
      have e : ∀ x y z : V, List.flatMap V.toks [.agg [x, y, z]] = x.tok ++ (y.tok ++ z.tok) := fun x y z => by simp [V.toks]
      rw [e, toks_sl, toks_sl, toks_sl]
      rcases ha' with rfl | ⟨_, rfl⟩ <;> rcases hb' with rfl | ⟨_, rfl⟩ <;> rcases hc' with rfl | ⟨_, rfl⟩ <;> rfl
    show (if nodup (List.flatMap V.toks [.agg [.sl a g.sn g.ss.length (g.ss.flatMap strC), .sl b g.kn g.ks.length (g.ks.flatMap strC), .sl c g.tn g.ts.length (g.ts.flatMap txnC)]]) = true then some (V.agg [.sl a g.sn g.ss.length (g.ss.flatMap strC), .sl b g.kn g.ks.length (g.ks.flatMap strC), .sl c g.tn g.ts.length (g.ts.flatMap txnC)]) else none) = _
    rw [if_pos hnd]
  · intro p hp
    simp only [List.mem_append] at hp
    rcases hp with (hp | hp) | hp
    · rcases ha' with rfl | ⟨_, rfl⟩
      · simp at hp
      · simp at hp; subst hp; simp
    · rcases hb' with rfl | ⟨_, rfl⟩
      · simp at hp
      · simp at hp; subst hp; simp
    · rcases hc' with rfl | ⟨_, rfl⟩
      · simp at hp
      · simp at hp; subst hp; simp
theorem retA_hist1 {ub : Nat} {r : V} {g : Hist'} (h : HistR r g) : ∃ a b c add, retA ub r = some { v := .agg [.sl a g.sn g.ss.length (g.ss.flatMap strC), .sl b g.kn g.ks.length (g.ks.flatMap strC), .sl c g.tn g.ts.length (g.ts.flatMap txnC)], add := add } := by
  obtain ⟨a, b, c, rfl, hlt⟩ := h
  have e : ∀ x y z : V, toksRes (.agg [x, y, z]) = x.tok ++ (y.tok ++ z.tok) := fun x y z => by simp [toksRes, V.toks]
  have hall : (toksRes (.agg [.sl a g.sn g.ss.length (g.ss.flatMap strC), .sl b g.kn g.ks.length (g.ks.flatMap strC), .sl c g.tn g.ts.length (g.ts.flatMap txnC)])).all (fun i => Nat.blt i 64) = true := by
    rw [e, List.all_eq_true]
    intro i hi
    have : ∃ p ∈ a.toList ++ b.toList ++ c.toList, p.1 = i := by
      rw [List.mem_append, List.mem_append, tokm, tokm, tokm] at hi
      rcases hi with ⟨p, hp, h⟩ | ⟨p, hp, h⟩ | ⟨p, hp, h⟩
      · exact ⟨p, by simp [hp], h⟩
      · exact ⟨p, by simp [hp], h⟩
      · exact ⟨p, by simp [hp], h⟩
    obtain ⟨p, hp, rfl⟩ := this
    rw [Nat.blt_eq]
    exact hlt p hp
  have hin : ∀ (t : Option (Nat × Nat)) (nl : Bool) (n : Nat) (cs : List V), ∃ t', inLeaf ub (.sl t nl n cs) = .sl t' nl n cs := fun t nl n cs => by
    cases t with
    | none => exact ⟨none, rfl⟩
    | some p => exact ⟨_, rfl⟩
  obtain ⟨a', ha⟩ := hin a g.sn g.ss.length (g.ss.flatMap strC)
  obtain ⟨b', hb⟩ := hin b g.kn g.ks.length (g.ks.flatMap strC)
  obtain ⟨c', hc⟩ := hin c g.tn g.ts.length (g.ts.flatMap txnC)
  refine ⟨a', b', c', (toksRes (.agg [.sl a g.sn g.ss.length (g.ss.flatMap strC), .sl b g.kn g.ks.length (g.ks.flatMap strC), .sl c g.tn g.ts.length (g.ts.flatMap txnC)])).map (ub + ·), ?_⟩
  rw [retA, if_pos hall]
  have hin2 : inRes ub (.agg [.sl a g.sn g.ss.length (g.ss.flatMap strC), .sl b g.kn g.ks.length (g.ks.flatMap strC), .sl c g.tn g.ts.length (g.ts.flatMap txnC)]) =
      .agg [inLeaf ub (.sl a g.sn g.ss.length (g.ss.flatMap strC)), inLeaf ub (.sl b g.kn g.ks.length (g.ks.flatMap strC)), inLeaf ub (.sl c g.tn g.ts.length (g.ts.flatMap txnC))] := rfl
  rw [hin2, ha, hb, hc]
theorem kS_evV {E : Env} {Yf : YF} {st : St} {ub : Nat} {K : St → Nat → Prop} {d : Option Nat} {nm : Bool} {q : A} {xs : List A} {f : FuncId} {first captured args : List V} {v : V} (hev : Ev E f args v) (hq : eval E st.tm q = .fn (.func f) first captured)
    (hx : (first ++ xs.map (eval E st.tm) ++ captured).map V.strip = args) (hs : E.sh nm f = false) (hp : args.all V.pureTop = true) (h : wpD (retA ub v) (kApp K st d ub)) : wpStep E Yf ⟨d, .callV q xs, none, nm⟩ st ub K := by
  refine wpS_callV hq ⟨⟨hs, ?_⟩, v, by rw [hx]; exact hev, h⟩
  rw [← hx, List.all_map] at hp
  exact hp
@[simp] theorem fn_strip0 (f : Fn) : (V.fn f [] []).strip = .fn f [] [] := rfl
@[simp] theorem fn_pureTop0 (f : Fn) : (V.fn f [] []).pureTop = true := rfl
def IntsAt (ob : Nat → Option Obj') (nx : Nat) (l : List Int) (v : V) : Prop :=
  (l = [] ∧ v = .sl none true 0 []) ∨ (l ≠ [] ∧ ∃ L u, v = .osl L u 0 l.length 1 ∧ ob L = some ⟨u, .cells (l.flatMap intC)⟩ ∧ u < nx ∧ L = 2 * u + 1)
def SlR (v : V) (nl : Bool) (n : Nat) (cs : List V) : Prop := ∃ t : Option (Nat × Nat), v = .sl t nl n cs ∧ ∀ p ∈ t.toList, p.1 < 64
theorem retA_sl {ub : Nat} {v : V} {nl : Bool} {n : Nat} {cs : List V} (h : SlR v nl n cs) : ∃ t add, retA ub v = some { v := .sl t nl n cs, add := add } := by
  obtain ⟨t, rfl, hlt⟩ := h
  cases t with
  | none => exact ⟨none, [], rfl⟩
  | some p =>
    have := hlt p (by simp)
    refine ⟨some (ub + p.1, p.2), [ub + p.1], ?_⟩
    rw [retA, if_pos (by simp [toksRes, V.toks, V.tok, Nat.blt_eq, this])]
    rfl
def NumR (l : List Int) (v : V) : Prop := ∃ nl, SlR v nl l.length (l.flatMap intC)
theorem ev19 (t : Txn') : Ev E 19 [.agg (txnC t)] (.bool (isInfo t)) := by
  refine Ev_wpK (af := F19) rfl ?_
  simp [F19, txnC, objCells]
  exact endV_1 rfl (by simp [isInfo]) rfl
theorem may_err {g : Hist'} (hm : mayH g = true) : errH g = 0 := by unfold errH; rw [hm]; rfl
def placeC (p : Int × Int) : List V := [.int .i64 p.1, .int .i64 p.2]
@[simp] theorem placeC_len (p : Int × Int) : (placeC p).length = 2 := rfl
def GrowT {α : Type} (tk : Nat → Bool) (nx : Nat) (f : α → List V) (sz : Nat) (l : List α) (v : V) : Prop := ∃ u, v = .sl (some (u, sz)) false l.length (l.flatMap f) ∧ tk u = true ∧ u < nx
theorem GrowT.mono {α : Type} {tk tk' : Nat → Bool} {nx nx' : Nat} {f : α → List V} {sz : Nat} {l : List α} {v : V} (h : GrowT tk nx f sz l v) (ht : ∀ u, u < nx → tk u = true → tk' u = true) (hn : nx ≤ nx') : GrowT tk' nx' f sz l v := by
  obtain ⟨u, hv, h1, h2⟩ := h
  exact ⟨u, hv, ht u h2 h1, by omega⟩
end Go.Pv.T
namespace Go.Pv.T
open Go Go.Pv
end Go.Pv.T
namespace Go.Pv.T
open Go Go.Pv
end Go.Pv.T
namespace Go.Pv.T
open Go Go.Pv
section
end
end Go.Pv.T
namespace Go.Pv.T
open Go Go.Pv
end Go.Pv.T
namespace Go.Pv.T
open Go Go.Pv
end Go.Pv.T
namespace Go.Pv.T
open Go Go.Pv
end Go.Pv.T
namespace Go.Pv.T
open Go Go.Pv
theorem IntsAt.mono {ob : Nat → Option Obj'} {nx nx' : Nat} {l : List Int} {v : V} (h : IntsAt ob nx l v) (hn : nx ≤ nx') : IntsAt ob nx' l v := by
  rcases h with h | ⟨hne, L, u, h1, h2, h3, h4⟩
  · exact .inl h
  · exact .inr ⟨hne, L, u, h1, h2, by omega, h4⟩
theorem IntsAt.frame {ob ob' : Nat → Option Obj'} {nx : Nat} {l : List Int} {v : V} (h : IntsAt ob nx l v) (hf : ∀ k, (∀ m, nx ≤ m → k ≠ 2 * m + 1) → ob' k = ob k) : IntsAt ob' nx l v := by
  rcases h with h | ⟨hne, L, u, h1, h2, h3, h4⟩
  · exact .inl h
  · exact .inr ⟨hne, L, u, h1, by rw [hf L (fun m hm => by omega)]; exact h2, h3, h4⟩
end Go.Pv.T
namespace Go.Pv.T
open Go Go.Pv
end Go.Pv.T
namespace Go.Pv.T
open Go Go.Pv
def fewS (n : Nat) (l : List (List UInt8)) : List (List UInt8) := (l.take n).map (·.take 100)
def fewT (t : Txn') : Txn' := { t with nl := false, ops := t.ops.take 25 }
def fewH (h : Hist') : Hist' := { sn := (fewS 25 h.ss).isEmpty, ss := fewS 25 h.ss, kn := (fewS 45 h.ks).isEmpty, ks := fewS 45 h.ks, tn := ((h.ts.take 45).map fewT).isEmpty, ts := (h.ts.take 45).map fewT }
theorem fewS_few (n : Nat) (l : List (List UInt8)) : fewS n (fewS n l) = fewS n l := by
  simp [fewS, ← List.map_take, List.map_map, List.take_take, Function.comp_def]
theorem fewT_few (t : Txn') : fewT (fewT t) = fewT t := by simp [fewT, List.take_take]
theorem fewH_few (h : Hist') : fewH (fewH h) = fewH h := by
  have e : ((fewH h).ts.take 45).map fewT = (fewH h).ts := by
    show (((h.ts.take 45).map fewT).take 45).map fewT = (h.ts.take 45).map fewT
    rw [← List.map_take, List.take_take, List.map_map]
    exact List.map_congr_left fun t _ => fewT_few t
  have e1 : fewS 25 (fewH h).ss = (fewH h).ss := fewS_few 25 h.ss
  have e2 : fewS 45 (fewH h).ks = (fewH h).ks := fewS_few 45 h.ks
  show Hist'.mk _ _ _ _ _ _ = _
  rw [e1, e2, e]
  rfl
theorem small_few (h : Hist') : Small (fewH h) := by
  refine ⟨?_, ?_, ?_, ?_, ?_, ?_⟩
  · show (fewS 25 h.ss).length ≤ 1000
    simp [fewS]; omega
  · intro s hs
    obtain ⟨a, _, rfl⟩ := List.mem_map.1 (show s ∈ fewS 25 h.ss from hs)
    simp; omega
  · show (fewS 45 h.ks).length ≤ 1000
    simp [fewS]; omega
  · intro s hs
    obtain ⟨a, _, rfl⟩ := List.mem_map.1 (show s ∈ fewS 45 h.ks from hs)
    simp; omega
  · show ((h.ts.take 45).map fewT).length ≤ 1000
    simp; omega
  · intro t ht
    obtain ⟨a, _, rfl⟩ := List.mem_map.1 (show t ∈ (h.ts.take 45).map fewT from ht)
    simp [fewT]; omega
theorem fewS_succ {n i : Nat} {l : List (List UInt8)} (hi : i < l.length) (_ : i < n) : fewS (i + 1) l = fewS i l ++ [(l[i]).take 100] := by
  rw [fewS, List.take_succ_eq_append_getElem hi, List.map_append]; rfl
theorem fewS_end {n : Nat} {l : List (List UInt8)} {i : Nat} (hi : i ≤ l.length) (hn : i ≤ n) (h : ¬ (i < l.length ∧ i < n)) : fewS i l = fewS n l := by
  unfold fewS
  congr 1
  by_cases h1 : i < l.length
  · have : i = n := by omega
    rw [this]
  · rw [List.take_of_length_le (by omega), List.take_of_length_le (by omega)]
def tlC : C → C
  | .seq _ b => b
  | c => c
def hdC : C → C
  | .seq a _ => a
  | c => c
def few1C : C := tlC (tlC F4.body)
def few2C : C := tlC few1C
def few3C : C := tlC few2C
def few4C : C := tlC few3C
theorem min_len (n m : Nat) : minmaxV false [.int .i64 (n : Int), .int .i64 (m : Int)] = some (.int .i64 ((min n m : Nat) : Int)) := by
  simp only [minmaxV, minmaxL]
  by_cases h : n ≤ m
  · rw [Nat.min_eq_left h]; simp [minmax2]; omega
  · rw [Nat.min_eq_right (Nat.le_of_not_le h)]; simp [minmax2]; omega
theorem take_min100 (c : List UInt8) : c.take (min c.length 100) = c.take 100 := by
  rcases Nat.le_total c.length 100 with h' | h'
  · rw [Nat.min_eq_left h', List.take_of_length_le (Nat.le_refl _), List.take_of_length_le h']
  · rw [Nat.min_eq_right h']
theorem fewS_len (n : Nat) (l : List (List UInt8)) : (fewS n l).length ≤ n := by simp [fewS]; omega
theorem slStr_to {l : List UInt8} {kk : IntKind} {k : Nat} (h : k ≤ l.length) : slStrV none (some (.int kk (k : Int))) (.str l) = some (.str (l.take k)) := by
  simp [slStrV, bounds, h]
theorem slSl_to {cs : List V} {kk : IntKind} {t : Option (Nat × Nat)} {nl : Bool} {sz n k : Nat} (h : k ≤ n) (hc : cs.length = n * sz) : slSlV sz none (some (.int kk (k : Int))) (.sl t nl n cs) = some (.sl none nl k (cs.take (k * sz))) := by
  simp [slSlV, bounds, h, hc]
structure FewS (h : Hist') (s : St) (a b c N1 N2 : Nat) (Sv Kv Tv : V) : Prop where
  t1 : s.tm 1 = .ptr 2 0 0
  t2 : s.tm 2 = .ptr 4 64 0
  t3 : s.tm 3 = .ptr 6 192 0
  d : s.df = []
  ro : s.ro = 0
  fb : s.fb = 0
  o2 : s.ob 2 = some ⟨0, .cells (histC h)⟩
  o4 : s.ob 4 = some ⟨64, .cells [.sl none true 0 [], .sl none true 0 [], .sl none true 0 []]⟩
  o6 : s.ob 6 = some ⟨192, .cells [Sv, Kv, Tv]⟩
  gS : Grow s.tk 0 N1 strC 1 (fewS a h.ss) Sv
  gK : Grow s.tk N1 N2 strC 1 (fewS b h.ks) Kv
  gT : Grow s.tk N2 s.nx txnC 3 ((h.ts.take c).map fewT) Tv
  n1 : N1 ≤ N2
  n2 : N2 ≤ s.nx
theorem few1_eq : few1C = .seq (hdC few1C) few2C := rfl
theorem few1 {h : Hist'} {s0 : St} {Q : Ex → St → Prop} (hs : FewS h s0 0 0 0 s0.nx s0.nx (.sl none true 0 []) (.sl none true 0 []) (.sl none true 0 []))
    (hrest : ∀ s Sv, FewS h s 25 0 0 s.nx s.nx Sv (.sl none true 0 []) (.sl none true 0 []) → wpC E noYF few2C s Q) : wpC E noYF few1C s0 Q := by
  rw [few1_eq]
  obtain ⟨f1, f2, f3, fd, fr, fb, o2, o4, o6, gS, gK, gT, n1, n2⟩ := hs
  simp [hdC, few1C, tlC, F4]
  refine wp_loopUp [(4, 4), (9, 37)] 25 (fun i s => s.tm 4 = .int .i64 i ∧ i ≤ h.ss.length ∧ ∃ Sv, FewS h s i 0 0 s.nx s.nx Sv (.sl none true 0 []) (.sl none true 0 [])) rfl rfl ?_ ?_
  · refine ⟨by simp, by simp, .sl none true 0 [], ⟨by simp [f1], by simp [f2], by simp [f3], by simp [fd], by simp [fr], by simp [fb], by simp [o2], by simp [o4], by simp [o6], .inl ⟨rfl, rfl⟩, .inl ⟨rfl, rfl⟩, .inl ⟨rfl, rfl⟩, Nat.le_refl _, Nat.le_refl _⟩⟩
  rintro i s hi ⟨h4, hle, Sv, f1, f2, f3, fd, fr, fb, o2, o4, o6, gS, gK, gT, n1, n2⟩ f
  clear f
  by_cases hlt : i < h.ss.length
  · by_cases hl5 : i < 25
    · have hw := wrapU hl5 (by omega)
      have hl5' : (i : Int) < 25 := by omega
      obtain ⟨c, hc⟩ : ∃ c, h.ss[i] = c := ⟨_, rfl⟩
      have hsi := str_at h.ss hlt
      have hsn := fewS_succ hlt hl5
      rw [hc] at hsi hsn
      have hmn := min_len c.length 100
      have hst := slStr_to (l := c) (kk := .i64) (Nat.min_le_left c.length 100)
      have htk := take_min100 c
      rw [htk] at hst
      rw [show ((100 : Nat) : Int) = 100 from rfl] at hmn
      simp [hmn, hst, h4, f1, o2, objCells, histC, hlt, hl5', f3, o6, idx_slOf strC_len, hsi]
      refine kD_buildSl (cs := [.str (c.take 100)]) (by simp [splice]) rfl rfl ?_
      simp
      refine kD_appendG2 (f := strC) (lo := 0) (hi := s.nx) (l := fewS i h.ss) (a := c.take 100) (v := Sv) (gS.mono (fun u _ _ h => by simp [app_tk, h]) (Nat.le_refl _)) (by simp) (by simp [slCells, strC]) strC_len (by decide) rfl (by have := fewS_len i h.ss; omega) (by have := fewS_len i h.ss; omega) (fun del hdel => ?_)
      have hne : fewS (i + 1) h.ss ≠ [] := by rw [hsn]; simp
      have hlen : (fewS i h.ss).length + 1 = (fewS (i + 1) h.ss).length := by rw [hsn]; simp
      rw [← hsn, hlen]
      simp [f3, o6, objCells, fr, splice, h4, hw]
      refine ⟨by simp [drawOk, indep, disj, fpOf, rdOb, rdTk, lOf, uOf, Delta.wo, Delta.wt], ?_⟩
      refine ⟨hl5, by omega, .sl (some (s.nx + 64 + 64 + 64 + 64 + 64 + 64 + 64 + 64 + 64 + 64 + 64 + 64 + 64 + 64 + 64 + 64 + 64 + 64 + 64 + 64 + 64 + 64 + 64 + 64 + 64, 1)) false (fewS (i + 1) h.ss).length ((fewS (i + 1) h.ss).flatMap strC), ⟨by simp [f1], by simp [f2], by simp [f3], by simp [fd], by simp [fr], by simp [fb], by simp [o2, histC], by simp [o4], by simp, .inr ⟨hne, _, rfl, by simp [app_tk], Nat.zero_le _, by simp⟩, .inl ⟨rfl, rfl⟩, .inl ⟨rfl, rfl⟩, Nat.le_refl _, Nat.le_refl _⟩⟩
    · have hl5' : ¬ (i : Int) < 25 := by omega
      simp [h4, f1, o2, objCells, histC, hlt, hl5']
      refine hrest _ Sv ⟨by simp [f1], by simp [f2], by simp [f3], by simp [fd], by simp [fr], by simp [fb], by simp [o2, histC], by simp [o4], by simp [o6], ?_, .inl ⟨rfl, rfl⟩, .inl ⟨rfl, rfl⟩, Nat.le_refl _, Nat.le_refl _⟩
      rw [← fewS_end hle hi (by omega)]
      simp
      exact gS.mono (fun _ _ _ h => h) (by omega)
  · simp [h4, f1, o2, objCells, histC, hlt]
    refine hrest _ Sv ⟨by simp [f1], by simp [f2], by simp [f3], by simp [fd], by simp [fr], by simp [fb], by simp [o2, histC], by simp [o4], by simp [o6], ?_, .inl ⟨rfl, rfl⟩, .inl ⟨rfl, rfl⟩, Nat.le_refl _, Nat.le_refl _⟩
    rw [← fewS_end hle hi (by omega)]
    simp
    exact gS.mono (fun _ _ _ h => h) (by omega)
theorem few2_eq : few2C = .seq (hdC few2C) few3C := rfl
theorem few2 {h : Hist'} {s0 : St} {Q : Ex → St → Prop} {S0 : V} {N1 : Nat} (hs : FewS h s0 25 0 0 N1 s0.nx S0 (.sl none true 0 []) (.sl none true 0 []))
    (hrest : ∀ s Kv, FewS h s 25 45 0 N1 s.nx S0 Kv (.sl none true 0 []) → wpC E noYF few3C s Q) : wpC E noYF few2C s0 Q := by
  rw [few2_eq]
  obtain ⟨f1, f2, f3, fd, fr, fb, o2, o4, o6, gS, gK, gT, n1, n2⟩ := hs
  simp [hdC, few2C, few1C, tlC, F4]
  refine wp_loopUp [(5, 5), (38, 66)] 45 (fun i s => s.tm 5 = .int .i64 i ∧ i ≤ h.ks.length ∧ ∃ Kv, FewS h s 25 i 0 N1 s.nx S0 Kv (.sl none true 0 [])) rfl rfl ?_ ?_
  · refine ⟨by simp, by simp, .sl none true 0 [], ⟨by simp [f1], by simp [f2], by simp [f3], by simp [fd], by simp [fr], by simp [fb], by simp [o2], by simp [o4], by simp [o6], ?_, .inl ⟨rfl, rfl⟩, .inl ⟨rfl, rfl⟩, by simp; omega, Nat.le_refl _⟩⟩
    simp
    exact gS
  rintro i s hi ⟨h4, hle, Kv, f1, f2, f3, fd, fr, fb, o2, o4, o6, gS, gK, gT, n1, n2⟩ f
  clear f
  by_cases hlt : i < h.ks.length
  · by_cases hl5 : i < 45
    · have hw := wrapU hl5 (by omega)
      have hl5' : (i : Int) < 45 := by omega
      obtain ⟨c, hc⟩ : ∃ c, h.ks[i] = c := ⟨_, rfl⟩
      have hsi := str_at h.ks hlt
      have hsn := fewS_succ hlt hl5
      rw [hc] at hsi hsn
      have hmn := min_len c.length 100
      have hst := slStr_to (l := c) (kk := .i64) (Nat.min_le_left c.length 100)
      have htk := take_min100 c
      rw [htk] at hst
      rw [show ((100 : Nat) : Int) = 100 from rfl] at hmn
      simp [hmn, hst, h4, f1, o2, objCells, histC, hlt, hl5', f3, o6, idx_slOf strC_len, hsi]
      refine kD_buildSl (cs := [.str (c.take 100)]) (by simp [splice]) rfl rfl ?_
      simp
      refine kD_appendG2 (f := strC) (lo := N1) (hi := s.nx) (l := fewS i h.ks) (a := c.take 100) (v := Kv) (gK.mono (fun u _ _ h => by simp [app_tk, h]) (Nat.le_refl _)) (by simp) (by simp [slCells, strC]) strC_len (by decide) rfl (by have := fewS_len i h.ks; omega) (by have := fewS_len i h.ks; omega) (fun del hdel => ?_)
      have hne : fewS (i + 1) h.ks ≠ [] := by rw [hsn]; simp
      have hlen : (fewS i h.ks).length + 1 = (fewS (i + 1) h.ks).length := by rw [hsn]; simp
      have hdN : ∀ u, u < N1 → ¬ del = some u := fun u hu e => by have := (gK.tok_lt _ (hdel u e)).1; omega
      rw [← hsn, hlen]
      simp [f3, o6, objCells, fr, splice, h4, hw]
      refine ⟨by simp [drawOk, indep, disj, fpOf, rdOb, rdTk, lOf, uOf, Delta.wo, Delta.wt], ?_⟩
      refine ⟨hl5, by omega, .sl (some (s.nx + 64 + 64 + 64 + 64 + 64 + 64 + 64 + 64 + 64 + 64 + 64 + 64 + 64 + 64 + 64 + 64 + 64 + 64 + 64 + 64 + 64 + 64 + 64 + 64 + 64, 1)) false (fewS (i + 1) h.ks).length ((fewS (i + 1) h.ks).flatMap strC), ⟨by simp [f1], by simp [f2], by simp [f3], by simp [fd], by simp [fr], by simp [fb], by simp [o2, histC], by simp [o4], by simp, gS.mono (fun u _ hu ht => by simp [app_tk, ht, hdN u hu]) (Nat.le_refl _), .inr ⟨hne, _, rfl, by simp [app_tk], by omega, by simp⟩, .inl ⟨rfl, rfl⟩, by first | omega | (simp; omega), Nat.le_refl _⟩⟩
    · have hl5' : ¬ (i : Int) < 45 := by omega
      simp [h4, f1, o2, objCells, histC, hlt, hl5']
      refine hrest _ Kv ⟨by simp [f1], by simp [f2], by simp [f3], by simp [fd], by simp [fr], by simp [fb], by simp [o2, histC], by simp [o4], by simp [o6], ?_, ?_, .inl ⟨rfl, rfl⟩, by simp; omega, Nat.le_refl _⟩
      · simp
        exact gS
      rw [← fewS_end hle hi (by omega)]
      simp
      exact gK.mono (fun _ _ _ h => h) (by omega)
  · simp [h4, f1, o2, objCells, histC, hlt]
    refine hrest _ Kv ⟨by simp [f1], by simp [f2], by simp [f3], by simp [fd], by simp [fr], by simp [fb], by simp [o2, histC], by simp [o4], by simp [o6], ?_, ?_, .inl ⟨rfl, rfl⟩, by simp; omega, Nat.le_refl _⟩
    · simp
      exact gS
    rw [← fewS_end hle hi (by omega)]
    simp
    exact gK.mono (fun _ _ _ h => h) (by omega)
theorem few3_eq : few3C = .seq (hdC few3C) few4C := rfl
theorem few_end {h : Hist'} {i : Nat} (hi : i ≤ h.ts.length) (hn : i ≤ 45) (hx : ¬ (i < h.ts.length ∧ i < 45)) : (h.ts.take i).map fewT = (h.ts.take 45).map fewT := by
  congr 1
  by_cases h1 : i < h.ts.length
  · have : i = 45 := by omega
    rw [this]
  · rw [List.take_of_length_le (by omega), List.take_of_length_le (by omega)]
theorem take_ops (l : List Op') (k : Nat) : (l.flatMap opC).take (k * 4) = (l.take k).flatMap opC := by
  induction l generalizing k with
  | nil => simp
  | cons a l ih =>
    cases k with
    | zero => simp
    | succ k =>
      rw [List.flatMap_cons, List.take_succ_cons, List.flatMap_cons, Nat.succ_mul, ← ih k]
      show (V.bool a.w :: V.int .i64 a.key :: V.int .i64 a.v.kind :: V.int .i64 a.v.n :: l.flatMap opC).take (k * 4 + 4) = _
      simp [opC]
theorem kS_appendL2 {E : Env} {Yf : YF} {st : St} {ub : Nat} {K : St → Nat → Prop} {d : Option Nat} {nm : Bool} {α : Type} {f : α → List V} {sz bytes u : Nat} {l1 l2 : List α} {s x : A} (hs : eval E st.tm s = .sl (some (u, sz)) false l1.length (l1.flatMap f)) (hu : st.tk u = true) (hle : u ≤ ub) (hx : slCells st.ob sz (eval E st.tm x) = some (l2.flatMap f)) (hf : ∀ a, (f a).length = sz) (h0 : 0 < sz)
    (hp : (l2.flatMap f).all V.pureLeaf = true) (hb : (l1.length + l2.length) * bytes ≤ 140737488355328) (hb2 : l1.length + l2.length ≤ 140737488355328)
    (h : ∀ (u' : Nat) (del : Option Nat) (add : List Nat), u' ≤ ub → (∀ v, del = some v → v = u) → (if u' ∈ add then true else if u' ∈ del.toList then false else st.tk u') = true → kApp K st d ub { v := .sl (some (u', sz)) false (l1 ++ l2).length ((l1 ++ l2).flatMap f), del := del, add := add }) : wpStep E Yf ⟨d, .append false sz bytes s x, none, nm⟩ st ub K := by
  cases l2 with
  | nil =>
    rw [wpStep_of _ rfl rfl]
    simp only [aop, hs, hx, Option.bind_some, List.flatMap_nil, if_true]
    rw [if_pos (by rw [flatMap_len hf]), wpD_one]
    have := h u none [] hle (fun v e => by cases e) (by simpa using hu)
    simpa using this
  | cons a l =>
    have h1 : ((a :: l).flatMap f).length / sz = (a :: l).length := by rw [flatMap_len hf]; exact Nat.mul_div_cancel _ h0
    have hne : (a :: l).flatMap f ≠ [] := fun e => by have := congrArg List.length e; rw [flatMap_len hf] at this; have := Nat.mul_pos (show 0 < (a :: l).length by simp) h0; simp_all
    refine kS_append_tok hs hu hx hne (by rw [flatMap_len hf]) h0 hp (by rw [h1]; exact hb) (by rw [h1]; exact hb2) ?_
    rw [h1, ← List.length_append, ← List.flatMap_append]
    exact h ub (some u) [ub] (Nat.le_refl _) (fun v e => by cases e; rfl) (by simp)
theorem few3 {h : Hist'} {s0 : St} {Q : Ex → St → Prop} {S0 K0 : V} {N1 N2 : Nat} (hs : FewS h s0 25 45 0 N1 N2 S0 K0 (.sl none true 0 []))
    (hrest : ∀ s Tv, FewS h s 25 45 45 N1 N2 S0 K0 Tv → wpC E noYF few4C s Q) : wpC E noYF few3C s0 Q := by
  rw [few3_eq]
  obtain ⟨f1, f2, f3, fd, fr, fb, o2, o4, o6, gS, gK, gT, n1, n2⟩ := hs
  simp [hdC, few3C, few2C, few1C, tlC, F4]
  refine wp_loopUp [(6, 7), (67, 98)] 45 (fun i s => s.tm 6 = .int .i64 i ∧ i ≤ h.ts.length ∧ ∃ Tv, FewS h s 25 45 i N1 N2 S0 K0 Tv) rfl rfl ?_ ?_
  · refine ⟨by simp, by simp, .sl none true 0 [], ⟨by simp [f1], by simp [f2], by simp [f3], by simp [fd], by simp [fr], by simp [fb], by simp [o2], by simp [o4], by simp [o6], ?_, ?_, .inl ⟨rfl, rfl⟩, n1, by simp; omega⟩⟩
    · simp
      exact gS
    · simp
      exact gK
  rintro i s hi ⟨h4, hle, Tv, f1, f2, f3, fd, fr, fb, o2, o4, o6, gS, gK, gT, n1, n2⟩ f
  clear f
  by_cases hlt : i < h.ts.length
  · by_cases hl5 : i < 45
    · have hw := wrapU hl5 (by omega)
      have hl5' : (i : Int) < 45 := by omega
      obtain ⟨t, ht⟩ : ∃ t, h.ts[i] = t := ⟨_, rfl⟩
      have hmn := min_len t.ops.length 25
      rw [show ((25 : Nat) : Int) = 25 from rfl] at hmn
      have hld := load_slOf txnC_len s.ob h.ts hlt
      rw [ht] at hld
      simp [h4, f1, o2, objCells, histC, hlt, hl5', idx_slOf txnC_len, load_slOf txnC_len, ht, txnC, fr, fb, splice]
      refine kS_buildSl (cs := []) rfl rfl rfl ?_
      have hss := slSl_to (cs := t.ops.flatMap opC) (kk := .i64) (t := none) (nl := t.nl) (sz := 4) (n := t.ops.length) (Nat.min_le_left t.ops.length 25) (by rw [flatMap_len opC_len])
      rw [take_ops] at hss
      have hto : t.ops.take (min t.ops.length 25) = t.ops.take 25 := by
        rcases Nat.le_total t.ops.length 25 with h' | h'
        · rw [Nat.min_eq_left h', List.take_of_length_le (Nat.le_refl _), List.take_of_length_le h']
        · rw [Nat.min_eq_right h']
      rw [hto] at hss
      have hmm : min t.ops.length 25 = (t.ops.take 25).length := by rw [List.length_take, Nat.min_comm]
      rw [hmm] at hss hmn
      replace hss : slSlV 4 none (some (.int .i64 ((t.ops.take 25).length : Int))) (slOf t.nl opC t.ops) = _ := hss
      generalize hL : t.ops.take 25 = L at *
      simp [objCells, hmn, hss]
      have hLl : L.length ≤ 25 := by rw [← hL, List.length_take]; omega
      have hop : (L.flatMap opC).all V.pureLeaf = true := by
        rw [List.all_eq_true]
        intro y hy
        obtain ⟨a, _, ha⟩ := List.mem_flatMap.1 hy
        simp [opC] at ha
        rcases ha with rfl | rfl | rfl | rfl <;> rfl
      refine kS_appendL2 (f := opC) (l1 := []) (l2 := L) (by simp; try rfl) (by simp [app_tk]) (by omega) (by simp [slCells, -List.length_flatMap, flatMap_len opC_len]) opC_len (by decide) hop (by simp; omega) (by simp; omega) ?_
      intro u2 del2 add2 hu2 hd2 htk2
      have hdS : ∀ u, u < s.nx → ¬ del2 = some u := fun u hu e => by have := hd2 u e; omega
      simp [objCells, fr, splice, f3, o6]
      refine kS_buildSl (cs := [.int .i64 t.s, .int .i64 t.f, .sl (some (u2, 4)) false L.length (L.flatMap opC)]) (by simp [splice]) rfl (by simp [-List.length_flatMap]) ?_
      simp
      have hl45 : ((h.ts.take i).map fewT).length ≤ 45 := by rw [List.length_map, List.length_take]; omega
      have hfT : txnC (fewT t) = [.int .i64 t.s, .int .i64 t.f, .sl none false L.length (L.flatMap opC)] := by simp [txnC, fewT, slOf, hL]
      obtain ⟨tT, hTv⟩ := gT.form
      refine kS_appendG (f := txnC) (lo := N2) (hi := s.nx) (l := (h.ts.take i).map fewT) (a := fewT t) (v := Tv) ?_ (by simp) (by simp [slCells, hfT]) txnC_len (by decide) (by simp [hfT, -List.length_flatMap]) (by omega) (by omega) (fun del hdel => ?_)
      · exact gT.mono (fun u _ hu ht => by simp [app_tk, ht, hdS u hu]) (Nat.le_refl _)
      have hdN : ∀ u, u < N2 → ¬ del = some u := fun u hu e => by have := hdel u e; omega
      have hsn : (h.ts.take (i + 1)).map fewT = (h.ts.take i).map fewT ++ [fewT t] := by rw [List.take_succ_eq_append_getElem hlt, ht]; simp
      have hne : (h.ts.take (i + 1)).map fewT ≠ [] := by rw [hsn]; simp
      have hlen : ((h.ts.take i).map fewT).length + 1 = ((h.ts.take (i + 1)).map fewT).length := by rw [hsn]; simp
      rw [← hsn, hlen]
      generalize hM : (h.ts.take (i + 1)).map fewT = M at *
      simp [f3, o6, objCells, fr, splice, h4, hw]
      refine ⟨hl5, by omega, _, ⟨by simp [f1], by simp [f2], by simp [f3], by simp [fd], by simp [fr], by simp [fb], by simp [o2, histC], by simp [o4], by simp; try rfl, gS.mono (fun u _ hu ht => by simp [app_tk, ht, hdS u (by omega), hdN u (by omega)]) (Nat.le_refl _), gK.mono (fun u _ hu ht => by simp [app_tk, ht, hdS u (by omega), hdN u (by omega)]) (Nat.le_refl _), ?_, n1, by first | omega | (simp; omega)⟩⟩
      rw [hM]
      exact .inr ⟨hne, _, rfl, by simp [app_tk], by omega, by first | omega | simp⟩
    · have hl5' : ¬ (i : Int) < 45 := by omega
      simp [h4, f1, o2, objCells, histC, hlt, hl5']
      refine hrest _ Tv ⟨by simp [f1], by simp [f2], by simp [f3], by simp [fd], by simp [fr], by simp [fb], by simp [o2, histC], by simp [o4], by simp [o6], ?_, ?_, ?_, n1, by simp; omega⟩
      · simp
        exact gS
      · simp
        exact gK
      rw [← few_end hle hi (fun hx => by omega)]
      simp [-List.map_take]
      exact gT.mono (fun _ _ _ h => h) (by omega)
  · simp [h4, f1, o2, objCells, histC, hlt]
    refine hrest _ Tv ⟨by simp [f1], by simp [f2], by simp [f3], by simp [fd], by simp [fr], by simp [fb], by simp [o2, histC], by simp [o4], by simp [o6], ?_, ?_, ?_, n1, by simp; omega⟩
    · simp
      exact gS
    · simp
      exact gK
    rw [← few_end hle hi (fun hx => by omega)]
    simp [-List.map_take]
    exact gT.mono (fun _ _ _ h => h) (by omega)
theorem kE1 {st : St} {p l u : Nat} {x y z : V} {g : Hist'} (hd : st.df = []) (hp : st.tm p = .ptr l u 0) (ho : st.ob l = some ⟨u, .cells [x, y, z]⟩)
    (hx : SlOut st x g.sn g.ss.length (g.ss.flatMap strC)) (hy : SlOut st y g.kn g.ks.length (g.ks.flatMap strC)) (hz : SlOut st z g.tn g.ts.length (g.ts.flatMap txnC)) : kEndE [.cell p (some 3)] (fun r => HistR r g) .ret st := endH1 hd hp ho hx hy hz
theorem few4 {h : Hist'} {s : St} {N1 N2 : Nat} {S0 K0 T0 : V} (hs : FewS h s 25 45 45 N1 N2 S0 K0 T0) : wpC E noYF few4C s (kEndE [.cell 2 (some 3)] fun r => HistR r (fewH h)) := by
  obtain ⟨f1, f2, f3, fd, fr, fb, o2, o4, o6, gS, gK, gT, n1, n2⟩ := hs
  obtain ⟨T, hTd⟩ : ∃ T, (h.ts.take 45).map fewT = T := ⟨_, rfl⟩
  obtain ⟨S, hSd⟩ : ∃ S, fewS 25 h.ss = S := ⟨_, rfl⟩
  obtain ⟨K, hKd⟩ : ∃ K, fewS 45 h.ks = K := ⟨_, rfl⟩
  have hg : fewH h = ⟨S.isEmpty, S, K.isEmpty, K, T.isEmpty, T⟩ := by rw [← hTd, ← hSd, ← hKd]; rfl
  rw [hTd] at gT
  rw [hSd] at gS
  rw [hKd] at gK
  rw [hg]
  obtain ⟨tS, hS⟩ := gS.form
  obtain ⟨tK, hK⟩ := gK.form
  obtain ⟨tT, hT⟩ := gT.form
  generalize hP : (kEndE [.cell 2 (some 3)] fun r => HistR r ⟨S.isEmpty, S, K.isEmpty, K, T.isEmpty, T⟩) = P
  simp [few4C, few3C, few2C, few1C, tlC, F4, f3, f2, o6, o4, objCells, fr, splice, hS, hK, hT]
  subst hP
  refine kE1 (l := 4) (u := 64) (x := .sl tS S.isEmpty S.length (S.flatMap strC)) (y := .sl tK K.isEmpty K.length (K.flatMap strC)) (z := .sl tT T.isEmpty T.length (T.flatMap txnC)) (by simp [fd]) (by simp [f2]) (by simp) (slOut_sl _ tS _ _ _) (slOut_sl _ tK _ _ _) (slOut_sl _ tT _ _ _)
theorem ev4 (h : Hist') : ∃ r, Ev E 4 [.agg (histC h)] r ∧ HistR r (fewH h) := by
  refine Ev_wpE (af := F4) rfl (by decide) ?_
  show wpC E noYF F4.body _ (kEndE [.cell 2 (some 3)] fun r => HistR r (fewH h))
  generalize hP : (kEndE [.cell 2 (some 3)] fun r => HistR r (fewH h)) = P
  have e : F4.body = .seq (hdC F4.body) (.seq (hdC (tlC F4.body)) few1C) := rfl
  rw [e]
  simp [hdC, tlC, F4, histC, objCells, splice]
  refine few1 (h := h) ⟨by simp, by simp, by simp, by simp, by simp, by simp, by simp [histC], by simp, by simp, .inl ⟨rfl, rfl⟩, .inl ⟨rfl, rfl⟩, .inl ⟨rfl, rfl⟩, Nat.le_refl _, Nat.le_refl _⟩ ?_
  intro s1 Sv h1
  refine few2 h1 ?_
  intro s2 Kv h2
  refine few3 h2 ?_
  intro s3 Tv h3
  rw [← hP]
  exact few4 h3
end Go.Pv.T
namespace Go.Pv.T
open Go Go.Pv
end Go.Pv.T
namespace Go.Pv.T
open Go Go.Pv
end Go.Pv.T
namespace Go.Pv.T
open Go Go.Pv
end Go.Pv.T
namespace Go.Pv.T
open Go Go.Pv
theorem may_bad {g : Hist'} (hm : mayH g = false) : errH g = 4 := by unfold errH; rw [hm]; rfl
end Go.Pv.T
