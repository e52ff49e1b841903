/- Part of the proof. -/
import Derived.Test.YtbkdnpdfojjfnaaGreatDoorFAK
set_option maxRecDepth 100000
set_option maxHeartbeats 8000000
set_option linter.all false
namespace Go.Pv.T
open Go Go.Pv
theorem eval_g1 (tm : Nat → V) : eval E tm (.g 1) = .eptr utf8first 0 := rfl
theorem eval_g2 (tm : Nat → V) : eval E tm (.g 2) = .eptr accR 0 := rfl
theorem first_at (b : Nat) (h : b < 256) : utf8first[b]? = some (.int .u8 (Lib.firstT b : Nat)) := by
  unfold utf8first
  rw [List.getElem?_map, List.getElem?_range h]
  rfl
theorem acc_at (y : Nat) (h : y < 16) : (accR.drop (y * 2)).take 2 = [.int .u8 (Lib.accLo y : Nat), .int .u8 (Lib.accHi y : Nat)] := by
  have : y = 0 ∨ y = 1 ∨ y = 2 ∨ y = 3 ∨ y = 4 ∨ y = 5 ∨ y = 6 ∨ y = 7 ∨ y = 8 ∨ y = 9 ∨ y = 10 ∨ y = 11 ∨ y = 12 ∨ y = 13 ∨ y = 14 ∨ y = 15 := by omega
  rcases this with h | h | h | h | h | h | h | h | h | h | h | h | h | h | h | h <;> subst h <;> rfl
theorem and7 : ∀ x : Fin 256, IntKind.u8.wrap ((BitVec.ofInt IntKind.u8.bits ((x.val : Nat) : Int) &&& BitVec.ofInt IntKind.u8.bits 7).toNat : Int) = ((x.val % 8 : Nat) : Int) := by decide +kernel
theorem u8_and7 (x : Nat) (h : x < 256) : binV .and (.int .u8 (x : Int)) (.int .u8 7) = some (.int .u8 ((x % 8 : Nat) : Int)) := by
  simp only [binV, intBin, if_true]
  have := and7 ⟨x, h⟩
  simp only at this
  rw [this]
theorem u8_shr4 (x : Nat) (_ : x < 256) : binV .shr (.int .u8 (x : Int)) (.int .u64 4) = some (.int .u8 ((x / 16 : Nat) : Int)) := by
  simp only [binV, shiftBin]
  rw [if_neg (by decide)]
  have e : min (Int.toNat 4) IntKind.u8.bits = 4 := by decide
  rw [e]
  congr 2
  rw [Int.fdiv_eq_ediv_of_nonneg _ (by decide)]
  omega
theorem first_lt (b : Nat) : Lib.firstT b < 256 := by
  unfold Lib.firstT
  repeat' split
  all_goals omega
abbrev M8 : Nat := 9259542123273814144
theorem wd_lt (l : List UInt8) : wd l < 2 ^ 64 := by
  have h := Lib.leNat_lt (l.take 8)
  have h2 : (256 : Nat) ^ (l.take 8).length ≤ 256 ^ 8 := Nat.pow_le_pow_right (by decide) (by rw [List.length_take]; omega)
  have h3 : (256 : Nat) ^ 8 = 2 ^ 64 := by decide
  unfold wd
  omega
theorem wd_ascii {l : List UInt8} (h8 : 8 ≤ l.length) (h : wd l &&& M8 = 0) : Lib.validD l = Lib.validD (l.drop 8) := by
  have e : (l.take 8).length = 8 := by rw [List.length_take]; omega
  have := (Lib.leNat_mask (l.take 8)).1 (by rw [e, Lib.maskN8]; exact h)
  exact Lib.validD_ascii 8 l this
theorem and_ex (w : Nat) (hw : w < 2 ^ 64) : ∃ q : Nat, q = w &&& M8 ∧ binV .and (.int .u64 (w : Int)) (.int .u64 9259542123273814144) = some (.int .u64 (q : Int)) :=
  ⟨_, rfl, u64_and (b := M8) rfl hw (by decide)⟩
theorem orw_ex {a b : Nat} (ha : a < 2 ^ 64) (hb : b < 2 ^ 64) : ∃ q : Nat, q = a ||| b ∧ q < 2 ^ 64 ∧ binV .or (.int .u64 (a : Int)) (.int .u64 (b : Int)) = some (.int .u64 (q : Int)) :=
  ⟨_, rfl, Nat.or_lt_two_pow ha hb, u64_or ha hb⟩
theorem beq0 (q : Nat) : ((q : Int) == 0) = decide (q = 0) := by
  rw [Bool.eq_iff_iff]; simp
theorem ev83 (s : List UInt8) (_ : s.length ≤ 1000000) : Ev E 83 [.str s] (.bool (Lib.validD s)) := by
  refine Ev_wpK (af := F83) rfl ?_
  simp [F83]
  refine wp_loopF (n := s.length) [(0, 200)] (fun k st => ∃ l, k = l.length ∧ st.tm 0 = .str l ∧ Lib.validD s = Lib.validD l ∧ l.length ≤ s.length) rfl rfl ⟨s, by simp⟩ ?_
  rintro k st ⟨l, rfl, h0, hv, hl⟩ f
  have fd : st.df = [] := by rw [f.d]; simp
  have fb : st.fb = 0 := by rw [f.b]; simp
  have fr : st.ro = 0 := by rw [f.r]; simp
  clear f
  cases hl0 : l with
  | nil =>
    subst hl0
    simp [h0]
    exact endV_1 (by simp [fd]) (by simp [hv]; rfl) rfl
  | cons b t =>
  rw [← hl0]
  have hlen : l.length = t.length + 1 := by rw [hl0]; rfl
  have hb256 := b.toNat_lt
  have hget : l.getD 0 0 = b := by rw [hl0]; rfl
  have i0 : idxStrV (.str l) (.int .i64 0) = some (.int .u8 (b.toNat : Int)) := by
    have := idxStr_at (s := l) (i := 0) (x := 0) .i64 (by omega) rfl
    rw [hget] at this
    exact this
  have hpos : 0 < l.length := by omega
  by_cases hb : (b.toNat : Int) < 128
  · have hvt : Lib.validD s = Lib.validD t := by rw [hv, hl0, Lib.validD_cons b t (by omega)]
    have d1 : slStrV (some (.int .i64 1)) none (.str l) = some (.str t) := by
      rw [slStr_from (k := 1) (x := 1) rfl (by omega : 1 ≤ l.length), hl0]; rfl
    by_cases h8 : 8 < (t.length : Int)
    · obtain ⟨w, hw⟩ : ∃ w, wd t = w := ⟨_, rfl⟩
      have hwl : w < 2 ^ 64 := hw ▸ wd_lt t
      obtain ⟨q, hq, aq⟩ := and_ex w hwl
      simp [h0, hpos, i0, hb, d1, h8]
      refine kS_ev (ev121 t (by omega)) (by simp) rfl rfl ?_
      rw [hw]
      by_cases hq0 : q = 0
      · have hv8 : Lib.validD s = Lib.validD (t.drop 8) := by rw [hvt, wd_ascii (by omega) (by rw [hw, ← hq, hq0])]
        have d8 : slStrV (some (.int .i64 8)) none (.str t) = some (.str (t.drop 8)) := slStr_from (k := 8) rfl (by omega)
        have hl8 : (t.drop 8).length = t.length - 8 := List.length_drop
        obtain ⟨u, hu⟩ : ∃ u, t.drop 8 = u := ⟨_, rfl⟩
        rw [hu] at hv8 d8 hl8
        simp [aq, hq0, d8]
        by_cases h16 : 16 < (u.length : Int)
        · have d8u : slStrV (some (.int .i64 8)) none (.str u) = some (.str (u.drop 8)) := slStr_from (k := 8) rfl (by omega)
          have d16 : slStrV (some (.int .i64 16)) none (.str u) = some (.str (u.drop 16)) := slStr_from (k := 16) rfl (by omega)
          have hlu : (u.drop 8).length = u.length - 8 := List.length_drop
          obtain ⟨w1, hw1⟩ : ∃ w, wd u = w := ⟨_, rfl⟩
          obtain ⟨w2, hw2⟩ : ∃ w, wd (u.drop 8) = w := ⟨_, rfl⟩
          obtain ⟨o, ho, hol, oo⟩ := orw_ex (hw1 ▸ wd_lt u) (hw2 ▸ wd_lt (u.drop 8))
          obtain ⟨q2, hq2, aq2⟩ := and_ex o hol
          have e1 := ev121 u (by omega)
          have e2 := ev121 (u.drop 8) (by omega)
          rw [hw1] at e1
          rw [hw2] at e2
          obtain ⟨u8, hu8⟩ : ∃ x, u.drop 8 = x := ⟨_, rfl⟩
          rw [hu8] at d8u e2 hlu
          simp [h16]
          refine kD_ev e1 (by simp) rfl rfl ?_
          simp [d8u]
          refine kD_ev e2 (by simp) rfl rfl ?_
          by_cases hq20 : q2 = 0
          · have hb2 := (Lib.or_mask w1 w2 M8).1 (by rw [← ho, ← hq2, hq20])
            have hv16 : Lib.validD s = Lib.validD (u.drop 16) := by
              rw [hv8, wd_ascii (by omega) (by rw [hw1]; exact hb2.1), hu8, wd_ascii (by omega) (by rw [← hu8, hw2]; exact hb2.2), ← hu8, List.drop_drop]
            have hl16 : (u.drop 16).length = u.length - 16 := List.length_drop
            obtain ⟨v, hv'⟩ : ∃ x, u.drop 16 = x := ⟨_, rfl⟩
            rw [hv'] at d16 hv16 hl16
            simp [oo, aq2, hq20, d16]
            refine wp_loopF (n := v.length) [(0, 0), (42, 64)] (fun k st => ∃ x, k = x.length ∧ st.tm 0 = .str x ∧ Lib.validD s = Lib.validD x ∧ x.length ≤ v.length) rfl rfl ⟨v, by simp [hv16]⟩ ?_
            rintro k st' ⟨x, rfl, g0, gv, gl⟩ _
            by_cases h32 : 32 < (x.length : Int)
            · have d8x : slStrV (some (.int .i64 8)) none (.str x) = some (.str (x.drop 8)) := slStr_from (k := 8) rfl (by omega)
              have d16x : slStrV (some (.int .i64 16)) none (.str x) = some (.str (x.drop 16)) := slStr_from (k := 16) rfl (by omega)
              have d24x : slStrV (some (.int .i64 24)) none (.str x) = some (.str (x.drop 24)) := slStr_from (k := 24) rfl (by omega)
              have d32x : slStrV (some (.int .i64 32)) none (.str x) = some (.str (x.drop 32)) := slStr_from (k := 32) rfl (by omega)
              have hl32 : (x.drop 32).length = x.length - 32 := List.length_drop
              obtain ⟨y0, hy0⟩ : ∃ w, wd x = w := ⟨_, rfl⟩
              obtain ⟨y1, hy1⟩ : ∃ w, wd (x.drop 8) = w := ⟨_, rfl⟩
              obtain ⟨y2, hy2⟩ : ∃ w, wd (x.drop 16) = w := ⟨_, rfl⟩
              obtain ⟨y3, hy3⟩ : ∃ w, wd (x.drop 24) = w := ⟨_, rfl⟩
              obtain ⟨p1, hp1, hp1l, op1⟩ := orw_ex (hy0 ▸ wd_lt x) (hy1 ▸ wd_lt (x.drop 8))
              obtain ⟨p2, hp2, hp2l, op2⟩ := orw_ex (hy2 ▸ wd_lt (x.drop 16)) (hy3 ▸ wd_lt (x.drop 24))
              obtain ⟨p3, hp3, hp3l, op3⟩ := orw_ex hp1l hp2l
              obtain ⟨q3, hq3, aq3⟩ := and_ex p3 hp3l
              have e1 := ev121 x (by omega)
              have e2 := ev121 (x.drop 8) (by rw [List.length_drop]; omega)
              have e3 := ev121 (x.drop 16) (by rw [List.length_drop]; omega)
              have e4 := ev121 (x.drop 24) (by rw [List.length_drop]; omega)
              rw [hy0] at e1
              rw [hy1] at e2
              rw [hy2] at e3
              rw [hy3] at e4
              have hall : q3 = 0 → Lib.validD s = Lib.validD (x.drop 32) := by
                intro hz
                rw [hq3, hp3, Lib.or_mask, hp1, hp2, Lib.or_mask, Lib.or_mask] at hz
                obtain ⟨⟨z0, z1⟩, z2, z3⟩ := hz
                rw [gv, wd_ascii (by omega) (by rw [hy0]; exact z0), wd_ascii (by rw [List.length_drop]; omega) (by rw [hy1]; exact z1), List.drop_drop,
                  wd_ascii (by rw [List.length_drop]; omega) (by rw [hy2]; exact z2), List.drop_drop, wd_ascii (by rw [List.length_drop]; omega) (by rw [hy3]; exact z3), List.drop_drop]
              clear hy0 hy1 hy2 hy3 hp1 hp2 hp3 hq3
              obtain ⟨x8, hx8⟩ : ∃ z, x.drop 8 = z := ⟨_, rfl⟩
              obtain ⟨x16, hx16⟩ : ∃ z, x.drop 16 = z := ⟨_, rfl⟩
              obtain ⟨x24, hx24⟩ : ∃ z, x.drop 24 = z := ⟨_, rfl⟩
              obtain ⟨x32, hx32⟩ : ∃ z, x.drop 32 = z := ⟨_, rfl⟩
              rw [hx8] at d8x e2
              rw [hx16] at d16x e3
              rw [hx24] at d24x e4
              rw [hx32] at d32x hl32 hall
              simp [g0, h32]
              refine kD_ev e1 (by simp) rfl rfl ?_
              simp [d8x, g0]
              refine kD_ev e2 (by simp) rfl rfl ?_
              simp [d16x, op1, g0]
              refine kD_ev e3 (by simp) rfl rfl ?_
              simp [d24x, g0]
              refine kD_ev e4 (by simp) rfl rfl ?_
              by_cases hq30 : q3 = 0
              · simp [op2, op3, aq3, hq30, d32x, g0]
                exact ⟨x32.length, by omega, x32, rfl, rfl, hall hq30, by omega⟩
              · simp [op2, op3, aq3, beq0, hq30, g0]
                exact ⟨x.length, by omega, x, rfl, rfl, gv, by omega⟩
            · simp [g0, h32]
              exact ⟨x.length, by omega, x, rfl, rfl, gv, by omega⟩
          · simp [oo, aq2, beq0, hq20]
            exact ⟨u.length, by omega, u, rfl, rfl, hv8, by omega⟩
        · simp [h16]
          exact ⟨u.length, by omega, u, rfl, rfl, hv8, by omega⟩
      · simp [aq, beq0, hq0]
        exact ⟨t.length, by omega, t, rfl, rfl, hvt, by omega⟩
    · simp [h0, hpos, i0, hb, d1, h8]
      exact ⟨t.length, by omega, t, rfl, rfl, hvt, by omega⟩
  · have hlead := Lib.validD_lead l (by rw [hl0]; simp) (by rw [hget]; omega)
    rw [hget] at hlead
    rw [← hv] at hlead
    obtain ⟨x, hx⟩ : ∃ x, Lib.firstT b.toNat = x := ⟨_, rfl⟩
    have hx256 : x < 256 := hx ▸ first_lt _
    have ld1 := first_at b.toNat b.toNat_lt
    have ia1 : idxArrV 256 1 (.eptr utf8first 0) (.int .u8 (b.toNat : Int)) = some (.eptr utf8first b.toNat) := by
      simp only [idxArrV]
      rw [if_pos (by omega)]
      simp
    have a7 := u8_and7 x hx256
    have s4 := u8_shr4 x hx256
    obtain ⟨y, hy⟩ : ∃ y, x / 16 = y := ⟨_, rfl⟩
    obtain ⟨sz, hsz⟩ : ∃ y, x % 8 = y := ⟨_, rfl⟩
    have hy16 : y < 16 := by omega
    have ia2 : idxArrV 16 2 (.eptr accR 0) (.int .u8 (y : Int)) = some (.eptr accR (y * 2)) := by
      simp only [idxArrV]
      rw [if_pos (by omega)]
      simp
    have ld2 : ∀ ob, loadV ob (some 2) (.eptr accR (y * 2)) = some (.agg [.int .u8 (Lib.accLo y : Nat), .int .u8 (Lib.accHi y : Nat)]) := fun ob => by
      rw [loadV_e, pick1_some, acc_at y hy16, if_pos (by show y * 2 + 2 ≤ 32; omega)]
    have cv : convV .i64 (.int .u8 (sz : Int)) = some (.int .i64 (sz : Int)) := by simp only [convV]; rw [wrap64' (by omega) (by omega)]
    rw [hx] at hlead ld1
    rw [hsz] at a7 hlead
    rw [hy] at s4 hlead
    have i1 : 1 < l.length → _ := fun h => idxStr_at (s := l) (i := 1) (x := 1) .i64 h rfl
    have i2 : 2 < l.length → _ := fun h => idxStr_at (s := l) (i := 2) (x := 2) .i64 h rfl
    have i3 : 3 < l.length → _ := fun h => idxStr_at (s := l) (i := 3) (x := 3) .i64 h rfl
    generalize (l.getD 1 0).toNat = b1 at *
    generalize (l.getD 2 0).toNat = b2 at *
    generalize (l.getD 3 0).toNat = b3 at *
    generalize Lib.accLo y = lo at *
    generalize Lib.accHi y = hi at *
    simp [h0, hpos, i0, hb, eval_g1, ia1, ld1, a7, cv, s4, eval_g2, ia2, ld2, objCells, fb, fr, splice]
    by_cases hs2 : sz = 2
    · by_cases c0 : (l.length : Int) < 2
      · have hc : Lib.checkN l.length b1 b2 b3 sz lo hi = none := by unfold Lib.checkN; simp [hs2]; omega
        rw [hc] at hlead
        simp [hs2, h0, c0]
        exact endV_1 (by simp [fd]) (by simp [hlead]) rfl
      have i1 := i1 (by omega)
      by_cases c1 : (b1 : Int) < lo
      · have hc : Lib.checkN l.length b1 b2 b3 sz lo hi = none := by unfold Lib.checkN; simp [hs2]; omega
        rw [hc] at hlead
        simp [hs2, h0, objCells, c0, i1, c1]
        exact endV_1 (by simp [fd]) (by simp [hlead]) rfl
      by_cases c2 : (hi : Int) < b1
      · have hc : Lib.checkN l.length b1 b2 b3 sz lo hi = none := by unfold Lib.checkN; simp [hs2]; omega
        rw [hc] at hlead
        simp [hs2, h0, objCells, c0, i1, c1, c2]
        exact endV_1 (by simp [fd]) (by simp [hlead]) rfl
      have hc : Lib.checkN l.length b1 b2 b3 sz lo hi = some 2 := by unfold Lib.checkN; simp [hs2]; omega
      rw [hc] at hlead
      have dd : slStrV (some (.int .i64 2)) none (.str l) = some (.str (l.drop 2)) := slStr_from (k := 2) rfl (by omega)
      simp [hs2, h0, objCells, c0, i1, c1, c2, dd]
      exact ⟨(l.drop 2).length, by rw [List.length_drop]; omega, l.drop 2, by simp, rfl, hlead, by rw [List.length_drop]; omega⟩
    by_cases hs3 : sz = 3
    · by_cases c0 : (l.length : Int) < 3
      · have hc : Lib.checkN l.length b1 b2 b3 sz lo hi = none := by unfold Lib.checkN; simp [hs3]; omega
        rw [hc] at hlead
        simp [hs3, h0, c0]
        exact endV_1 (by simp [fd]) (by simp [hlead]) rfl
      have i1 := i1 (by omega)
      have i2 := i2 (by omega)
      by_cases c1 : (b1 : Int) < lo
      · have hc : Lib.checkN l.length b1 b2 b3 sz lo hi = none := by unfold Lib.checkN; simp [hs3]; omega
        rw [hc] at hlead
        simp [hs3, h0, objCells, c0, i1, c1]
        exact endV_1 (by simp [fd]) (by simp [hlead]) rfl
      by_cases c2 : (hi : Int) < b1
      · have hc : Lib.checkN l.length b1 b2 b3 sz lo hi = none := by unfold Lib.checkN; simp [hs3]; omega
        rw [hc] at hlead
        simp [hs3, h0, objCells, c0, i1, c1, c2]
        exact endV_1 (by simp [fd]) (by simp [hlead]) rfl
      by_cases e2 : (b2 : Int) < 128
      · have hc : Lib.checkN l.length b1 b2 b3 sz lo hi = none := by unfold Lib.checkN; simp [hs3]; omega
        rw [hc] at hlead
        simp [hs3, h0, objCells, c0, i1, i2, c1, c2, e2]
        exact endV_1 (by simp [fd]) (by simp [hlead]) rfl
      by_cases f2 : 191 < (b2 : Int)
      · have hc : Lib.checkN l.length b1 b2 b3 sz lo hi = none := by unfold Lib.checkN; simp [hs3]; omega
        rw [hc] at hlead
        simp [hs3, h0, objCells, c0, i1, i2, c1, c2, e2, f2]
        exact endV_1 (by simp [fd]) (by simp [hlead]) rfl
      have hc : Lib.checkN l.length b1 b2 b3 sz lo hi = some 3 := by unfold Lib.checkN; simp [hs3]; omega
      rw [hc] at hlead
      have dd : slStrV (some (.int .i64 3)) none (.str l) = some (.str (l.drop 3)) := slStr_from (k := 3) rfl (by omega)
      simp [hs3, h0, objCells, c0, i1, i2, c1, c2, e2, f2, dd]
      exact ⟨(l.drop 3).length, by rw [List.length_drop]; omega, l.drop 3, by simp, rfl, hlead, by rw [List.length_drop]; omega⟩
    by_cases hs4 : sz = 4
    · by_cases c0 : (l.length : Int) < 4
      · have hc : Lib.checkN l.length b1 b2 b3 sz lo hi = none := by unfold Lib.checkN; simp [hs4]; omega
        rw [hc] at hlead
        simp [hs4, h0, c0]
        exact endV_1 (by simp [fd]) (by simp [hlead]) rfl
      have i1 := i1 (by omega)
      have i2 := i2 (by omega)
      have i3 := i3 (by omega)
      by_cases c1 : (b1 : Int) < lo
      · have hc : Lib.checkN l.length b1 b2 b3 sz lo hi = none := by unfold Lib.checkN; simp [hs4]; omega
        rw [hc] at hlead
        simp [hs4, h0, objCells, c0, i1, c1]
        exact endV_1 (by simp [fd]) (by simp [hlead]) rfl
      by_cases c2 : (hi : Int) < b1
      · have hc : Lib.checkN l.length b1 b2 b3 sz lo hi = none := by unfold Lib.checkN; simp [hs4]; omega
        rw [hc] at hlead
        simp [hs4, h0, objCells, c0, i1, c1, c2]
        exact endV_1 (by simp [fd]) (by simp [hlead]) rfl
      by_cases e2 : (b2 : Int) < 128
      · have hc : Lib.checkN l.length b1 b2 b3 sz lo hi = none := by unfold Lib.checkN; simp [hs4]; omega
        rw [hc] at hlead
        simp [hs4, h0, objCells, c0, i1, i2, c1, c2, e2]
        exact endV_1 (by simp [fd]) (by simp [hlead]) rfl
      by_cases f2 : 191 < (b2 : Int)
      · have hc : Lib.checkN l.length b1 b2 b3 sz lo hi = none := by unfold Lib.checkN; simp [hs4]; omega
        rw [hc] at hlead
        simp [hs4, h0, objCells, c0, i1, i2, c1, c2, e2, f2]
        exact endV_1 (by simp [fd]) (by simp [hlead]) rfl
      by_cases e3 : (b3 : Int) < 128
      · have hc : Lib.checkN l.length b1 b2 b3 sz lo hi = none := by unfold Lib.checkN; simp [hs4]; omega
        rw [hc] at hlead
        simp [hs4, h0, objCells, c0, i1, i2, i3, c1, c2, e2, f2, e3]
        exact endV_1 (by simp [fd]) (by simp [hlead]) rfl
      by_cases f3 : 191 < (b3 : Int)
      · have hc : Lib.checkN l.length b1 b2 b3 sz lo hi = none := by unfold Lib.checkN; simp [hs4]; omega
        rw [hc] at hlead
        simp [hs4, h0, objCells, c0, i1, i2, i3, c1, c2, e2, f2, e3, f3]
        exact endV_1 (by simp [fd]) (by simp [hlead]) rfl
      have hc : Lib.checkN l.length b1 b2 b3 sz lo hi = some 4 := by unfold Lib.checkN; simp [hs4]; omega
      rw [hc] at hlead
      have dd : slStrV (some (.int .i64 4)) none (.str l) = some (.str (l.drop 4)) := slStr_from (k := 4) rfl (by omega)
      simp [hs4, h0, objCells, c0, i1, i2, i3, c1, c2, e2, f2, e3, f3, dd]
      exact ⟨(l.drop 4).length, by rw [List.length_drop]; omega, l.drop 4, by simp, rfl, hlead, by rw [List.length_drop]; omega⟩
    have hc : Lib.checkN l.length b1 b2 b3 sz lo hi = none := by unfold Lib.checkN; simp [hs2, hs3, hs4]
    rw [hc] at hlead
    have z2 : ((sz : Int) == 2) = false := by simp; omega
    have z3 : ((sz : Int) == 3) = false := by simp; omega
    have z4 : ((sz : Int) == 4) = false := by simp; omega
    simp [z2, z3, z4]
    exact endV_1 (by simp [fd]) (by simp [hlead]) rfl
def nmScan : Nat → List Int → Bool
  | n, [] => decide (0 < n) && decide (n ≤ 20)
  | n, c :: l => if !partB c || (decide (n = 0) && digitB c) then false else nmScan (n + 1) l
theorem nmScan_pos : ∀ (l : List Int) (n : Nat), 0 < n → nmScan n l = (l.all partB && decide (n + l.length ≤ 20))
  | [], n, h => by simp [nmScan, h]
  | c :: l, n, h => by
    have h0 : ¬ n = 0 := by omega
    rw [nmScan, nmScan_pos l (n + 1) (by omega)]
    cases hp : partB c
    · simp [hp]
    · simp only [hp, h0, decide_false, Bool.false_and, Bool.or_false, Bool.not_true, Bool.false_eq_true, if_false, List.all_cons, Bool.true_and, List.length_cons]
      congr 2
      exact propext ⟨fun h => by omega, fun h => by omega⟩
theorem nmScan_0 (l : List Int) : nmScan 0 l = nmOk l := by
  cases l with
  | nil => rfl
  | cons c l =>
    rw [nmScan, nmScan_pos l 1 (by omega)]
    unfold nmOk headDig
    have e : decide (1 + l.length ≤ 20) = decide (l.length + 1 ≤ 20) := by rw [Nat.add_comm]
    cases hp : partB c <;> cases hd : digitB c <;> simp [hp, hd, e]
    rw [Bool.and_comm]
theorem kS_next {E : Env} {Yf : YF} {st : St} {ub : Nat} {K : St → Nat → Prop} {d : Option Nat} {nm : Bool} {x : A} {l u pos : Nat} {s : List UInt8} (hx : eval E st.tm x = .iter l u) (ho : st.ob l = some ⟨u, .siter s pos⟩) (hro : st.ro ≤ u)
    (h1 : pos < s.length → kApp K st d ub { v := .tup [.bool true, .int .i64 pos, .int .i32 (rU s pos : Nat)], obs := [(l, ⟨u, .siter s (pos + rW s pos)⟩)] })
    (h2 : ¬ pos < s.length → kSet K st d ub (.tup [.bool false])) : wpStep E Yf ⟨d, .nextStr x, none, nm⟩ st ub K := kS_nextStr hx ho hro h1 h2
theorem ev50 (s : List UInt8) (hs : s.length ≤ 1000000) : Ev E 50 [.str s] (.bool (nameB s)) := by
  refine Ev_wpK (af := F50) rfl ?_
  simp [F50]
  refine kS_ev (ev82 s) (by simp) rfl rfl ?_
  unfold nameB
  cases b1 : resB s
  case true =>
    simp
    exact endV_1 rfl (by simp) rfl
  simp
  refine kS_ev (ev83 s hs) (by simp) rfl rfl ?_
  cases b2 : Lib.validD s
  case false =>
    simp
    exact endV_1 rfl (by simp) rfl
  simp
  rw [← nmScan_0]
  refine wp_loopF (n := s.length) [(2, 3), (5, 5), (15, 30)] (fun k st => ∃ p n u, k = s.length - p ∧ p ≤ s.length ∧ n ≤ p ∧ st.tm 3 = .int .i64 (n : Nat) ∧ st.tm 14 = .iter 28 u ∧ st.ob 28 = some ⟨u, .siter s p⟩ ∧ nmScan 0 (runesI s) = nmScan n (RN s p)) rfl rfl
    ⟨0, 0, 640, by simp [runesI_eq]⟩ ?_
  rintro k st ⟨p, n, u, rfl, hp, hnp, h3, h14, ho, hsc⟩ f
  have fd : st.df = [] := by rw [f.d]; simp
  have fb : st.fb = 0 := by rw [f.b]; simp
  have fr : st.ro = 0 := by rw [f.r]; simp
  clear f
  simp
  refine kS_next (l := 28) (u := u) (pos := p) (s := s) (by simp [h14]) (by simp [ho]) (by simp [fr]) (fun hlt => ?_) (fun hge => ?_)
  · have hw := rW_pos hlt
    rw [RN_step hlt, nmScan] at hsc
    obtain ⟨c, hc⟩ : ∃ c : Int, (rU s p : Int) = c := ⟨_, rfl⟩
    rw [hc] at hsc ⊢
    simp
    refine kS_ev (ev84 c) (by simp) rfl rfl ?_
    cases hpc : partB c
    · rw [hpc] at hsc
      simp
      exact endV_1 (by simp [fd]) (by simp [hsc]) rfl
    · by_cases hn0 : n = 0
      · subst hn0
        simp [h3]
        refine kS_ev (ev85 c) (by simp) rfl rfl ?_
        cases hdc : digitB c
        · simp [h3, h14, hdc, hpc] at hsc ⊢
          exact ⟨s.length - (p + rW s p), by omega, p + rW s p, rfl, by omega, 1, by omega, by decide, rfl, hsc⟩
        · simp [hdc, hpc] at hsc ⊢
          exact endV_1 (by simp [fd]) (by simp [hsc]) rfl
      · simp [h3, h14, hpc, beq0, hn0] at hsc ⊢
        exact ⟨s.length - (p + rW s p), by omega, p + rW s p, rfl, by omega, n + 1, by omega, by rw [wrap64' (by omega) (by omega)]; simp, rfl, hsc⟩
  · have : p = s.length := by omega
    subst this
    rw [RN_end (Nat.le_refl _), nmScan] at hsc
    by_cases hn0 : 0 < n
    · simp [h3, hn0] at hsc ⊢
      exact endV_1 (by simp [fd]) (by simp [hsc]; omega) rfl
    · simp [h3, hn0] at hsc ⊢
      exact endV_1 (by simp [fd]) (by simp [hsc]) rfl
theorem ev32 (nl : Bool) (t : List (List UInt8)) (hn : t.length ≤ 1000000) (hl : ∀ s ∈ t, s.length ≤ 1000000) : Ev E 32 [slOf nl strC t] (.bool (tabB t)) := by
  refine Ev_wpK (af := F32) rfl ?_
  simp [F32]
  refine wp_loopUp [(2, 4), (7, 29)] t.length (fun i s => s.tm 7 = .int .i64 i ∧ ∀ j, j < t.length → j < i → okAt t j = true) rfl rfl ⟨by simp, fun j _ h => by omega⟩ ?_
  rintro i s hi ⟨h7, hb⟩ f
  have f0 : s.tm 0 = slOf nl strC t := by rw [f.t 0 (by simp)]; simp
  have f5 : s.tm 5 = slOf nl strC t := by rw [f.t 5 (by simp)]; simp
  have f6 : s.tm 6 = .int .i64 t.length := by rw [f.t 6 (by simp)]; simp
  have fd : s.df = [] := by rw [f.d]; simp
  clear f
  by_cases hlt : i < t.length
  · have hw := wrapU hlt (by omega)
    have hok : okAt t i = (nameB t[i] && (i == 0 || lessB (t.getD (i - 1) []) t[i])) := by unfold okAt; rw [getD_lt hlt]
    have hsi := hl _ (List.getElem_mem hlt)
    obtain ⟨c, hc⟩ : ∃ c, t[i] = c := ⟨_, rfl⟩
    have ht0 := str_at t hlt
    rw [hc] at hok ht0 hsi
    have step : okAt t i = true → ∀ j, j < t.length → j < i + 1 → okAt t j = true := fun h j hj hji => by
      rcases Nat.lt_succ_iff_lt_or_eq.1 hji with h' | rfl
      · exact hb j hj h'
      · exact h
    simp [h7, f5, f6, hlt, idx_slOf strC_len, ht0]
    refine kS_ev (ev50 c hsi) (by simp) rfl rfl ?_
    cases hnm : nameB c
    · rw [hnm] at hok
      simp
      exact endV_1 (by simp [fd]) (by simp [tabB_f hlt hok]) rfl
    · rw [hnm] at hok
      by_cases h0 : i = 0
      · subst h0
        simp [h7]
        exact ⟨hlt, by decide, fun j hj h => by subst h; exact step (by simp [hok]) 0 hj (by omega)⟩
      · have h0' : 0 < i := by omega
        have hwp := wrapP h0' (by omega)
        have hlp : i - 1 < t.length := by omega
        have hsp := hl _ (List.getElem_mem hlp)
        have ht1 := str_at t hlp
        rw [getD_lt hlp] at hok
        obtain ⟨e, he⟩ : ∃ e, t[i - 1] = e := ⟨_, rfl⟩
        rw [he] at hok ht1 hsp
        have hle := runesI_len e
        have hlc := runesI_len c
        simp [f0, h0', hwp, hlp, idx_slOf strC_len, ht1]
        refine kS_ev (ev51 e c (by omega) (by omega)) (by simp) rfl rfl ?_
        cases hls : lessB e c
        · have hls' := hls
          unfold lessB at hls'
          rw [hls']
          simp
          exact endV_1 (by simp [fd]) (by simp [tabB_f hlt (by simp [hok, hls, h0])]) rfl
        · have hls' := hls
          unfold lessB at hls'
          rw [hls']
          simp [h7, hw]
          exact ⟨hlt, step (by simp [hok, hls])⟩
  · have : i = t.length := by omega
    subst this
    simp [h7, f6]
    exact endV_1 (by simp [fd]) (by simp [tabB_t (fun j hj => hb j hj hj)]) rfl
def Fr1 (n : Nat) (ob ob' : Nat → Option Obj') : Prop := ∀ key, (∀ m, n ≤ m → key ≠ 2 * m + 1) → ob' key = ob key
theorem range_opsN (h : Hist') (hn : h.ts.length ≤ 1000) (hm : ∀ t ∈ h.ts, t.ops.length ≤ 1000000) {as bd : C} {ps : List Nat} (hps : ps.length = 2) (has : as.one = true) (hbd : bd.one = true) {st : St} {f : A} {lh uh : Nat}
    (hf : eval E st.tm f = .fn (.func 35) [] [.ptr lh uh 0]) (oh : st.ob lh = some ⟨uh, .cells (histC h)⟩) (hl1 : lh ≠ 2 * st.nx + 1) (hl3 : lh ≠ 2 * st.nx + 3) (hro : st.ro = 0)
    (J : Nat → Nat → (Nat → Option Obj') → (Nat → Bool) → Nat → Prop) {Q : Ex → St → Prop}
    (hJf : ∀ i k ob ob' tk ub ub', J i k ob tk ub → ub ≤ ub' → Fr1 st.nx ob ob' → J i k ob' tk ub')
    (hnext : ∀ i (hi : i < h.ts.length) ob tk ub, J i (h.ts[i]).ops.length ob tk ub → J (i + 1) 0 ob tk ub)
    (hbody : ∀ i (hi : i < h.ts.length) k (hk : k < (h.ts[i]).ops.length) ob tk ub, J i k ob tk ub → ob (2 * st.nx + 1) = some ⟨st.nx, .loop .ready none⟩ → ob (2 * st.nx + 3) = some ⟨st.nx + 1, .dfr⟩ → st.nx + 64 ≤ ub →
      wpC E noYF as { tm := setPs st.tm ps [.agg [.int .i64 i, .int .i64 k], .agg (opC (h.ts[i]).ops[k])], ob := ob, tk := tk, ro := 0, nx := ub, fb := st.fb, df := [] } fun e s1 => e = .nrm ∧ s1.ob (2 * st.nx + 1) = some ⟨st.nx, .loop .ready none⟩ ∧
        wpC E noYF bd { s1 with ob := upd s1.ob (2 * st.nx + 1) (some ⟨st.nx, .loop .busy none⟩) } fun e s2 => s2.ob (2 * st.nx + 1) = some ⟨st.nx, .loop .busy none⟩ ∧ s2.ob (2 * st.nx + 3) = some ⟨st.nx + 1, .dfr⟩ ∧ st.nx + 64 ≤ s2.nx ∧ e = .nrm ∧ J i (k + 1) s2.ob s2.tk s2.nx)
    (h0 : J 0 0 st.ob st.tk (st.nx + 64))
    (hQ : ∀ ob tk ub, J h.ts.length 0 ob tk ub → ob (2 * st.nx + 3) = some ⟨st.nx + 1, .dfr⟩ → st.nx + 64 ≤ ub → Q .nrm { st with ob := ob, tk := tk, nx := ub, df := (2 * st.nx + 3, st.nx + 1) :: st.df }) :
    wpC E noYF (.rangeFunc f ps as bd) st Q := by
  refine wpC_rangeFunc (g := 35) (first := []) (captured := [.ptr lh uh 0]) hf ?_
  have n13 : ¬ 2 * st.nx + 3 = 2 * st.nx + 1 := by omega
  have n31 : ¬ 2 * st.nx + 1 = 2 * st.nx + 3 := by omega
  have := run146 (Yf := roundF E noYF as bd st ps (2 * st.nx + 1) st.nx) h hn hm (l := 2 * st.nx + 1) (u := st.nx) (lh := lh) (uh := uh)
    (ob0 := upd (upd st.ob (2 * st.nx + 3) (some ⟨st.nx + 1, .dfr⟩)) (2 * st.nx + 1) (some ⟨st.nx, .loop .ready none⟩)) (tk0 := st.tk) (ro := st.ro) (base := (st.fb + 1023) * 1024) (ub0 := st.nx + 64)
    (by simp only [upd_apply, hl1, hl3, if_false, oh]) (by omega)
    (fun i k ob tk ub => J i k ob tk ub ∧ ob (2 * st.nx + 1) = some ⟨st.nx, .loop .ready none⟩ ∧ ob (2 * st.nx + 3) = some ⟨st.nx + 1, .dfr⟩ ∧ st.nx + 64 ≤ ub)
    (fun r => ∃ s pend, r.2.1 (2 * st.nx + 1) = some ⟨st.nx, .loop s pend⟩ ∧ s ≠ .busy ∧ st.ro ≤ st.nx ∧ Q (pend.getD .nrm) { st with ob := fun k => if Nat.beq (2 * st.nx + 1) k then none else r.2.1 k, tk := r.2.2.1, nx := r.2.2.2, df := (2 * st.nx + 3, st.nx + 1) :: st.df })
    ?_ ?_ ?_ ?_ ?_
  · obtain ⟨r, hr, hP⟩ := this
    exact ⟨r, hr, hP⟩
  · rintro i k ob ob' tk ub ub' ⟨g1, g2, g3, g4⟩ hub hfr
    have f : ∀ key, (∀ m, ub ≤ m → key ≠ 2 * m + 1) → ob' key = ob key := hfr
    exact ⟨hJf _ _ _ _ _ _ _ g1 hub (fun key hk => f key (fun m hm => hk m (by omega))), by rw [f _ (fun m hm => by omega)]; exact g2, by rw [f _ (fun m hm => by omega)]; exact g3, by omega⟩
  · rintro i hi ob tk ub ⟨g1, g⟩
    exact ⟨hnext i hi ob tk ub g1, g⟩
  · rintro i hi k hk ob tk ub ⟨g1, g2, g3, g4⟩ hru
    have hb := hbody i hi k hk ob tk ub g1 g2 g3 g4
    have := EvY_round (E := E) (Yf := noYF) (as := as) (bd := bd) (st := st) (ps := ps) (l := 2 * st.nx + 1) (u := st.nx) (xs := [.agg [.int .i64 i, .int .i64 k], .agg (opC (h.ts[i]).ops[k])]) (ob := ob) (tk := tk) (ro := st.ro) (ub := ub)
      (P := fun r => st.ro ≤ r.2.2.2 ∧ r.1 = .bool true ∧ J i (k + 1) r.2.1 r.2.2.1 r.2.2.2 ∧ r.2.1 (2 * st.nx + 1) = some ⟨st.nx, .loop .ready none⟩ ∧ r.2.1 (2 * st.nx + 3) = some ⟨st.nx + 1, .dfr⟩ ∧ st.nx + 64 ≤ r.2.2.2)
      (by simp [hps]) (by omega) g2 has hbd (by
        rw [hro]
        refine wpC_mono (fun e s1 h1 => ?_) hb
        obtain ⟨e1, e2, e3⟩ := h1
        refine ⟨e1, e2, wpC_mono (fun e s2 h2 => ?_) e3⟩
        obtain ⟨k1, k2, k3, k4, k5⟩ := h2
        subst k4
        refine ⟨k1, by omega, rfl, ?_, ?_, ?_, k3⟩
        · exact hJf _ _ _ _ _ _ _ k5 (Nat.le_refl _) (fun key hk => upd_ne _ _ (hk st.nx (Nat.le_refl _)))
        · exact upd_same _ _ _
        · show upd s2.ob _ _ _ = _
          rw [upd_ne _ _ n13]; exact k2)
    obtain ⟨r, hr, p1, p2, p3, p4, p5, p6⟩ := this
    exact ⟨r, hr, p1, .inl ⟨p2, p3, p4, p5, p6⟩⟩
  · rintro ob tk ub ⟨g1, g2, g3, g4⟩
    refine ⟨.ready, none, g2, by simp, by omega, ?_⟩
    have hob : Fr1 st.nx ob (fun k => if Nat.beq (2 * st.nx + 1) k then none else ob k) := fun key hk => away ob (hk st.nx (Nat.le_refl _))
    exact hQ _ _ _ (hJf _ _ _ _ _ _ _ g1 (Nat.le_refl _) hob) ((away ob n13).trans g3) g4
  · refine ⟨hJf _ _ _ _ _ _ _ h0 (Nat.le_refl _) (fun key hk => ?_), upd_same _ _ _, ?_, by omega⟩
    · have h3 := hk (st.nx + 1) (by omega)
      rw [upd_ne _ _ (hk st.nx (Nat.le_refl _)), upd_ne _ _ (by omega)]
    · rw [upd_ne _ _ n13, upd_same]
@[simp] theorem cells_map (l u : Nat) : (V.map l u).cells = [.map l u] := rfl
@[simp] theorem leaf_map (l u : Nat) : (V.map l u).leaf = true := rfl
@[simp] theorem cells_nilmap : V.nilmap.cells = [.nilmap] := rfl
@[simp] theorem leaf_nilmap : V.nilmap.leaf = true := rfl
def headsB (h : Hist') : Bool := tabB h.ss && (tabB h.ks && (decide (h.ss.length ≤ 20) && (decide (h.ks.length ≤ 40) && decide (h.ts.length ≤ 40))))
structure Small (h : Hist') : Prop where
  ss : h.ss.length ≤ 1000
  sl : ∀ s ∈ h.ss, s.length ≤ 1000
  ks : h.ks.length ≤ 1000
  kl : ∀ s ∈ h.ks, s.length ≤ 1000
  ts : h.ts.length ≤ 1000
  os : ∀ t ∈ h.ts, t.ops.length ≤ 1000
theorem ev20 {h : Hist'} (hs : Small h) : Ev E 20 [.agg (histC h)] (.bool (headsB h)) := by
  refine Ev_wpK (af := F20) rfl ?_
  have e1 := ev32 h.sn h.ss (by have := hs.ss; omega) (fun s h => by have := hs.sl s h; omega)
  have e2 := ev32 h.kn h.ks (by have := hs.ks; omega) (fun s h => by have := hs.kl s h; omega)
  simp [F20, histC, objCells]
  refine kS_ev e1 (by simp) rfl rfl ?_
  unfold headsB
  cases b1 : tabB h.ss
  · simp
    exact endV_1 rfl (by simp) rfl
  simp [objCells]
  refine kS_ev e2 (by simp) rfl rfl ?_
  cases b2 : tabB h.ks
  · simp
    exact endV_1 rfl (by simp) rfl
  by_cases b3 : (h.ss.length : Int) ≤ 20
  · by_cases b4 : (h.ks.length : Int) ≤ 40
    · simp [objCells, b3, b4]
      exact endV_1 rfl (by simp [show h.ss.length ≤ 20 by omega, show h.ks.length ≤ 40 by omega]; omega) rfl
    · simp [objCells, b3, b4]
      exact endV_1 rfl (by simp; omega) rfl
  · simp [objCells, b3]
    exact endV_1 rfl (by simp; omega) rfl
def usesS (h : Hist') : List Int := h.ts.map (·.s)
def usesK (h : Hist') : List Int := (opsOf h).map (·.key)
def usedB (h : Hist') : Bool := decide ((dd (usesS h)).length = h.ss.length) && decide ((dd (usesK h)).length = h.ks.length)
def opsTo (h : Hist') (i k : Nat) : List Op' := (h.ts.take i).flatMap (·.ops) ++ (h.ts.getD i ⟨0, 0, true, []⟩).ops.take k
theorem opsTo_step {h : Hist'} {i k : Nat} (hi : i < h.ts.length) (hk : k < (h.ts[i]).ops.length) : opsTo h i (k + 1) = opsTo h i k ++ [(h.ts[i]).ops[k]] := by
  unfold opsTo
  rw [getD_lt hi, List.take_succ_eq_append_getElem hk, List.append_assoc]
theorem opsTo_next {h : Hist'} {i : Nat} (hi : i < h.ts.length) : opsTo h i (h.ts[i]).ops.length = opsTo h (i + 1) 0 := by
  unfold opsTo
  rw [getD_lt hi, List.take_length, List.take_zero, List.append_nil, List.take_succ_eq_append_getElem hi, List.flatMap_append]
  simp
theorem opsTo_end (h : Hist') : opsTo h h.ts.length 0 = opsOf h := by simp [opsTo, opsOf]
theorem opsTo_zero (h : Hist') : opsTo h 0 0 = [] := by simp [opsTo]
theorem endV_df {res : List ARes} {st : St} {l u : Nat} {v : V} (hd : st.df = [(l, u)]) (ho : st.ob l = some ⟨u, .dfr⟩) (hr : st.ro ≤ u)
    (h : endV res (.ret, { st with ob := fun k => if Nat.beq l k then none else st.ob k, df := [] }) = some v) : endV res (.ret, st) = some v := by
  have h1 : dfOk st = true := by
    unfold dfOk
    rw [hd]
    simp only [List.all_cons, List.all_nil, ho, Bool.and_true, List.map_cons, List.map_nil, nodup, List.any_nil, Bool.not_false, Bool.and_eq_true, Nat.beq_refl, true_and]
    exact Nat.ble_eq ▸ hr
  have h2 : st.noDf = { st with ob := fun k => if Nat.beq l k then none else st.ob k, df := [] } := by
    unfold St.noDf
    rw [hd]
    simp
  simp only [endV, h1, h2, if_true]
  simp only [endV] at h
  rw [dfOk_of rfl, noDf_of rfl] at h
  exact h
theorem ev26 {h : Hist'} (hs : Small h) : Ev E 26 [.agg (histC h)] (.bool (usedB h)) := by
  refine Ev_wpK (af := F26) rfl ?_
  have hts := hs.ts
  simp [F26, histC, objCells, splice]
  refine wp_loopUp [(6, 6), (15, 23), (14, 14)] h.ts.length (fun i s => s.tm 14 = .int .i64 i ∧ s.ob 2 = some ⟨0, .cells (histC h)⟩ ∧ s.ob 8 = some ⟨256, .cells [.map 20 192]⟩ ∧ s.ob 20 = some ⟨192, .mp 0 []⟩ ∧
    ∃ ver m, s.ob 18 = some ⟨128, .mp ver (MP intV m)⟩ ∧ m.map (·.1) = dd ((h.ts.take i).map (·.s))) rfl rfl ⟨by simp, by simp [histC], by simp, by simp, 0, [], by simp [MP], by simp [dd]⟩ ?_
  rintro i s hi ⟨h14, o2, o8, o20, ver, m, o18, hm⟩ f
  have f12 : s.tm 12 = slOf h.tn txnC h.ts := by rw [f.t 12 (by simp)]; simp
  have f13 : s.tm 13 = .int .i64 h.ts.length := by rw [f.t 13 (by simp)]; simp
  have f1 : s.tm 1 = .ptr 2 0 0 := by rw [f.t 1 (by simp)]; simp
  have f3 : s.tm 3 = .map 18 128 := by rw [f.t 3 (by simp)]; simp
  have f4 : s.tm 4 = .ptr 8 256 0 := by rw [f.t 4 (by simp)]; simp
  have fd : s.df = [] := by rw [f.d]; simp
  have fb : s.fb = 0 := by rw [f.b]; simp
  have fr : s.ro = 0 := by rw [f.r]; simp
  clear f
  by_cases hlt : i < h.ts.length
  · have hw := wrapU hlt (by omega)
    simp [h14, f12, f13, hlt, idx_slOf txnC_len, load_slOf txnC_len, txnC, objCells, fb, fr, splice, f3, lookupV_MI m, objMap, o18]
    refine kS_mapSet (f := intV) (a := IntKind.i64.wrap (mcnt m h.ts[i].s + 1)) (ver := ver) (l := 18) (u := 128) (k := h.ts[i].s) m (by simp) (by simp) (by simp [intV]) (by simp [o18]) (by simp [fr]) ?_
    simp [h14, hw, o2, o8, o20, histC]
    refine ⟨hlt, ver + 1, mset m h.ts[i].s (IntKind.i64.wrap (mcnt m h.ts[i].s + 1)), by simp, ?_⟩
    rw [mset_keys, hm, ← List.map_take, List.take_succ_eq_append_getElem hlt, List.map_append]
    exact (dd_snoc _ _).symm
  · have : i = h.ts.length := by omega
    subst this
    rw [List.take_length] at hm
    simp [h14, f13]
    simp [f1, o2, objCells, histC]
    refine kS_callS (vs := [.agg (histC h)]) (by simp [histC]) rfl ?_
    obtain ⟨r, hr, e1, e2, e3, e4⟩ := ev24 (Yf := noYF) h s.ob s.tk 0 (26 * 1024) (s.nx + 64 + 64)
    refine ⟨r, by simpa [fr, fb] using hr, ?_⟩
    simp
    refine wpC_gen fun st hst => ?_
    have n2 : ¬ (2 : Nat) = 2 * (s.nx + 64 + 64) + 1 := by omega
    have n8 : ¬ (8 : Nat) = 2 * (s.nx + 64 + 64) + 1 := by omega
    have n18 : ¬ (18 : Nat) = 2 * (s.nx + 64 + 64) + 1 := by omega
    have n20 : ¬ (20 : Nat) = 2 * (s.nx + 64 + 64) + 1 := by omega
    have g25 : st.tm 25 = .fn (.func 35) [] [.ptr (2 * (s.nx + 64 + 64) + 1) (s.nx + 64 + 64) 0] := by rw [hst]; simp [put, e1]
    have g1 : st.tm 1 = .ptr 2 0 0 := by rw [hst]; simp [put, upd_apply, f1]
    have g3 : st.tm 3 = .map 18 128 := by rw [hst]; simp [put, upd_apply, f3]
    have g4 : st.tm 4 = .ptr 8 256 0 := by rw [hst]; simp [put, upd_apply, f4]
    have gd : st.df = [] := by rw [hst]; simp [fd]
    have gb : st.fb = 0 := by rw [hst]; simp [fb]
    have gr : st.ro = 0 := by rw [hst]; simp [fr]
    have gn : st.nx = s.nx + 64 + 64 + 256 := by rw [hst]; simp [e4]
    have p2 : st.ob 2 = some ⟨0, .cells (histC h)⟩ := by rw [hst]; simp only [setN_ob]; rw [e2, if_neg n2]; exact o2
    have p8 : st.ob 8 = some ⟨256, .cells [.map 20 192]⟩ := by rw [hst]; simp only [setN_ob]; rw [e2, if_neg n8]; exact o8
    have p18 : st.ob 18 = some ⟨128, .mp ver (MP intV m)⟩ := by rw [hst]; simp only [setN_ob]; rw [e2, if_neg n18]; exact o18
    have p20 : st.ob 20 = some ⟨192, .mp 0 []⟩ := by rw [hst]; simp only [setN_ob]; rw [e2, if_neg n20]; exact o20
    have pl : st.ob (2 * (s.nx + 64 + 64) + 1) = some ⟨s.nx + 64 + 64, .cells (histC h)⟩ := by rw [hst]; simp only [setN_ob]; rw [e2, if_pos rfl]
    clear hst e1 e2 e3 e4 hr
    refine range_opsN h hts (fun t ht => by have := hs.os t ht; omega) rfl rfl rfl (by simpa using g25) pl (by omega) (by omega) gr
      (fun i k ob tk ub => ob 2 = some ⟨0, .cells (histC h)⟩ ∧ ob 8 = some ⟨256, .cells [.map 20 192]⟩ ∧ ob 18 = some ⟨128, .mp ver (MP intV m)⟩ ∧ ∃ ver' m', ob 20 = some ⟨192, .mp ver' (MP intV m')⟩ ∧ m'.map (·.1) = dd ((opsTo h i k).map (·.key)))
      ?_ ?_ ?_ ?_ ?_
    · rintro i k ob ob' tk ub ub' ⟨q2, q8, q18, v', m', q20, hk⟩ hub hfr
      exact ⟨(hfr 2 (fun m _ => by omega)).trans q2, (hfr 8 (fun m _ => by omega)).trans q8, (hfr 18 (fun m _ => by omega)).trans q18, v', m', (hfr 20 (fun m _ => by omega)).trans q20, hk⟩
    · rintro i hi ob tk ub ⟨q2, q8, q18, v', m', q20, hk⟩
      exact ⟨q2, q8, q18, v', m', q20, by rw [hk, opsTo_next hi]⟩
    · rintro i hi k hk ob tk ub ⟨q2, q8, q18, v', m', q20, hkeys⟩ w1 w3 hub
      have r1 : ¬ 2 * st.nx + 1 = 16 := by omega
      have r3 : ¬ 2 * st.nx + 3 = 16 := by omega
      have r31 : ¬ 2 * st.nx + 3 = 2 * st.nx + 1 := by omega
      have r120 : ¬ 2 * st.nx + 1 = 20 := by omega
      have r320 : ¬ 2 * st.nx + 3 = 20 := by omega
      have b16 : ¬ 16 = 2 * st.nx + 1 := by omega
      have b8 : ¬ 8 = 2 * st.nx + 1 := by omega
      have b20 : ¬ 20 = 2 * st.nx + 1 := by omega
      have b2 : ¬ 2 = 2 * st.nx + 1 := by omega
      have b18 : ¬ 18 = 2 * st.nx + 1 := by omega
      simp [setPs, upd_apply, opC, objCells, gb, splice, g4, r1, w1, b16, b8, q8, lookupV_MI m', objMap, b20, q20]
      obtain ⟨o, ho⟩ : ∃ o, (h.ts[i]).ops[k] = o := ⟨_, rfl⟩
      rw [ho]
      refine kS_mapSet (f := intV) (a := IntKind.i64.wrap (mcnt m' o.key + 1)) (ver := v') (l := 20) (u := 192) (k := o.key) m' (by simp) (by simp) (by simp [intV]) (by simp [upd_apply, b20, q20]) (by simp) ?_
      simp [upd_apply, r120, r320, r3, b2, b8, b18, q2, q8, q18, w3]
      refine ⟨by omega, v' + 1, mset m' o.key (IntKind.i64.wrap (mcnt m' o.key + 1)), by simp, ?_⟩
      rw [mset_keys, hkeys, opsTo_step hi hk, List.map_append, ho]
      exact (dd_snoc _ _).symm
    · exact ⟨p2, p8, p18, 0, [], p20, by rw [opsTo_zero]; rfl⟩
    · rintro ob tk ub ⟨q2, q8, q18, v', m', q20, hkeys⟩ w3 hub
      rw [opsTo_end] at hkeys
      have l1 : m.length = (dd (usesS h)).length := by rw [← List.length_map (f := (·.1)), hm]; rfl
      have l2 : m'.length = (dd (usesK h)).length := by rw [← List.length_map (f := (·.1)), hkeys]; rfl
      simp [g3, g1, objMap, q18, q2, objCells, histC, l1]
      unfold usedB
      by_cases c1 : (dd (usesS h)).length = h.ss.length
      · simp [c1, g4, g1, q8, q2, objMap, q20, objCells, histC, l2]
        refine endV_df (l := 2 * st.nx + 3) (u := st.nx + 1) (by simp [gd]) (by simp [w3]) (by simp [gr]) (endV_1 rfl ?_ rfl)
        simp
        rw [Bool.eq_iff_iff]; simp; omega
      · have c1' : (((dd (usesS h)).length : Int) == (h.ss.length : Int)) = false := by simp; omega
        simp [c1']
        refine endV_df (l := 2 * st.nx + 3) (u := st.nx + 1) (by simp [gd]) (by simp [w3]) (by simp [gr]) (endV_1 rfl ?_ rfl)
        simp [c1]
def mayH (h : Hist') : Bool := headsB h && (h.ts.all (txnB h) && ((opsOf h).all (opB h) && usedB h))
def errH (h : Hist') : Int := if mayH h then 0 else 4
theorem any_not {α : Type} (p : α → Bool) (l : List α) : (l.any fun t => !p t) = !(l.all p) := by
  induction l with
  | nil => rfl
  | cons a l ih => simp [ih]
theorem ev10 {h : Hist'} (hs : Small h) : Ev E 10 [.agg (histC h)] (.int .i64 (errH h)) := by
  refine Ev_wpK (af := F10) rfl ?_
  have hts := hs.ts
  have hos : ∀ t ∈ h.ts, t.ops.length ≤ 1000000 := fun t ht => by have := hs.os t ht; omega
  have e107 := ev20 hs
  have e112 := ev26 hs
  obtain ⟨R, hR⟩ : ∃ R, errH h = R := ⟨_, rfl⟩
  have hR' : R = if headsB h && (h.ts.all (txnB h) && ((opsOf h).all (opB h) && usedB h)) then 0 else 4 := hR.symm
  rw [hR]
  clear hR
  simp [F10, histC, objCells]
  refine kS_ev e107 (by simp [histC]) rfl (by simp [histC]) ?_
  cases b1 : headsB h
  · rw [b1] at hR'
    simp at hR'
    subst hR'
    simp [objCells, splice]
    exact kEnd_of rfl (l := [.int .i64 4]) (by simp [resOf, objCells]) rfl rfl
  rw [b1] at hR'
  simp [objCells]
  refine kS_callO (vs := [slOf h.tn txnC h.ts, .fn (.func 22) [] [.ptr 2 0 0]]) (by simp) rfl rfl (ev21 (p := fun t => !txnB h t) rfl (fun t tk base ub => ev22 (h := h) ⟨rfl, by simp [histC]⟩ t tk base ub) h.tn h.ts (by omega) _ _ _) ?_
  rw [any_not]
  cases b2 : h.ts.all (txnB h)
  · rw [b2] at hR'
    replace hR' : R = 4 := hR'
    subst hR'
    simp [objCells, splice]
    exact kEnd_of rfl (l := [.int .i64 4]) (by simp [resOf, objCells]) rfl rfl
  rw [b2] at hR'
  simp [objCells]
  refine kS_callS (vs := [.agg (histC h)]) (by simp [histC]) rfl ?_
  obtain ⟨r, hr, e1, e2, e3, e4⟩ := ev24 (Yf := noYF) h _ _ 0 _ _
  refine ⟨r, hr, ?_⟩
  simp
  refine wpC_gen fun st hst => ?_
  obtain ⟨U, hU⟩ : ∃ U, st.nx = U := ⟨_, rfl⟩
  obtain ⟨m, hm, hmU, g15, p2, p4, pl⟩ : ∃ m, m % 64 = 0 ∧ m < U ∧ st.tm 15 = .fn (.func 35) [] [.ptr (2 * m + 1) m 0] ∧ st.ob 2 = some ⟨0, .cells (histC h)⟩ ∧ st.ob 4 = some ⟨64, .cells [.int .i64 0]⟩ ∧ st.ob (2 * m + 1) = some ⟨m, .cells (histC h)⟩ := by
    refine ⟨_, ?_, ?_, by rw [hst]; simp only [setN_tm, put, upd_same]; exact e1, ?_, ?_, ?_⟩
    · decide
    · rw [← hU, hst, setN_nx, e4]; omega
    · rw [hst]; simp only [setN_ob]; rw [e2]; simp [histC]
    · rw [hst]; simp only [setN_ob]; rw [e2]; simp
    · rw [hst]; simp only [setN_ob]; rw [e2]; simp
  have g1 : st.tm 1 = .ptr 2 0 0 := by rw [hst]; simp [put, upd_apply]
  have g2 : st.tm 2 = .ptr 4 64 0 := by rw [hst]; simp [put, upd_apply]
  have gd : st.df = [] := by rw [hst]; simp
  have gb : st.fb = 0 := by rw [hst]; simp
  have gr : st.ro = 0 := by rw [hst]; simp
  have hU64 : 64 ≤ U := by rw [← hU, hst, setN_nx, e4]; omega
  clear hst e1 e2 e3 e4 hr
  refine range70 h hts hos U hU hU64 g15 ⟨m, rfl, hmU⟩ g1 g2 gr gb p2 p4 pl ?_
  intro e ob tk ub c q2 q4 q3 hub hcase
  rcases hcase with ⟨b3, rfl, rfl⟩ | ⟨b3, rfl, rfl⟩
  · rw [b3] at hR'
    simp [g1, objCells, q2, histC]
    refine kS_ev e112 (by simp [histC]) rfl (by simp [histC]) ?_
    have n3 : ¬ 2 * U + 3 = 4 := by omega
    have n4 : ¬ 4 = 2 * U + 3 := by omega
    cases b4 : usedB h
    · rw [b4] at hR'
      replace hR' : R = 4 := hR'
      subst hR'
      simp [objCells, g2, q4, gr, splice]
      refine endV_df (l := 2 * U + 3) (u := U + 1) (by simp [gd]) (by simp [q3, n3]) (by simp) (endV_plain rfl (l := [.int .i64 4]) ?_ rfl)
      simp [resOf, objCells, g2, n3]
    · rw [b4] at hR'
      replace hR' : R = 0 := hR'
      subst hR'
      simp [objCells, g2, q4, gr, splice]
      refine endV_df (l := 2 * U + 3) (u := U + 1) (by simp [gd]) (by simp [q3, n3]) (by simp) (endV_plain rfl (l := [.int .i64 0]) ?_ rfl)
      simp [resOf, objCells, g2, n3]
  · rw [b3] at hR'
    replace hR' : R = 4 := hR'
    subst hR'
    have n3 : ¬ 2 * U + 3 = 4 := by omega
    have n4 : ¬ 4 = 2 * U + 3 := by omega
    simp
    refine endV_df (l := 2 * U + 3) (u := U + 1) (by simp [gd]) (by simp [q3]) (by simp [gr]) (endV_plain rfl (l := [.int .i64 4]) ?_ rfl)
    simp [resOf, objCells, g2, n3, q4]
def marks (bs : List Bool) (ks : List Int) : List Bool := ks.foldl (fun b k => b.set k.toNat true) bs
theorem marks_len (ks : List Int) : ∀ bs : List Bool, (marks bs ks).length = bs.length := by
  induction ks with
  | nil => intro bs; rfl
  | cons k ks ih => intro bs; exact (ih _).trans List.length_set
theorem marks_snoc (bs : List Bool) (ks : List Int) (k : Int) : marks bs (ks ++ [k]) = (marks bs ks).set k.toNat true := by simp [marks]
theorem marks_app (bs : List Bool) (a b : List Int) : marks bs (a ++ b) = marks (marks bs a) b := by simp [marks]
theorem splice_set (bs : List Bool) (k : Nat) (h : k < bs.length) : splice (bs.map V.bool) k [.bool true] = (bs.set k true).map V.bool := by
  unfold splice
  rw [List.map_set, List.set_eq_take_append_cons_drop, if_pos (by simpa using h)]
  simp
def goodT (h : Hist') (t : Txn') : Bool := txnB h t && t.ops.all (opB h)
theorem idx_osl {l u n : Nat} {kk : IntKind} {x : Int} (h0 : 0 ≤ x) (h1 : x < n) : idxSlV 1 (.osl l u 0 n 1) (.int kk x) = some (.ptr l u x.toNat) := by
  simp [idxSlV, h0, h1]
theorem within_of {n : Int} {l : Nat} (h1 : ¬ n < 0) (h2 : ¬ (l : Int) ≤ n) : within n l = true := by unfold within; simp; omega
theorem within_f1 {n : Int} {l : Nat} (h1 : n < 0) : within n l = false := by unfold within; simp; omega
theorem within_f2 {n : Int} {l : Nat} (h1 : (l : Int) ≤ n) : within n l = false := by unfold within; simp; omega
theorem ev28 {Yf : YF} {h : Hist'} {t : Txn'} (ht : t.ops.length ≤ 1000000) {ob : Nat → Option Obj'} {tk : Nat → Bool} {ro base ub l u : Nat} {bs : List Bool} (hbs : bs.length = h.ks.length) (ho : ob l = some ⟨u, .cells (bs.map V.bool)⟩) (hro : ro ≤ u) (hrb : ro ≤ ub)
    (hl : ∀ m, ub ≤ m → l ≠ 2 * m + 1) :
    ∃ r, EvS E Yf.y 28 [.agg (histC h), .agg (txnC t), .osl l u 0 h.ks.length 1] ob tk ro base ub r ∧ r.1 = .bool (goodT h t) ∧ (goodT h t = true →
      r.2.1 l = some ⟨u, .cells ((marks bs (t.ops.map (·.key))).map V.bool)⟩ ∧ (∀ key, key ≠ l → (∀ m, ub ≤ m → key ≠ 2 * m + 1) → r.2.1 key = ob key) ∧ r.2.2.1 = tk ∧ ub ≤ r.2.2.2) := by
  refine EvS_wp (af := S28) rfl (by decide) ?_
  show wpC E Yf S28.body _ (kEndS S28.res _)
  have n3 : ¬ 2 * (ub + 64) = 2 * ub := by omega
  have n4 : ¬ 2 * ub = 2 * (ub + 64) := by omega
  have fin : ∀ {e : Ex} {s : St}, e = .ret → s.df = [] → s.tm 6 = .bool false → goodT h t = false → kEndS S28.res (fun r => r.1 = .bool (goodT h t) ∧ (goodT h t = true →
      r.2.1 l = some ⟨u, .cells ((marks bs (t.ops.map (·.key))).map V.bool)⟩ ∧ (∀ key, key ≠ l → (∀ m, ub ≤ m → key ≠ 2 * m + 1) → r.2.1 key = ob key) ∧ r.2.2.1 = tk ∧ ub ≤ r.2.2.2)) e s := by
    intro e s he hd h6 hg
    subst he
    refine ⟨(.bool false, s.ob, s.tk, s.nx), ?_, by rw [hg], fun h => by rw [hg] at h; cases h⟩
    simp [endS, hd, S28, resOf, h6]
  generalize hP : (fun r : V × (Nat → Option Obj') × (Nat → Bool) × Nat => r.1 = .bool (goodT h t) ∧ (goodT h t = true →
      r.2.1 l = some ⟨u, .cells ((marks bs (t.ops.map (·.key))).map V.bool)⟩ ∧ (∀ key, key ≠ l → (∀ m, ub ≤ m → key ≠ 2 * m + 1) → r.2.1 key = ob key) ∧ r.2.2.1 = tk ∧ ub ≤ r.2.2.2)) = P at fin ⊢
  have gf : ∀ {b : Bool}, txnB h t = b → b = false → goodT h t = false := fun h1 h2 => by unfold goodT; rw [h1, h2]; rfl
  simp [S28, histC, txnC, objCells]
  by_cases s1 : t.s < 0
  · simp [s1]
    exact fin rfl (by simp) (by simp) (gf (b := false) (by unfold txnB; rw [within_f1 s1]; rfl) rfl)
  by_cases s2 : (h.ss.length : Int) ≤ t.s
  · simp [s1, s2, objCells, n4]
    exact fin rfl (by simp) (by simp) (gf (b := false) (by unfold txnB; rw [within_f2 s2]; rfl) rfl)
  by_cases f1 : t.f < 1
  · simp [s1, s2, f1, objCells, n4]
    exact fin rfl (by simp) (by simp) (gf (b := false) (by unfold txnB; simp; omega) rfl)
  by_cases f2 : 3 < t.f
  · simp [s1, s2, f1, f2, objCells, n4]
    exact fin rfl (by simp) (by simp) (gf (b := false) (by unfold txnB; simp; omega) rfl)
  by_cases l1 : 20 < (t.ops.length : Int)
  · simp [s1, s2, f1, f2, l1, objCells, n4]
    exact fin rfl (by simp) (by simp) (gf (b := false) (by unfold txnB; simp; omega) rfl)
  have htx : txnB h t = true := by unfold txnB; rw [within_of s1 s2]; simp; omega
  simp [s1, s2, f1, f2, l1, objCells, n4]
  refine wp_loopUp [(6, 8), (36, 78)] t.ops.length (fun i s => s.tm 7 = .int .i64 i ∧ s.ob (2 * ub + 1) = some ⟨ub, .cells (histC h)⟩ ∧ s.ob (2 * (ub + 64) + 1) = some ⟨ub + 64, .cells (txnC t)⟩ ∧
    s.ob l = some ⟨u, .cells ((marks bs ((t.ops.take i).map (·.key))).map V.bool)⟩ ∧ (∀ key, key ≠ l → (∀ m, ub ≤ m → key ≠ 2 * m + 1) → s.ob key = ob key) ∧ s.tk = tk ∧ ub + 128 ≤ s.nx ∧ (t.ops.take i).all (opB h) = true) rfl rfl ?_ ?_
  · refine ⟨by simp, by simp [n4, histC], by simp [txnC], ?_, ?_, ?_, ?_, by simp⟩
    · have e1 := hl ub (by omega)
      have e2 := hl (ub + 64) (by omega)
      simp [e1, e2, ho, marks]
    · intro key _ hm
      have e1 := hm ub (by omega)
      have e2 := hm (ub + 64) (by omega)
      simp [e1, e2]
    · simp [app_tk0]
    · simp
  · rintro i s hi ⟨h7, oa, ob', ol, hfr, htk, hnx, hall⟩ f
    have f2 : s.tm 2 = .osl l u 0 h.ks.length 1 := by rw [f.t 2 (by simp)]; simp
    have f3 : s.tm 3 = .ptr (2 * ub + 1) ub 0 := by rw [f.t 3 (by simp)]; simp
    have f4 : s.tm 4 = .ptr (2 * (ub + 64) + 1) (ub + 64) 0 := by rw [f.t 4 (by simp)]; simp
    have fd : s.df = [] := by rw [f.d]; simp
    have fr : s.ro = ro := by rw [f.r]; simp
    clear f
    by_cases hlt : i < t.ops.length
    · have hw := wrapU hlt (by omega)
      have x1 : ¬ 2 * ub = 2 * (s.nx + 64 + 64 + 64 + 64 + 64 + 64 + 64 + 64 + 64 + 64) := by omega
      have x2 : ¬ 2 * (ub + 64) = 2 * (s.nx + 64 + 64 + 64 + 64 + 64 + 64 + 64 + 64 + 64 + 64) := by omega
      have x3 : ¬ l = 2 * (s.nx + 64 + 64 + 64 + 64 + 64 + 64 + 64 + 64 + 64 + 64) + 1 := hl _ (by omega)
      have x3' : ¬ 2 * (s.nx + 64 + 64 + 64 + 64 + 64 + 64 + 64 + 64 + 64 + 64) + 1 = l := fun e => x3 e.symm
      have x4 : ¬ 2 * ub + 1 = l := fun e => hl ub (by omega) e.symm
      have x5 : ¬ 2 * (ub + 64) + 1 = l := fun e => hl (ub + 64) (by omega) e.symm
      have x6 : ro ≤ s.nx + 64 + 64 + 64 + 64 + 64 + 64 + 64 + 64 + 64 + 64 := by omega
      obtain ⟨o, hoo⟩ : ∃ o, t.ops[i] = o := ⟨_, rfl⟩
      have hl4 := load_slOf opC_len s.ob t.ops hlt
      have bad : opB h o = false → goodT h t = false := fun hb => by
        unfold goodT
        rw [all_not hlt (by rw [hoo]; exact hb), Bool.and_false]
      simp [h7, f4, ob', objCells, txnC, hlt, idx_slOf opC_len, load_slOf opC_len, hoo, opC, splice, fr, x6]
      by_cases k1 : o.key < 0
      · simp [k1]
        exact fin rfl (by simp [fd]) (by simp) (bad (by unfold opB; rw [within_f1 k1]; rfl))
      by_cases k2 : (h.ks.length : Int) ≤ o.key
      · simp [k1, k2, f3, oa, objCells, x1, histC]
        exact fin rfl (by simp [fd]) (by simp) (bad (by unfold opB; rw [within_f2 k2]; rfl))
      have hwi := within_of k1 k2
      simp [k1, k2, f3, oa, objCells, x1, histC]
      refine kS_ev (ev39 o.v) (by simp [valC]) rfl (by simp [valC]) ?_
      cases k3 : valB o.v
      · simp
        exact fin rfl (by simp [fd]) (by simp) (bad (by unfold opB; rw [hwi, k3]; rfl))
      have hk0 : 0 ≤ o.key := by omega
      have hk1 : o.key < (h.ks.length : Int) := by omega
      have hio := idx_osl (l := l) (u := u) (n := h.ks.length) (kk := .i64) hk0 hk1
      have hsp := splice_set (marks bs ((t.ops.take i).map (·.key))) o.key.toNat (by rw [marks_len, hbs]; omega)
      have hml : (marks bs ((t.ops.take i).map (·.key))).length = h.ks.length := by rw [marks_len, hbs]
      have hnext : marks bs ((t.ops.take (i + 1)).map (·.key)) = (marks bs ((t.ops.take i).map (·.key))).set o.key.toNat true := by
        rw [List.take_succ_eq_append_getElem hlt, List.map_append, hoo]
        exact marks_snoc _ _ _
      have hlen : o.key.toNat + 1 ≤ h.ks.length := by omega
      have hall' : opB h o = true → (t.ops.take (i + 1)).all (opB h) = true := fun hb => by
        rw [List.take_succ_eq_append_getElem hlt, List.all_append, hall, hoo]
        simp [hb]
      generalize marks bs ((t.ops.take i).map (·.key)) = mk at *
      cases k4 : o.w
      · have hgo : opB h o = true := by unfold opB; rw [hwi, k3, k4]; rfl
        simp [objCells, x1, x2, x3, f2, hio, ol, hro, hml, hlen, hsp, fr, h7, hw]
        refine ⟨hlt, ?_, ?_, ?_, ?_, htk, ?_, ?_⟩
        · rw [if_neg x4, oa]; rfl
        · rw [if_neg x5, ob']; rfl
        · rw [← List.map_take, hnext, List.map_set]
        · intro key h1 h2
          rw [if_neg h1, if_neg (h2 _ (by omega)), if_neg (h2 _ (by omega))]
          exact hfr key h1 h2
        · omega
        · have := hall' hgo
          rw [List.all_eq_true] at this
          exact this
      · cases k5 : (o.v.kind == 1)
        · have k5' : (o.v.kind != 1) = true := by simpa using k5
          simp [objCells, k5']
          exact fin rfl (by simp [fd]) (by simp) (bad (by unfold opB; rw [hwi, k3, k4, k5]; rfl))
        · have k5' : (o.v.kind != 1) = false := by simpa using k5
          have hgo : opB h o = true := by unfold opB; rw [hwi, k3, k4, k5]; rfl
          simp [objCells, x1, x2, x3, f2, hio, ol, hro, hml, hlen, hsp, fr, h7, hw, k5']
          refine ⟨hlt, ?_, ?_, ?_, ?_, htk, ?_, ?_⟩
          · rw [if_neg x4, oa]; rfl
          · rw [if_neg x5, ob']; rfl
          · rw [← List.map_take, hnext, List.map_set]
          · intro key h1 h2
            rw [if_neg h1, if_neg (h2 _ (by omega)), if_neg (h2 _ (by omega))]
            exact hfr key h1 h2
          · omega
          · have := hall' hgo
            rw [List.all_eq_true] at this
            exact this
    · have : i = t.ops.length := by omega
      subst this
      rw [List.take_length] at hall ol
      have hg : goodT h t = true := by unfold goodT; rw [htx, hall]; rfl
      simp [h7, f4, ob', objCells, txnC]
      refine ⟨(.bool true, s.ob, s.tk, s.nx + 64 + 64 + 64 + 64 + 64 + 64), ?_, ?_⟩
      · simp [endS, resOf, fd]
      · rw [← hP]
        exact ⟨by rw [hg], fun _ => ⟨ol, hfr, htk, by show ub ≤ _; simp; omega⟩⟩
end Go.Pv.T
