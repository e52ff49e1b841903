/- Part of the proof. -/
import Derived.Test.YtbkdnpdfojjfnaaGreatDoorFAJ
import Derived.Lib.ValidLaws
import Derived.Laws.Bits64
set_option maxRecDepth 100000
set_option maxHeartbeats 8000000
set_option linter.all false
namespace Go.Pv.T
open Go Go.Pv
def refOne (n b0 b1 b2 b3 : Nat) : Nat × Nat :=
  if b0 < 128 then (1, b0)
  else if 194 ≤ b0 ∧ b0 ≤ 223 then (if n < 2 ∨ b1 < 128 ∨ 191 < b1 then (1, 65533) else (2, 64 * (b0 - 192) + b1 - 128))
  else if 224 ≤ b0 ∧ b0 ≤ 239 then (if n < 3 ∨ b1 < 128 ∨ 191 < b1 ∨ b2 < 128 ∨ 191 < b2 then (1, 65533) else
    if 64 * (64 * (b0 - 224) + b1 - 128) + b2 - 128 < 2048 ∨ 55296 ≤ 64 * (64 * (b0 - 224) + b1 - 128) + b2 - 128 ∧ 64 * (64 * (b0 - 224) + b1 - 128) + b2 - 128 ≤ 57343 then (1, 65533) else (3, 64 * (64 * (b0 - 224) + b1 - 128) + b2 - 128))
  else if 240 ≤ b0 ∧ b0 ≤ 244 then (if n < 4 ∨ b1 < 128 ∨ 191 < b1 ∨ b2 < 128 ∨ 191 < b2 ∨ b3 < 128 ∨ 191 < b3 then (1, 65533) else
    if 64 * (64 * (64 * (b0 - 240) + b1 - 128) + b2 - 128) + b3 - 128 < 65536 ∨ 1114111 < 64 * (64 * (64 * (b0 - 240) + b1 - 128) + b2 - 128) + b3 - 128 then (1, 65533) else (4, 64 * (64 * (64 * (b0 - 240) + b1 - 128) + b2 - 128) + b3 - 128))
  else (1, 65533)
theorem refOne_eq (n b0 b1 b2 b3 : Nat) (_ : 1 ≤ n) (h0 : b0 < 256) (h1 : b1 < 256) (h2 : b2 < 256) (h3 : b3 < 256) : refOne n b0 b1 b2 b3 = ((Lib.decodeN n b0 b1 b2 b3).2, (Lib.decodeN n b0 b1 b2 b3).1) := by
  unfold refOne Lib.decodeN
  repeat' split
  all_goals first | (exfalso; omega) | (apply Prod.ext <;> simp only <;> omega)
theorem dlt_t {a b : Int} (h : a < b) : decide (a < b) = true := decide_eq_true h
theorem dlt_f {a b : Int} (h : b ≤ a) : decide (a < b) = false := decide_eq_false (by omega)
theorem dle_t {a b : Int} (h : a ≤ b) : decide (a ≤ b) = true := decide_eq_true h
theorem dle_f {a b : Int} (h : b < a) : decide (a ≤ b) = false := decide_eq_false (by omega)
theorem idxStr_at {s : List UInt8} {i : Nat} {x : Int} (kk : IntKind) (h : i < s.length) (hx : x = (i : Int)) : idxStrV (.str s) (.int kk x) = some (.int .u8 ((s.getD i 0).toNat : Nat)) := by
  subst hx
  simp [idxStrV, List.getElem?_eq_getElem h, List.getD]
theorem ev87 (s : List UInt8) (hs : s.length ≤ 1000000) (p : Nat) (h : p < s.length) : Ev E 87 [.str s, .int .i64 p]
    (.tup [.int .i64 ((refOne (s.length - p) (s.getD p 0).toNat (s.getD (p + 1) 0).toNat (s.getD (p + 2) 0).toNat (s.getD (p + 3) 0).toNat).1 : Nat),
      .int .i64 ((refOne (s.length - p) (s.getD p 0).toNat (s.getD (p + 1) 0).toNat (s.getD (p + 2) 0).toNat (s.getD (p + 3) 0).toNat).2 : Nat)]) := by
  have g0 := idxStr_at (s := s) (x := (p : Int)) .i64 h rfl
  have g1 : p + 1 < s.length → _ := fun h => idxStr_at (s := s) (x := (p : Int) + 1) .i64 h (by simp)
  have g2 : p + 2 < s.length → _ := fun h => idxStr_at (s := s) (x := (p : Int) + 2) .i64 h (by simp)
  have g3 : p + 3 < s.length → _ := fun h => idxStr_at (s := s) (x := (p : Int) + 3) .i64 h (by simp)
  have l0 := (s.getD p 0).toNat_lt
  have l1 := (s.getD (p + 1) 0).toNat_lt
  have l2 := (s.getD (p + 2) 0).toNat_lt
  have l3 := (s.getD (p + 3) 0).toNat_lt
  generalize (s.getD p 0).toNat = c0 at *
  generalize (s.getD (p + 1) 0).toNat = c1 at *
  generalize (s.getD (p + 2) 0).toNat = c2 at *
  generalize (s.getD (p + 3) 0).toNat = c3 at *
  have w0 : IntKind.i64.wrap (c0 : Int) = c0 := wrap64' (by omega) (by omega)
  have w1 : IntKind.i64.wrap (c1 : Int) = c1 := wrap64' (by omega) (by omega)
  have w2 : IntKind.i64.wrap (c2 : Int) = c2 := wrap64' (by omega) (by omega)
  have w3 : IntKind.i64.wrap (c3 : Int) = c3 := wrap64' (by omega) (by omega)
  refine Ev_wpK (af := F87) rfl ?_
  simp [F87, g0, convV, w0]
  by_cases a1 : (c0 : Int) < 128
  · simp [a1]
    exact endV_2 rfl (by simp [refOne, show c0 < 128 by omega]) (by simp [refOne, show c0 < 128 by omega]) rfl rfl
  have v0 : ∀ x : Int, -1000000000 ≤ x → x ≤ 1000000000 → IntKind.i64.wrap x = x := fun x h h' => wrap64' (by omega) (by omega)
  by_cases k2 : 194 ≤ (c0 : Int) ∧ (c0 : Int) ≤ 223
  · obtain ⟨k2a, k2b⟩ := k2
    by_cases hl : (s.length : Int) < (p : Int) + 2
    · simp (disch := omega) [a1, k2a, k2b, hl, v0, dle_f, List.getElem?_cons_zero]
      exact endV_2 rfl (by simp; unfold refOne; repeat' split
                           all_goals omega) (by simp; unfold refOne; repeat' split
                                                all_goals omega) rfl rfl
    have g1 := g1 (by omega)
    simp (disch := omega) [a1, k2a, k2b, hl, v0, dle_f, List.getElem?_cons_zero]
    refine wp_unroll 2 ?_
    by_cases d1 : (c1 : Int) < 128
    · simp (disch := omega) [g1, d1, v0, convV, List.getElem?_cons_zero]
      exact endV_2 rfl (by simp; unfold refOne; repeat' split
                           all_goals omega) (by simp; unfold refOne; repeat' split
                                                all_goals omega) rfl rfl
    by_cases d1' : 191 < (c1 : Int)
    · simp (disch := omega) [g1, d1, d1', v0, convV, List.getElem?_cons_zero]
      exact endV_2 rfl (by simp; unfold refOne; repeat' split
                           all_goals omega) (by simp; unfold refOne; repeat' split
                                                all_goals omega) rfl rfl
    simp (disch := omega) [g1, d1, d1', v0, convV, List.getElem?_cons_zero, dlt_f, dle_f]
    exact endV_2 rfl (by simp; unfold refOne; repeat' split
                         all_goals omega) (by simp; unfold refOne; repeat' split
                                              all_goals omega) rfl rfl
  by_cases k3 : 224 ≤ (c0 : Int) ∧ (c0 : Int) ≤ 239
  · obtain ⟨k3a, k3b⟩ := k3
    by_cases hl : (s.length : Int) < (p : Int) + 3
    · simp (disch := omega) [a1, k3a, k3b, hl, v0, dle_t, dle_f, List.getElem?_cons_zero]
      exact endV_2 rfl (by simp; unfold refOne; repeat' split
                           all_goals omega) (by simp; unfold refOne; repeat' split
                                                all_goals omega) rfl rfl
    have g1 := g1 (by omega)
    have g2 := g2 (by omega)
    simp (disch := omega) [a1, k3a, k3b, hl, v0, dle_t, dle_f, List.getElem?_cons_zero]
    refine wp_unroll 3 ?_
    by_cases d1 : (c1 : Int) < 128
    · simp (disch := omega) [g1, d1, v0, convV, List.getElem?_cons_zero]
      exact endV_2 rfl (by simp; unfold refOne; repeat' split
                           all_goals omega) (by simp; unfold refOne; repeat' split
                                                all_goals omega) rfl rfl
    by_cases e1 : 191 < (c1 : Int)
    · simp (disch := omega) [g1, d1, e1, v0, convV, List.getElem?_cons_zero]
      exact endV_2 rfl (by simp; unfold refOne; repeat' split
                           all_goals omega) (by simp; unfold refOne; repeat' split
                                                all_goals omega) rfl rfl
    by_cases d2 : (c2 : Int) < 128
    · simp (disch := omega) [g1, g2, d1, e1, d2, v0, convV, List.getElem?_cons_zero]
      exact endV_2 rfl (by simp; unfold refOne; repeat' split
                           all_goals omega) (by simp; unfold refOne; repeat' split
                                                all_goals omega) rfl rfl
    by_cases e2 : 191 < (c2 : Int)
    · simp (disch := omega) [g1, g2, d1, e1, d2, e2, v0, convV, List.getElem?_cons_zero]
      exact endV_2 rfl (by simp; unfold refOne; repeat' split
                           all_goals omega) (by simp; unfold refOne; repeat' split
                                                all_goals omega) rfl rfl
    by_cases f1 : 64 * (64 * ((c0 : Int) - 224) + c1 - 128) + c2 - 128 < 2048
    · simp (disch := omega) [g1, g2, d1, e1, d2, e2, f1, v0, convV, List.getElem?_cons_zero]
      exact endV_2 rfl (by simp; unfold refOne; repeat' split
                           all_goals omega) (by simp; unfold refOne; repeat' split
                                                all_goals omega) rfl rfl
    by_cases f2 : 55296 ≤ 64 * (64 * ((c0 : Int) - 224) + c1 - 128) + c2 - 128
    · by_cases f3 : 64 * (64 * ((c0 : Int) - 224) + c1 - 128) + c2 - 128 ≤ 57343
      · simp (disch := omega) [g1, g2, d1, e1, d2, e2, f1, f2, f3, v0, dlt_f, convV, List.getElem?_cons_zero]
        exact endV_2 rfl (by simp; unfold refOne; repeat' split
                             all_goals omega) (by simp; unfold refOne; repeat' split
                                                  all_goals omega) rfl rfl
      simp (disch := omega) [g1, g2, d1, e1, d2, e2, f1, f2, f3, v0, dlt_f, convV, List.getElem?_cons_zero]
      exact endV_2 rfl (by simp; unfold refOne; repeat' split
                           all_goals omega) (by simp; unfold refOne; repeat' split
                                                all_goals omega) rfl rfl
    simp (disch := omega) [g1, g2, d1, e1, d2, e2, f1, f2, v0, dlt_f, convV, List.getElem?_cons_zero]
    exact endV_2 rfl (by simp; unfold refOne; repeat' split
                         all_goals omega) (by simp; unfold refOne; repeat' split
                                              all_goals omega) rfl rfl
  by_cases k4 : 240 ≤ (c0 : Int) ∧ (c0 : Int) ≤ 244
  · obtain ⟨k4a, k4b⟩ := k4
    by_cases hl : (s.length : Int) < (p : Int) + 4
    · simp (disch := omega) [a1, k4a, k4b, hl, v0, dle_t, dle_f, List.getElem?_cons_zero]
      exact endV_2 rfl (by simp; unfold refOne; repeat' split
                           all_goals omega) (by simp; unfold refOne; repeat' split
                                                all_goals omega) rfl rfl
    have g1 := g1 (by omega)
    have g2 := g2 (by omega)
    have g3 := g3 (by omega)
    simp (disch := omega) [a1, k4a, k4b, hl, v0, dle_t, dle_f, List.getElem?_cons_zero]
    refine wp_unroll 4 ?_
    by_cases d1 : (c1 : Int) < 128
    · simp (disch := omega) [g1, d1, v0, convV, List.getElem?_cons_zero]
      exact endV_2 rfl (by simp; unfold refOne; repeat' split
                           all_goals omega) (by simp; unfold refOne; repeat' split
                                                all_goals omega) rfl rfl
    by_cases e1 : 191 < (c1 : Int)
    · simp (disch := omega) [g1, d1, e1, v0, convV, List.getElem?_cons_zero]
      exact endV_2 rfl (by simp; unfold refOne; repeat' split
                           all_goals omega) (by simp; unfold refOne; repeat' split
                                                all_goals omega) rfl rfl
    by_cases d2 : (c2 : Int) < 128
    · simp (disch := omega) [g1, g2, d1, e1, d2, v0, convV, List.getElem?_cons_zero]
      exact endV_2 rfl (by simp; unfold refOne; repeat' split
                           all_goals omega) (by simp; unfold refOne; repeat' split
                                                all_goals omega) rfl rfl
    by_cases e2 : 191 < (c2 : Int)
    · simp (disch := omega) [g1, g2, d1, e1, d2, e2, v0, convV, List.getElem?_cons_zero]
      exact endV_2 rfl (by simp; unfold refOne; repeat' split
                           all_goals omega) (by simp; unfold refOne; repeat' split
                                                all_goals omega) rfl rfl
    by_cases d3 : (c3 : Int) < 128
    · simp (disch := omega) [g1, g2, g3, d1, e1, d2, e2, d3, v0, convV, List.getElem?_cons_zero]
      exact endV_2 rfl (by simp; unfold refOne; repeat' split
                           all_goals omega) (by simp; unfold refOne; repeat' split
                                                all_goals omega) rfl rfl
    by_cases e3 : 191 < (c3 : Int)
    · simp (disch := omega) [g1, g2, g3, d1, e1, d2, e2, d3, e3, v0, convV, List.getElem?_cons_zero]
      exact endV_2 rfl (by simp; unfold refOne; repeat' split
                           all_goals omega) (by simp; unfold refOne; repeat' split
                                                all_goals omega) rfl rfl
    by_cases f1 : 64 * (64 * (64 * ((c0 : Int) - 240) + c1 - 128) + c2 - 128) + c3 - 128 < 65536
    · simp (disch := omega) [g1, g2, g3, d1, e1, d2, e2, d3, e3, f1, v0, convV, List.getElem?_cons_zero]
      exact endV_2 rfl (by simp; unfold refOne; repeat' split
                           all_goals omega) (by simp; unfold refOne; repeat' split
                                                all_goals omega) rfl rfl
    by_cases f2 : 1114111 < 64 * (64 * (64 * ((c0 : Int) - 240) + c1 - 128) + c2 - 128) + c3 - 128
    · simp (disch := omega) [g1, g2, g3, d1, e1, d2, e2, d3, e3, f1, f2, v0, convV, List.getElem?_cons_zero]
      exact endV_2 rfl (by simp; unfold refOne; repeat' split
                           all_goals omega) (by simp; unfold refOne; repeat' split
                                                all_goals omega) rfl rfl
    simp (disch := omega) [g1, g2, g3, d1, e1, d2, e2, d3, e3, f1, f2, v0, dle_t, dle_f, convV, List.getElem?_cons_zero]
    exact endV_2 rfl (by simp; unfold refOne; repeat' split
                         all_goals omega) (by simp; unfold refOne; repeat' split
                                              all_goals omega) rfl rfl
  have q : c0 < 194 ∨ 244 < c0 := by omega
  rcases q with q | q
  · simp (disch := omega) [a1, dle_f]
    exact endV_2 rfl (by simp; unfold refOne; repeat' split
                         all_goals omega) (by simp; unfold refOne; repeat' split
                                              all_goals omega) rfl rfl
  · simp (disch := omega) [a1, dle_t, dle_f]
    exact endV_2 rfl (by simp; unfold refOne; repeat' split
                         all_goals omega) (by simp; unfold refOne; repeat' split
                                              all_goals omega) rfl rfl
@[simp] theorem str_strip (s : List UInt8) : (V.str s).strip = .str s := rfl
@[simp] theorem str_pureTop (s : List UInt8) : (V.str s).pureTop = true := rfl
@[simp] theorem str_pureLeaf (s : List UInt8) : (V.str s).pureLeaf = true := rfl
@[simp] theorem sl_strip (t : Option (Nat × Nat)) (nl : Bool) (n : Nat) (cs : List V) : (V.sl t nl n cs).strip = .sl none nl n cs := rfl
@[simp] theorem sl_strip1 (t : Option (Nat × Nat)) (nl : Bool) (n : Nat) (cs : List V) : (V.sl t nl n cs).strip1 = .sl none nl n cs := rfl
@[simp] theorem sl_pureTop (nl : Bool) (n : Nat) (cs : List V) : (V.sl none nl n cs).pureTop = true := rfl
@[simp] theorem sl_pureLeaf (nl : Bool) (n : Nat) (cs : List V) : (V.sl none nl n cs).pureLeaf = true := rfl
def rU (s : List UInt8) (p : Nat) : Nat := (Utf8.decode ⟨s.toArray⟩ p).1
def rW (s : List UInt8) (p : Nat) : Nat := (Utf8.decode ⟨s.toArray⟩ p).2
theorem one_eq {s : List UInt8} {p : Nat} (h : p < s.length) : refOne (s.length - p) (s.getD p 0).toNat (s.getD (p + 1) 0).toNat (s.getD (p + 2) 0).toNat (s.getD (p + 3) 0).toNat = (rW s p, rU s p) := by
  rw [refOne_eq _ _ _ _ _ (by omega) (s.getD p 0).toNat_lt (s.getD (p + 1) 0).toNat_lt (s.getD (p + 2) 0).toNat_lt (s.getD (p + 3) 0).toNat_lt]
  unfold rW rU
  rw [Lib.decode_N]
theorem one_w (n b0 b1 b2 b3 : Nat) (hn : 1 ≤ n) : 1 ≤ (refOne n b0 b1 b2 b3).1 ∧ (refOne n b0 b1 b2 b3).1 ≤ n := by
  unfold refOne
  repeat' split
  all_goals (simp only; omega)
theorem one_bad (n b0 b1 b2 b3 : Nat) (h1 : b1 < 256) (_ : b2 < 256) (h : (refOne n b0 b1 b2 b3).2 = 65533) : (refOne n b0 b1 b2 b3).1 = 1 ∨ (refOne n b0 b1 b2 b3).1 = 3 := by
  revert h
  unfold refOne
  repeat' split
  all_goals (intro h; simp at h ⊢; try omega)
theorem rW_pos {s : List UInt8} {p : Nat} (h : p < s.length) : 1 ≤ rW s p ∧ p + rW s p ≤ s.length := by
  have := one_w (s.length - p) (s.getD p 0).toNat (s.getD (p + 1) 0).toNat (s.getD (p + 2) 0).toNat (s.getD (p + 3) 0).toNat (by omega)
  rw [one_eq h] at this
  simp only at this
  omega
theorem rU_bad {s : List UInt8} {p : Nat} (h : p < s.length) (hu : rU s p = 65533) : rW s p = 1 ∨ rW s p = 3 := by
  have := one_bad (s.length - p) (s.getD p 0).toNat (s.getD (p + 1) 0).toNat (s.getD (p + 2) 0).toNat (s.getD (p + 3) 0).toNat (s.getD (p + 1) 0).toNat_lt (s.getD (p + 2) 0).toNat_lt
  rw [one_eq h] at this
  exact this hu
def RN (s : List UInt8) (p : Nat) : List Int := (runesL s (s.length - p) p).map fun r => ((r : Nat) : Int)
theorem runesI_eq (s : List UInt8) : runesI s = RN s 0 := rfl
theorem runesL_fuel (s : List UInt8) : ∀ (b b' p : Nat), s.length ≤ p + b → s.length ≤ p + b' → runesL s b p = runesL s b' p
  | 0, 0, _, _, _ => rfl
  | 0, b' + 1, p, h, _ => by
    unfold runesL
    rw [if_neg (by omega)]
  | b + 1, 0, p, _, h => by
    unfold runesL
    rw [if_neg (by omega)]
  | b + 1, b' + 1, p, h, h' => by
    unfold runesL
    by_cases hp : p < s.length
    · rw [if_pos hp, if_pos hp]
      have := (rW_pos hp).1
      unfold rW at this
      rw [runesL_fuel s b b' _ (by omega) (by omega)]
    · rw [if_neg hp, if_neg hp]
theorem RN_step {s : List UInt8} {p : Nat} (h : p < s.length) : RN s p = (rU s p : Int) :: RN s (p + rW s p) := by
  have hw := rW_pos h
  unfold RN
  obtain ⟨n, hn⟩ : ∃ n, s.length - p = n + 1 := ⟨s.length - p - 1, by omega⟩
  rw [hn]
  conv => lhs; unfold runesL
  rw [if_pos h, List.map_cons]
  congr 2
  exact runesL_fuel s _ _ _ (by unfold rW at hw; omega) (by unfold rW at hw ⊢; omega)
theorem RN_end {s : List UInt8} {p : Nat} (h : s.length ≤ p) : RN s p = [] := by
  unfold RN
  rw [show s.length - p = 0 by omega]
  rfl
theorem runesL_len (s : List UInt8) : ∀ (b p : Nat), (runesL s b p).length ≤ b
  | 0, _ => Nat.le_refl _
  | b + 1, p => by
    unfold runesL
    split
    · have := runesL_len s b (p + (Utf8.decode ⟨s.toArray⟩ p).2)
      simp only [List.length_cons]
      omega
    · simp
theorem runesI_len (s : List UInt8) : (runesI s).length ≤ s.length := by
  rw [runesI_eq, RN, List.length_map]
  exact runesL_len s _ _
def VD (s : List UInt8) (p : Nat) : Bool := Lib.validD (s.drop p)
theorem dec_drop (s : List UInt8) (p : Nat) : Lib.decodeL (s.drop p) = (rU s p, rW s p) := Lib.decodeL_drop ⟨s.toArray⟩ p
theorem VD_step {s : List UInt8} {p : Nat} (h : p < s.length) : VD s p = if rU s p = 65533 ∧ rW s p = 1 then false else VD s (p + rW s p) := by
  have hne : s.drop p ≠ [] := fun e => by have := congrArg List.length e; rw [List.length_drop] at this; simp at this; omega
  unfold VD
  rw [Lib.validD_step _ hne, dec_drop]
  simp only [List.drop_drop]
theorem VD_end {s : List UInt8} {p : Nat} (h : s.length ≤ p) : VD s p = true := by
  unfold VD
  rw [List.drop_of_length_le h]
  rfl
theorem ev87' (s : List UInt8) (hs : s.length ≤ 1000000) (p : Nat) (h : p < s.length) : Ev E 87 [.str s, .int .i64 p] (.tup [.int .i64 (rW s p : Nat), .int .i64 (rU s p : Nat)]) := by
  have := ev87 s hs p h
  rw [one_eq h] at this
  exact this
theorem ev54 (s : List UInt8) (hs : s.length ≤ 1000000) : Ev E 54 [.str s] (.sl (some (0, 1)) false (runesI s).length ((runesI s).flatMap intC)) := by
  refine Ev_wpK (af := F54) rfl ?_
  simp [F54]
  refine kS_buildSl (cs := []) rfl rfl rfl ?_
  simp
  refine wp_loopF (n := s.length) [(3, 24)] (fun k st => ∃ p u pre, k = s.length - p ∧ p ≤ s.length ∧ st.tm 4 = .int .i64 (p : Nat) ∧ runesI s = pre ++ RN s p ∧ st.tm 3 = .sl (some (u, 1)) false pre.length (pre.flatMap intC) ∧ st.tk u = true) rfl rfl
    ⟨0, 64, [], by simp [runesI_eq]⟩ ?_
  rintro k st ⟨p, u, pre, rfl, hp, h4, hpre, h3, hu⟩ f
  have f0 : st.tm 0 = .str s := by rw [f.t 0 (by simp)]; simp
  have hpl : pre.length ≤ 1000000 := by
    have h1 := congrArg List.length hpre
    have h2 := runesI_len s
    rw [List.length_append] at h1
    omega
  by_cases hlt : p < s.length
  · have hw := rW_pos hlt
    simp [h4, f0, hlt]
    refine kS_ev (ev87' s hs p hlt) (by simp) rfl rfl ?_
    simp [h3]
    refine kS_buildSl (cs := [.int .i64 (rU s p)]) (by simp [splice]) rfl rfl ?_
    simp
    refine kS_append_tok (u := u) (nl := false) (n := pre.length) (cs := pre.flatMap intC) (ys := [.int .i64 (rU s p)]) (by simp) (by simp [app_tk, hu]) (by simp [slCells]) (by simp) (by rw [flatMap_len intC_len]) (by decide) rfl (by simp; omega) (by simp; omega) ?_
    simp [h4]
    refine ⟨s.length - (p + rW s p), by omega, p + rW s p, by omega, by omega, by rw [wrap64' (by omega) (by omega)]; simp, _, pre ++ [(rU s p : Int)], ?_, ?_, Or.inl rfl⟩
    · rw [hpre, RN_step hlt]; simp
    · simp [intC]
  · have : p = s.length := by omega
    subst this
    simp [h4, f0]
    rw [RN_end (Nat.le_refl _), List.append_nil] at hpre
    exact endV_tokG (u := u) (by simp [f.d]) (by simp [h3, hpre]) (by simpa using hu)
theorem ev56 (s : List UInt8) (hs : s.length ≤ 1000000) : Ev E 56 [.str s] (.bool (Lib.validD s)) := by
  refine Ev_wpK (af := F56) rfl ?_
  simp [F56]
  refine wp_loopF (n := s.length) [(2, 24)] (fun k st => ∃ p, k = s.length - p ∧ p ≤ s.length ∧ st.tm 3 = .int .i64 (p : Nat) ∧ Lib.validD s = VD s p) rfl rfl
    ⟨0, by simp [VD]⟩ ?_
  rintro k st ⟨p, rfl, hp, h3, hv⟩ f
  have f0 : st.tm 0 = .str s := by rw [f.t 0 (by simp)]; simp
  by_cases hlt : p < s.length
  · have hw := rW_pos hlt
    rw [VD_step hlt] at hv
    simp [h3, f0, hlt]
    refine kS_ev (ev87' s hs p hlt) (by simp) rfl rfl ?_
    by_cases hb : rU s p = 65533
    · rcases rU_bad hlt hb with h1 | h1
      · rw [if_pos ⟨hb, h1⟩] at hv
        simp [hb, h1]
        exact endV_1 (by simp [f.d]) (by simp [hv]) rfl
      · rw [if_neg (by omega)] at hv
        simp [hb, h1, h3]
        exact ⟨s.length - (p + 3), by omega, p + 3, rfl, by omega, by rw [wrap64' (by omega) (by omega)]; simp, by rw [hv, h1]⟩
    · rw [if_neg (by omega)] at hv
      have hb' : ((rU s p : Int) == 65533) = false := by rw [beq_eq_false_iff_ne]; omega
      simp [hb', h3]
      exact ⟨s.length - (p + rW s p), by omega, p + rW s p, rfl, by omega, by rw [wrap64' (by omega) (by omega)]; simp, hv⟩
  · have : p = s.length := by omega
    subst this
    rw [VD_end (Nat.le_refl _)] at hv
    simp [h3, f0]
    exact endV_1 (by simp [f.d]) (by simp [hv]) rfl
theorem idx_sl {α : Type} {f : α → List V} {k : Nat} (hf : ∀ a, (f a).length = k) (t : Option (Nat × Nat)) (nl : Bool) (l : List α) (kk : IntKind) {i : Nat} (h : i < l.length) : idxSlV k (.sl t nl l.length (l.flatMap f)) (.int kk i) = some (.eptr (l.flatMap f) (i * k)) := by
  simp only [idxSlV_sl, flatMap_len hf]
  rw [if_pos (by simp; omega)]
  rfl
theorem idx_sl0 {α : Type} {f : α → List V} {k : Nat} (hf : ∀ a, (f a).length = k) (t : Option (Nat × Nat)) (nl : Bool) (l : List α) (kk : IntKind) (h : 0 < l.length) : idxSlV k (.sl t nl l.length (l.flatMap f)) (.int kk 0) = some (.eptr (l.flatMap f) 0) := by
  have := idx_sl hf t nl l kk h
  simpa using this
theorem int_at (l : List Int) {i : Nat} (h : i < l.length) : (l.flatMap intC)[i]? = some (.int .i64 l[i]) := by
  have := fld_at (f := intC) intC_len l h (by decide : 0 < 1)
  rw [Nat.mul_one, Nat.add_zero] at this
  rw [this]
  rfl
theorem str_at (l : List (List UInt8)) {i : Nat} (h : i < l.length) : (l.flatMap strC)[i]? = some (.str l[i]) := by
  have := fld_at (f := strC) strC_len l h (by decide : 0 < 1)
  rw [Nat.mul_one, Nat.add_zero] at this
  rw [this]
  rfl
theorem wrapU {i N : Nat} (h : i < N) (hN : N ≤ 1000000000) : IntKind.i64.wrap ((i : Int) + 1) = (i : Int) + 1 := wrap64' (by omega) (by omega)
theorem dne_t {a b : Int} (h : a < b ∨ b < a) : (a != b) = true := by simp; omega
theorem dne_f {a b : Int} (h : a = b) : (a != b) = false := by simp [h]
def headDig : List Int → Bool
  | [] => false
  | c :: _ => digitB c
def nmOk (l : List Int) : Bool := decide (1 ≤ l.length) && decide (l.length ≤ 20) && !(headDig l) && l.all partB
def nameB (s : List UInt8) : Bool := !resB s && Lib.validD s && nmOk (runesI s)
def lessB (a b : List UInt8) : Bool := decide (cmpL (runesI a) (runesI b) < 0)
def okAt (t : List (List UInt8)) (j : Nat) : Bool := nameB (t.getD j []) && (j == 0 || lessB (t.getD (j - 1) []) (t.getD j []))
def tabB (t : List (List UInt8)) : Bool := (List.range t.length).all (okAt t)
theorem headD_get {l : List Int} (h : 0 < l.length) : headDig l = digitB l[0] := by
  cases l with
  | nil => simp at h
  | cons a l => rfl
theorem all_at {α : Type} {p : α → Bool} {l : List α} (h : ∀ j (hj : j < l.length), p l[j] = true) : l.all p = true := by
  rw [List.all_eq_true]
  intro x hx
  obtain ⟨j, hj, rfl⟩ := List.getElem_of_mem hx
  exact h j hj
theorem all_not {α : Type} {p : α → Bool} {l : List α} {j : Nat} (hj : j < l.length) (h : p l[j] = false) : l.all p = false := by
  rw [List.all_eq_false]
  exact ⟨_, List.getElem_mem hj, by rw [h]; decide⟩
theorem part_cases (c : Int) : (partB c = false ∧ (c < 48 ∨ (57 < c ∧ c < 65) ∨ (90 < c ∧ c < 95) ∨ c = 96 ∨ (122 < c ∧ c < 128))) ∨ (partB c = true ∧ ((48 ≤ c ∧ c ≤ 57) ∨ (65 ≤ c ∧ c ≤ 90) ∨ c = 95 ∨ (97 ≤ c ∧ c ≤ 122) ∨ 127 < c)) := by
  simp [partB, digitB]
  omega
def L126 : C := .seq (.seq (.region [
             ⟨(some 37), .mov (.t 4), none, false⟩,
             ⟨(some 38), .mov (.t 3), none, false⟩,
             ⟨(some 39), .lenSl (.t 38), none, false⟩,
             ⟨(some 40), .bin .lss (.t 37) (.t 39), none, false⟩])
           (.cond (.t 40) (.skip)
            (.exit 0)))
          (.seq (.block 1 (.seq (.region [
               ⟨(some 43), .mov (.t 3), none, false⟩,
               ⟨(some 44), .mov (.t 4), none, false⟩,
               ⟨(some 45), .idxSl 1 (.t 43) (.t 44), none, false⟩,
               ⟨(some 46), .load none (.t 45), none, false⟩,
               ⟨(some 5), .mov (.t 46), none, false⟩])
             (.seq (.region [
                ⟨(some 47), .mov (.t 5), none, false⟩,
                ⟨(some 48), .bin .lss (.t 47) (.c (.int .i64 128)), none, false⟩,
                ⟨(some 49), .mov (.t 48), none, false⟩,
                ⟨(some 50), .mov (.t 5), (some (49, true)), false⟩,
                ⟨(some 51), .bin .neq (.t 50) (.c (.int .i64 95)), (some (49, true)), false⟩,
                ⟨(some 52), .pick (.t 49) (.t 51) (.c (.bool false)), none, false⟩,
                ⟨(some 53), .mov (.t 52), none, false⟩,
                ⟨(some 54), .mov (.t 5), (some (53, true)), false⟩,
                ⟨(some 55), .bin .lss (.t 54) (.c (.int .i64 48)), (some (53, true)), false⟩,
                ⟨(some 56), .mov (.t 55), (some (53, true)), false⟩,
                ⟨(some 57), .mov (.t 5), (some (56, false)), false⟩,
                ⟨(some 58), .bin .gtr (.t 57) (.c (.int .i64 57)), (some (56, false)), false⟩,
                ⟨(some 59), .pick (.t 56) (.c (.bool true)) (.t 58), (some (53, true)), false⟩,
                ⟨(some 60), .pick (.t 53) (.t 59) (.c (.bool false)), none, false⟩,
                ⟨(some 61), .mov (.t 60), none, false⟩,
                ⟨(some 62), .mov (.t 5), (some (61, true)), false⟩,
                ⟨(some 63), .bin .lss (.t 62) (.c (.int .i64 65)), (some (61, true)), false⟩,
                ⟨(some 64), .mov (.t 63), (some (61, true)), false⟩,
                ⟨(some 65), .mov (.t 5), (some (64, false)), false⟩,
                ⟨(some 66), .bin .gtr (.t 65) (.c (.int .i64 90)), (some (64, false)), false⟩,
                ⟨(some 67), .pick (.t 64) (.c (.bool true)) (.t 66), (some (61, true)), false⟩,
                ⟨(some 68), .pick (.t 61) (.t 67) (.c (.bool false)), none, false⟩,
                ⟨(some 69), .mov (.t 68), none, false⟩,
                ⟨(some 70), .mov (.t 5), (some (69, true)), false⟩,
                ⟨(some 71), .bin .lss (.t 70) (.c (.int .i64 97)), (some (69, true)), false⟩,
                ⟨(some 72), .mov (.t 71), (some (69, true)), false⟩,
                ⟨(some 73), .mov (.t 5), (some (72, false)), false⟩,
                ⟨(some 74), .bin .gtr (.t 73) (.c (.int .i64 122)), (some (72, false)), false⟩,
                ⟨(some 75), .pick (.t 72) (.c (.bool true)) (.t 74), (some (69, true)), false⟩,
                ⟨(some 76), .pick (.t 69) (.t 75) (.c (.bool false)), none, false⟩])
              (.cond (.t 76) (.seq (.region [
                  ⟨(some 2), .mov (.c (.bool false)), none, false⟩])
                (.ret))
               (.skip)))))
           (.region [
             ⟨(some 41), .mov (.t 4), none, false⟩,
             ⟨(some 42), .bin .add (.t 41) (.c (.int .i64 1)), none, false⟩,
             ⟨(some 4), .mov (.t 42), none, false⟩]))
theorem ev37 (s : List UInt8) (hs : s.length ≤ 1000000) : Ev E 37 [.str s] (.bool (nameB s)) := by
  refine Ev_wpK (af := F37) rfl ?_
  simp [F37]
  refine kS_ev (ev54 s hs) (by simp) rfl rfl ?_
  have hl := runesI_len s
  unfold nameB nmOk
  generalize hr : runesI s = l at *
  simp [retA, toksRes, V.toks, V.tok, inRes, inTop, inLeaf]
  by_cases a1 : (l.length : Int) < 1
  · simp [a1]
    exact endV_1 rfl (by simp; omega) rfl
  by_cases a2 : 20 < (l.length : Int)
  · simp [a1, a2]
    exact endV_1 rfl (by simp; omega) rfl
  have h0 : 0 < l.length := by omega
  have hh := headD_get h0
  simp [a1, a2]
  refine kS_ev (ev55 s) (by simp) rfl rfl ?_
  cases b1 : resB s
  case true =>
    simp
    exact endV_1 rfl (by simp) rfl
  simp
  refine kS_ev (ev56 s hs) (by simp) rfl rfl ?_
  cases b2 : Lib.validD s
  case false =>
    simp
    exact endV_1 rfl (by simp) rfl
  have goon : ∀ {st : St}, st.df = [] → st.tm 4 = .int .i64 0 → st.tm 3 = .sl (some (128, 1)) false l.length (l.flatMap intC) → headDig l = false →
      wpC E noYF (.loop L126) st (kBlk 0 (kSeq E noYF (.seq (.region [⟨(some 2), .mov (.c (.bool true)), none, false⟩]) (.ret)) (kEnd [.t 2] (.bool (!false && true && (decide (1 ≤ l.length) && decide (l.length ≤ 20) && !(headDig l) && l.all partB)))))) := by
    intro st hd h4 h3 hg
    refine wp_loopUp [(2, 2), (4, 5), (37, 76)] l.length (fun i s => s.tm 4 = .int .i64 i ∧ ∀ j (hj : j < l.length), j < i → partB l[j] = true) rfl rfl ⟨by simp [h4], fun j _ h => by omega⟩ ?_
    rintro i s hi ⟨h4, hb⟩ f
    have f3 : s.tm 3 = .sl (some (128, 1)) false l.length (l.flatMap intC) := by rw [f.t 3 (by simp)]; simp [h3]
    by_cases hlt : i < l.length
    · have hw := wrapU hlt (by omega)
      obtain ⟨c, hc⟩ : ∃ c, l[i] = c := ⟨_, rfl⟩
      have hi0 := int_at l hlt
      rw [hc] at hi0
      rcases part_cases c with ⟨hp, q⟩ | ⟨hp, q⟩
      · rcases q with q | q | q | q | q
        all_goals
          simp (disch := omega) [L126, h4, f3, hlt, idx_sl intC_len, hi0, dlt_t, dlt_f, dne_t]
          exact endV_1 (by simp [f.d, hd]) (by simp [all_not hlt (hc ▸ hp)]) rfl
      · rcases q with q | q | q | q | q
        all_goals
          simp (disch := omega) [L126, h4, f3, hlt, idx_sl intC_len, hi0, dlt_t, dlt_f, dne_t, dne_f, hw]
          intro j hj hji
          rcases Nat.lt_succ_iff_lt_or_eq.1 hji with h | rfl
          · exact hb j hj h
          · exact hc ▸ hp
    · have : i = l.length := by omega
      subst this
      simp [L126, h4, f3]
      exact endV_1 (by simp [f.d, hd]) (by simp [hg, all_at (fun j hj => hb j hj hj)]; omega) rfl
  obtain ⟨c, hc⟩ : ∃ c, l[0] = c := ⟨_, rfl⟩
  have hi0 := int_at l h0
  rw [hc] at hh hi0
  by_cases d1 : 48 ≤ c
  · by_cases d2 : c ≤ 57
    · simp [idx_sl0 intC_len _ _ l _ h0, hi0, d1, d2]
      exact endV_1 rfl (by simp [hh, digitB, d1, d2]) rfl
    simp [idx_sl0 intC_len _ _ l _ h0, hi0, d1, d2]
    exact goon rfl (by simp) (by simp) (by simp [hh, digitB, d2])
  simp [idx_sl0 intC_len _ _ l _ h0, hi0, d1]
  exact goon rfl (by simp) (by simp) (by simp [hh, digitB, d1])
theorem cmpI_lt (a b : Int) : (cmpI a b < 0) = (a < b) := by
  unfold cmpI
  split
  · simp [*]
  · split <;> simp [*]
theorem cmpI_z {a b : Int} : cmpI a b = 0 ↔ a = b := by
  unfold cmpI
  split
  · simp; omega
  · split
    · simp; omega
    · simp; omega
theorem ev38 (a b : List UInt8) (ha : a.length ≤ 1000000) (hb : b.length ≤ 1000000) : Ev E 38 [.str a, .str b] (.bool (lessB a b)) := by
  refine Ev_wpK (af := F38) rfl ?_
  simp [F38]
  refine kS_ev (ev54 a ha) (by simp) rfl rfl ?_
  have hxl := runesI_len a
  have hyl := runesI_len b
  unfold lessB
  simp [retA, toksRes, V.toks, V.tok, inRes, inTop, inLeaf]
  refine kS_ev (ev54 b hb) (by simp) rfl rfl ?_
  generalize runesI a = x at *
  generalize runesI b = y at *
  simp [retA, toksRes, V.toks, V.tok, inRes, inTop, inLeaf]
  refine wp_loopUp [(4, 4), (7, 7), (12, 41)] x.length (fun i s => s.tm 7 = .int .i64 i ∧ i ≤ y.length ∧ cmpL (x.drop i) (y.drop i) = cmpL x y) rfl rfl ⟨by simp, by simp, by simp⟩ ?_
  rintro i s hi ⟨h7, hiy, hc⟩ f
  have f5 : s.tm 5 = .sl (some (128, 1)) false x.length (x.flatMap intC) := by rw [f.t 5 (by simp)]; simp
  have f6 : s.tm 6 = .sl (some (256, 1)) false y.length (y.flatMap intC) := by rw [f.t 6 (by simp)]; simp
  have fd : s.df = [] := by rw [f.d]; simp
  clear f
  by_cases hlt : i < x.length
  · by_cases hly : i < y.length
    · have hw := wrapU hlt (by omega)
      rw [List.drop_eq_getElem_cons hlt, List.drop_eq_getElem_cons hly, cmpL] at hc
      obtain ⟨c, hxc⟩ : ∃ c, x[i] = c := ⟨_, rfl⟩
      obtain ⟨d, hyd⟩ : ∃ d, y[i] = d := ⟨_, rfl⟩
      have hx0 := int_at x hlt
      have hy0 := int_at y hly
      rw [hxc] at hc hx0
      rw [hyd] at hc hy0
      by_cases he : c = d
      · rw [if_pos (cmpI_z.2 he)] at hc
        simp [h7, f5, f6, hlt, hly, idx_sl intC_len, hx0, hy0, he, hw]
        exact ⟨by omega, hc⟩
      · rw [if_neg (fun h => he (cmpI_z.1 h))] at hc
        have he' : (c != d) = true := by simpa using he
        simp [h7, f5, f6, hlt, hly, idx_sl intC_len, hx0, hy0, he']
        exact endV_1 (by simp [fd]) (by simp [← hc, cmpI_lt]) rfl
    · have e : y.drop i = [] := List.drop_of_length_le (by omega)
      rw [List.drop_eq_getElem_cons hlt, e, cmpL] at hc
      have hnl : ¬ x.length < y.length := by omega
      simp [h7, f5, f6, hlt, hly]
      exact endV_1 (by simp [fd]) (by simp [← hc, hnl]) rfl
  · have : i = x.length := by omega
    subst this
    rw [List.drop_length] at hc
    simp [h7, f5, f6]
    by_cases hly : x.length < y.length
    · rw [List.drop_eq_getElem_cons hly, cmpL] at hc
      exact endV_1 (by simp [fd]) (by simp [← hc, hly]) rfl
    · rw [List.drop_of_length_le (by omega : y.length ≤ x.length), cmpL] at hc
      exact endV_1 (by simp [fd]) (by simp [← hc, hly]) rfl
theorem tabB_t {t : List (List UInt8)} (h : ∀ j, j < t.length → okAt t j = true) : tabB t = true := List.all_eq_true.2 fun j hj => h j (List.mem_range.1 hj)
theorem tabB_f {t : List (List UInt8)} {j : Nat} (hj : j < t.length) (h : okAt t j = false) : tabB t = false := List.all_eq_false.2 ⟨j, List.mem_range.2 hj, by rw [h]; decide⟩
theorem getD_lt {α : Type} {l : List α} {i : Nat} {d : α} (h : i < l.length) : l.getD i d = l[i] := by simp [List.getD, h]
theorem wrapP {i : Nat} (h : 0 < i) (hN : i ≤ 1000000000) : IntKind.i64.wrap ((i : Int) - 1) = ((i - 1 : Nat) : Int) := by
  rw [wrap64' (by omega) (by omega)]; omega
theorem ev27 (nl : Bool) (t : List (List UInt8)) (hn : t.length ≤ 1000000) (hl : ∀ s ∈ t, s.length ≤ 1000000) : Ev E 27 [slOf nl strC t] (.bool (tabB t)) := by
  refine Ev_wpK (af := F27) rfl ?_
  simp [F27]
  refine wp_loopUp [(2, 4), (5, 32)] t.length (fun i s => s.tm 3 = .int .i64 i ∧ ∀ j, j < t.length → j < i → okAt t j = true) rfl rfl ⟨by simp, fun j _ h => by omega⟩ ?_
  rintro i s hi ⟨h3, hb⟩ f
  have f0 : s.tm 0 = slOf nl strC t := by rw [f.t 0 (by simp)]; simp
  have fd : s.df = [] := by rw [f.d]; simp
  clear f
  by_cases hlt : i < t.length
  · have hw := wrapU hlt (by omega)
    have hok : okAt t i = (nameB t[i] && (i == 0 || lessB (t.getD (i - 1) []) t[i])) := by unfold okAt; rw [getD_lt hlt]
    have hsi := hl _ (List.getElem_mem hlt)
    obtain ⟨c, hc⟩ : ∃ c, t[i] = c := ⟨_, rfl⟩
    have ht0 := str_at t hlt
    rw [hc] at hok ht0 hsi
    have step : okAt t i = true → ∀ j, j < t.length → j < i + 1 → okAt t j = true := fun h j hj hji => by
      rcases Nat.lt_succ_iff_lt_or_eq.1 hji with h' | rfl
      · exact hb j hj h'
      · exact h
    simp [h3, f0, hlt, idx_slOf strC_len, ht0]
    refine kD_ev (ev37 c hsi) (by simp) rfl rfl ?_
    cases hnm : nameB c
    · rw [hnm] at hok
      simp
      exact endV_1 (by simp [fd]) (by simp [tabB_f hlt hok]) rfl
    · rw [hnm] at hok
      by_cases h0 : i = 0
      · subst h0
        simp [h3]
        exact ⟨hlt, by decide, fun j hj h => by subst h; exact step (by simp [hok]) 0 hj (by omega)⟩
      · have h0' : 0 < i := by omega
        have hwp := wrapP h0' (by omega)
        have hlp : i - 1 < t.length := by omega
        have hsp := hl _ (List.getElem_mem hlp)
        have ht1 := str_at t hlp
        rw [getD_lt hlp] at hok
        obtain ⟨e, he⟩ : ∃ e, t[i - 1] = e := ⟨_, rfl⟩
        rw [he] at hok ht1 hsp
        simp [h3, f0, h0', hwp, hlp, idx_slOf strC_len, ht1, hlt, ht0]
        refine kD_ev (ev38 e c hsp hsi) (by simp) rfl rfl ?_
        cases hls : lessB e c
        · simp
          exact endV_1 (by simp [fd]) (by simp [tabB_f hlt (by simp [hok, hls, h0])]) rfl
        · simp [h3, hw]
          exact ⟨hlt, step (by simp [hok, hls])⟩
  · have : i = t.length := by omega
    subst this
    simp [h3, f0]
    exact endV_1 (by simp [fd]) (by simp [tabB_t (fun j hj => hb j hj hj)]) rfl
theorem u64_or {a b : Nat} (ha : a < 2 ^ 64) (hb : b < 2 ^ 64) : binV .or (.int .u64 (a : Int)) (.int .u64 (b : Int)) = some (.int .u64 ((a ||| b : Nat) : Int)) := by
  have h : a ||| b < 2 ^ 64 := Nat.or_lt_two_pow ha hb
  simp only [binV, intBin, if_true]
  have e : (BitVec.ofInt IntKind.u64.bits (a : Int) ||| BitVec.ofInt IntKind.u64.bits (b : Int)).toNat = a ||| b := by
    rw [BitVec.toNat_or, BitVec.ofInt_natCast, BitVec.ofInt_natCast, BitVec.toNat_ofNat, BitVec.toNat_ofNat]
    rw [show IntKind.u64.bits = 64 from rfl, Nat.mod_eq_of_lt ha, Nat.mod_eq_of_lt hb]
  rw [e, IntKind.wrap_u64]
  congr 2
  omega
theorem u64_and {a b : Nat} {m : Int} (hm : m = (b : Int)) (ha : a < 2 ^ 64) (hb : b < 2 ^ 64) : binV .and (.int .u64 (a : Int)) (.int .u64 m) = some (.int .u64 ((a &&& b : Nat) : Int)) := by
  subst hm
  have h : a &&& b < 2 ^ 64 := Nat.and_lt_two_pow _ hb
  simp only [binV, intBin, if_true]
  have e : (BitVec.ofInt IntKind.u64.bits (a : Int) &&& BitVec.ofInt IntKind.u64.bits (b : Int)).toNat = a &&& b := by
    rw [BitVec.toNat_and, BitVec.ofInt_natCast, BitVec.ofInt_natCast, BitVec.toNat_ofNat, BitVec.toNat_ofNat]
    rw [show IntKind.u64.bits = 64 from rfl, Nat.mod_eq_of_lt ha, Nat.mod_eq_of_lt hb]
  rw [e, IntKind.wrap_u64]
  congr 2
  omega
theorem u64_shl {a k : Nat} {m : Int} (hm : m = (k : Int)) (hk : k ≤ 64) (h : a * 2 ^ k < 2 ^ 64) : binV .shl (.int .u64 (a : Int)) (.int .u64 m) = some (.int .u64 ((a * 2 ^ k : Nat) : Int)) := by
  subst hm
  simp only [binV, shiftBin]
  rw [if_neg (by omega)]
  simp only [Int.toNat_natCast, show IntKind.u64.bits = 64 from rfl, Nat.min_eq_left hk]
  rw [IntKind.wrap_u64]
  congr 2
  have : ((a : Int) * 2 ^ k) = ((a * 2 ^ k : Nat) : Int) := by simp
  rw [this]
  omega
theorem slStr_from {l : List UInt8} {kk : IntKind} {k : Nat} {x : Int} (hx : x = (k : Int)) (h : k ≤ l.length) : slStrV (some (.int kk x)) none (.str l) = some (.str (l.drop k)) := by
  subst hx
  simp [slStrV, bounds, h]
def wd (l : List UInt8) : Nat := Lib.leNat (l.take 8)
theorem or_add (a b k : Nat) (h : a < 2 ^ k) : a ||| b * 2 ^ k = a + b * 2 ^ k := by
  have := Nat.shiftLeft_add_eq_or_of_lt h b
  rw [Nat.shiftLeft_eq] at this
  rw [Nat.or_comm, ← this, Nat.add_comm]
theorem wd_8 (a b c d e f g h : UInt8) (t : List UInt8) : wd (a :: b :: c :: d :: e :: f :: g :: h :: t) =
    a.toNat + b.toNat * 2 ^ 8 + c.toNat * 2 ^ 16 + d.toNat * 2 ^ 24 + e.toNat * 2 ^ 32 + f.toNat * 2 ^ 40 + g.toNat * 2 ^ 48 + h.toNat * 2 ^ 56 := by
  simp only [wd, List.take, Lib.leNat]
  omega
theorem shl_ex (x : UInt8) (k : Nat) {m : Int} (hm : m = (k : Int)) (hk : k ≤ 56) : ∃ B : Nat, B = x.toNat * 2 ^ k ∧ binV .shl (.int .u64 (x.toNat : Int)) (.int .u64 m) = some (.int .u64 (B : Int)) := by
  have hx := x.toNat_lt
  have h1 : x.toNat * 2 ^ k < 2 ^ 64 := by
    calc x.toNat * 2 ^ k < 2 ^ 8 * 2 ^ k := Nat.mul_lt_mul_of_pos_right hx (Nat.two_pow_pos k)
      _ = 2 ^ (8 + k) := (Nat.pow_add ..).symm
      _ ≤ 2 ^ 64 := Nat.pow_le_pow_right (by decide) (by omega)
  exact ⟨_, rfl, u64_shl hm (by omega) h1⟩
theorem or_ex {O B : Nat} (k c : Nat) (h : O < 2 ^ k) (hB : B = c * 2 ^ k) (hc : c < 2 ^ 8) (hk : k ≤ 56) : ∃ O' : Nat, O' = O + B ∧ O' < 2 ^ (k + 8) ∧ binV .or (.int .u64 (O : Int)) (.int .u64 (B : Int)) = some (.int .u64 (O' : Int)) := by
  have h2 : B + 2 ^ k ≤ 2 ^ (k + 8) := by
    rw [hB, Nat.pow_add, Nat.mul_comm (2 ^ k), ← Nat.succ_mul]
    exact Nat.mul_le_mul_right _ hc
  have h3 : 2 ^ (k + 8) ≤ 2 ^ 64 := Nat.pow_le_pow_right (by decide) (by omega)
  refine ⟨O + B, rfl, by omega, ?_⟩
  rw [u64_or (by omega) (by omega), hB, or_add _ _ _ h]
theorem ev121 (l : List UInt8) (hl : 8 ≤ l.length) : Ev E 121 [.str l] (.int .u64 (wd l)) := by
  match l, hl with
  | a :: b :: c :: d :: e :: f :: g :: h :: t, _ =>
    rw [wd_8]
    have l0 := a.toNat_lt
    have l1 := b.toNat_lt
    have l2 := c.toNat_lt
    have l3 := d.toNat_lt
    have l4 := e.toNat_lt
    have l5 := f.toNat_lt
    have l6 := g.toNat_lt
    have l7 := h.toNat_lt
    refine Ev_wpK (af := F121) rfl ?_
    have cv : ∀ x : UInt8, convV .u64 (.int .u8 (x.toNat : Int)) = some (.int .u64 (x.toNat : Int)) := fun x => by
      have := x.toNat_lt
      simp only [convV, IntKind.wrap_u64]
      congr 2
      omega
    have iv : ∀ (s : List UInt8) (i : Nat) (x : UInt8) (y : Int), y = (i : Int) → s[i]? = some x → idxStrV (.str s) (.int .i64 y) = some (.int .u8 (x.toNat : Int)) := by
      intro s i x y hy hx
      subst hy
      simp [idxStrV, hx]
    have i0 := iv (a :: b :: c :: d :: e :: f :: g :: h :: t) 0 a 0 rfl rfl
    have i1 := iv (a :: b :: c :: d :: e :: f :: g :: h :: t) 1 b 1 rfl rfl
    have i2 := iv (a :: b :: c :: d :: e :: f :: g :: h :: t) 2 c 2 rfl rfl
    have i3 := iv (a :: b :: c :: d :: e :: f :: g :: h :: t) 3 d 3 rfl rfl
    have i4 := iv (a :: b :: c :: d :: e :: f :: g :: h :: t) 4 e 4 rfl rfl
    have i5 := iv (a :: b :: c :: d :: e :: f :: g :: h :: t) 5 f 5 rfl rfl
    have i6 := iv (a :: b :: c :: d :: e :: f :: g :: h :: t) 6 g 6 rfl rfl
    have i7 := iv (a :: b :: c :: d :: e :: f :: g :: h :: t) 7 h 7 rfl rfl
    obtain ⟨B1, hB1, s1⟩ := shl_ex b 8 (m := 8) rfl (by decide)
    obtain ⟨B2, hB2, s2⟩ := shl_ex c 16 (m := 16) rfl (by decide)
    obtain ⟨B3, hB3, s3⟩ := shl_ex d 24 (m := 24) rfl (by decide)
    obtain ⟨B4, hB4, s4⟩ := shl_ex e 32 (m := 32) rfl (by decide)
    obtain ⟨B5, hB5, s5⟩ := shl_ex f 40 (m := 40) rfl (by decide)
    obtain ⟨B6, hB6, s6⟩ := shl_ex g 48 (m := 48) rfl (by decide)
    obtain ⟨B7, hB7, s7⟩ := shl_ex h 56 (m := 56) rfl (by decide)
    obtain ⟨O1, hO1, q1, o1⟩ := or_ex (O := a.toNat) 8 _ l0 hB1 l1 (by decide)
    obtain ⟨O2, hO2, q2, o2⟩ := or_ex (O := O1) 16 _ q1 hB2 l2 (by decide)
    obtain ⟨O3, hO3, q3, o3⟩ := or_ex (O := O2) 24 _ q2 hB3 l3 (by decide)
    obtain ⟨O4, hO4, q4, o4⟩ := or_ex (O := O3) 32 _ q3 hB4 l4 (by decide)
    obtain ⟨O5, hO5, q5, o5⟩ := or_ex (O := O4) 40 _ q4 hB5 l5 (by decide)
    obtain ⟨O6, hO6, q6, o6⟩ := or_ex (O := O5) 48 _ q5 hB6 l6 (by decide)
    obtain ⟨O7, hO7, q7, o7⟩ := or_ex (O := O6) 56 _ q6 hB7 l7 (by decide)
    have tot : O7 = a.toNat + b.toNat * 2 ^ 8 + c.toNat * 2 ^ 16 + d.toNat * 2 ^ 24 + e.toNat * 2 ^ 32 + f.toNat * 2 ^ 40 + g.toNat * 2 ^ 48 + h.toNat * 2 ^ 56 := by omega
    rw [← tot]
    clear tot hB1 hB2 hB3 hB4 hB5 hB6 hB7 hO7 q7 hO6 q6 hO5 q5 hO4 q4 hO3 q3 hO2 q2 hO1 q1
    simp [F121, cv, i0, i1, i2, i3, i4, i5, i6, i7, s1, o1, s2, o2, s3, o3, s4, o4, s5, o5, s6, o6, s7, o7]
    exact endV_1 rfl (by simp) rfl
end Go.Pv.T
