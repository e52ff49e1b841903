/- The reference's runes are the decoder's. -/
import Derived.Test.YtopjfnbonjmnjaaGreatDoorWtD
import Derived.Lib.ValidLaws
import Derived.Laws.Bits64
import Derived.Sort.AssemblyPlain
namespace Go.Pv.T
open Go Go.Pv

def refOne (n b0 b1 b2 b3 : Nat) : Nat × Nat :=
  if b0 < 128 then (1, b0)
  else if 194 ≤ b0 ∧ b0 ≤ 223 then (if n < 2 ∨ b1 < 128 ∨ 191 < b1 then (1, 65533) else (2, 64 * (b0 - 192) + b1 - 128))
  else if 224 ≤ b0 ∧ b0 ≤ 239 then (if n < 3 ∨ b1 < 128 ∨ 191 < b1 ∨ b2 < 128 ∨ 191 < b2 then (1, 65533) else
    if 64 * (64 * (b0 - 224) + b1 - 128) + b2 - 128 < 2048 ∨ 55296 ≤ 64 * (64 * (b0 - 224) + b1 - 128) + b2 - 128 ∧ 64 * (64 * (b0 - 224) + b1 - 128) + b2 - 128 ≤ 57343 then (1, 65533) else (3, 64 * (64 * (b0 - 224) + b1 - 128) + b2 - 128))
  else if 240 ≤ b0 ∧ b0 ≤ 244 then (if n < 4 ∨ b1 < 128 ∨ 191 < b1 ∨ b2 < 128 ∨ 191 < b2 ∨ b3 < 128 ∨ 191 < b3 then (1, 65533) else
    if 64 * (64 * (64 * (b0 - 240) + b1 - 128) + b2 - 128) + b3 - 128 < 65536 ∨ 1114111 < 64 * (64 * (64 * (b0 - 240) + b1 - 128) + b2 - 128) + b3 - 128 then (1, 65533) else (4, 64 * (64 * (64 * (b0 - 240) + b1 - 128) + b2 - 128) + b3 - 128))
  else (1, 65533)
set_option maxRecDepth 100000 in
set_option maxHeartbeats 4000000 in
theorem refOne_eq (n b0 b1 b2 b3 : Nat) (_ : 1 ≤ n) (h0 : b0 < 256) (h1 : b1 < 256) (h2 : b2 < 256) (h3 : b3 < 256) : refOne n b0 b1 b2 b3 = ((Lib.decodeN n b0 b1 b2 b3).2, (Lib.decodeN n b0 b1 b2 b3).1) := by
  unfold refOne Lib.decodeN
  repeat' split
  all_goals first | (exfalso; omega) | (apply Prod.ext <;> simp only <;> omega)
theorem dlt_t {a b : Int} (h : a < b) : decide (a < b) = true := decide_eq_true h
theorem dlt_f {a b : Int} (h : b ≤ a) : decide (a < b) = false := decide_eq_false (by omega)
theorem dle_t {a b : Int} (h : a ≤ b) : decide (a ≤ b) = true := decide_eq_true h
theorem dle_f {a b : Int} (h : b < a) : decide (a ≤ b) = false := decide_eq_false (by omega)
theorem idxStr_at {s : List UInt8} {i : Nat} {x : Int} (kk : IntKind) (h : i < s.length) (hx : x = (i : Int)) : idxStrV (.str s) (.int kk x) = some (.int .u8 ((s.getD i 0).toNat : Nat)) := by
  subst hx
  simp [idxStrV, List.getElem?_eq_getElem h, List.getD]
set_option maxRecDepth 100000 in
set_option maxHeartbeats 8000000 in
theorem ev216 (s : List UInt8) (hs : s.length ≤ 1000000) (p : Nat) (h : p < s.length) : Ev E 216 [.str s, .int .i64 p]
    (.tup [.int .i64 ((refOne (s.length - p) (s.getD p 0).toNat (s.getD (p + 1) 0).toNat (s.getD (p + 2) 0).toNat (s.getD (p + 3) 0).toNat).1 : Nat),
      .int .i64 ((refOne (s.length - p) (s.getD p 0).toNat (s.getD (p + 1) 0).toNat (s.getD (p + 2) 0).toNat (s.getD (p + 3) 0).toNat).2 : Nat)]) := by
  have g0 := idxStr_at (s := s) (x := (p : Int)) .i64 h rfl
  have g1 : p + 1 < s.length → _ := fun h => idxStr_at (s := s) (x := (p : Int) + 1) .i64 h (by simp)
  have g2 : p + 2 < s.length → _ := fun h => idxStr_at (s := s) (x := (p : Int) + 2) .i64 h (by simp)
  have g3 : p + 3 < s.length → _ := fun h => idxStr_at (s := s) (x := (p : Int) + 3) .i64 h (by simp)
  have l0 := (s.getD p 0).toNat_lt
  have l1 := (s.getD (p + 1) 0).toNat_lt
  have l2 := (s.getD (p + 2) 0).toNat_lt
  have l3 := (s.getD (p + 3) 0).toNat_lt
  generalize (s.getD p 0).toNat = c0 at *
  generalize (s.getD (p + 1) 0).toNat = c1 at *
  generalize (s.getD (p + 2) 0).toNat = c2 at *
  generalize (s.getD (p + 3) 0).toNat = c3 at *
  have w0 : IntKind.i64.wrap (c0 : Int) = c0 := wrap64' (by omega) (by omega)
  have w1 : IntKind.i64.wrap (c1 : Int) = c1 := wrap64' (by omega) (by omega)
  have w2 : IntKind.i64.wrap (c2 : Int) = c2 := wrap64' (by omega) (by omega)
  have w3 : IntKind.i64.wrap (c3 : Int) = c3 := wrap64' (by omega) (by omega)
  refine Ev_wpK (af := F216) rfl ?_
  simp [F216, g0, convV, w0]
  by_cases a1 : (c0 : Int) < 128
  · simp [a1]
    exact endV_2 rfl (by simp [refOne, show c0 < 128 by omega]) (by simp [refOne, show c0 < 128 by omega]) rfl rfl
  have v0 : ∀ x : Int, -1000000000 ≤ x → x ≤ 1000000000 → IntKind.i64.wrap x = x := fun x h h' => wrap64' (by omega) (by omega)
  by_cases k2 : 194 ≤ (c0 : Int) ∧ (c0 : Int) ≤ 223
  · obtain ⟨k2a, k2b⟩ := k2
    by_cases hl : (s.length : Int) < (p : Int) + 2
    · simp (disch := omega) [a1, k2a, k2b, hl, v0, dle_f, List.getElem?_cons_zero]
      exact endV_2 rfl (by simp; unfold refOne; repeat' split
                           all_goals omega) (by simp; unfold refOne; repeat' split
                                                all_goals omega) rfl rfl
    have g1 := g1 (by omega)
    simp (disch := omega) [a1, k2a, k2b, hl, v0, dle_f, List.getElem?_cons_zero]
    refine wp_unroll 2 ?_
    by_cases d1 : (c1 : Int) < 128
    · simp (disch := omega) [g1, d1, v0, convV, List.getElem?_cons_zero]
      exact endV_2 rfl (by simp; unfold refOne; repeat' split
                           all_goals omega) (by simp; unfold refOne; repeat' split
                                                all_goals omega) rfl rfl
    by_cases d1' : 191 < (c1 : Int)
    · simp (disch := omega) [g1, d1, d1', v0, convV, List.getElem?_cons_zero]
      exact endV_2 rfl (by simp; unfold refOne; repeat' split
                           all_goals omega) (by simp; unfold refOne; repeat' split
                                                all_goals omega) rfl rfl
    simp (disch := omega) [g1, d1, d1', v0, convV, List.getElem?_cons_zero, dlt_f, dle_f]
    exact endV_2 rfl (by simp; unfold refOne; repeat' split
                         all_goals omega) (by simp; unfold refOne; repeat' split
                                              all_goals omega) rfl rfl
  by_cases k3 : 224 ≤ (c0 : Int) ∧ (c0 : Int) ≤ 239
  · obtain ⟨k3a, k3b⟩ := k3
    by_cases hl : (s.length : Int) < (p : Int) + 3
    · simp (disch := omega) [a1, k3a, k3b, hl, v0, dle_t, dle_f, List.getElem?_cons_zero]
      exact endV_2 rfl (by simp; unfold refOne; repeat' split
                           all_goals omega) (by simp; unfold refOne; repeat' split
                                                all_goals omega) rfl rfl
    have g1 := g1 (by omega)
    have g2 := g2 (by omega)
    simp (disch := omega) [a1, k3a, k3b, hl, v0, dle_t, dle_f, List.getElem?_cons_zero]
    refine wp_unroll 3 ?_
    by_cases d1 : (c1 : Int) < 128
    · simp (disch := omega) [g1, d1, v0, convV, List.getElem?_cons_zero]
      exact endV_2 rfl (by simp; unfold refOne; repeat' split
                           all_goals omega) (by simp; unfold refOne; repeat' split
                                                all_goals omega) rfl rfl
    by_cases e1 : 191 < (c1 : Int)
    · simp (disch := omega) [g1, d1, e1, v0, convV, List.getElem?_cons_zero]
      exact endV_2 rfl (by simp; unfold refOne; repeat' split
                           all_goals omega) (by simp; unfold refOne; repeat' split
                                                all_goals omega) rfl rfl
    by_cases d2 : (c2 : Int) < 128
    · simp (disch := omega) [g1, g2, d1, e1, d2, v0, convV, List.getElem?_cons_zero]
      exact endV_2 rfl (by simp; unfold refOne; repeat' split
                           all_goals omega) (by simp; unfold refOne; repeat' split
                                                all_goals omega) rfl rfl
    by_cases e2 : 191 < (c2 : Int)
    · simp (disch := omega) [g1, g2, d1, e1, d2, e2, v0, convV, List.getElem?_cons_zero]
      exact endV_2 rfl (by simp; unfold refOne; repeat' split
                           all_goals omega) (by simp; unfold refOne; repeat' split
                                                all_goals omega) rfl rfl
    by_cases f1 : 64 * (64 * ((c0 : Int) - 224) + c1 - 128) + c2 - 128 < 2048
    · simp (disch := omega) [g1, g2, d1, e1, d2, e2, f1, v0, convV, List.getElem?_cons_zero]
      exact endV_2 rfl (by simp; unfold refOne; repeat' split
                           all_goals omega) (by simp; unfold refOne; repeat' split
                                                all_goals omega) rfl rfl
    by_cases f2 : 55296 ≤ 64 * (64 * ((c0 : Int) - 224) + c1 - 128) + c2 - 128
    · by_cases f3 : 64 * (64 * ((c0 : Int) - 224) + c1 - 128) + c2 - 128 ≤ 57343
      · simp (disch := omega) [g1, g2, d1, e1, d2, e2, f1, f2, f3, v0, dlt_f, convV, List.getElem?_cons_zero]
        exact endV_2 rfl (by simp; unfold refOne; repeat' split
                             all_goals omega) (by simp; unfold refOne; repeat' split
                                                  all_goals omega) rfl rfl
      simp (disch := omega) [g1, g2, d1, e1, d2, e2, f1, f2, f3, v0, dlt_f, convV, List.getElem?_cons_zero]
      exact endV_2 rfl (by simp; unfold refOne; repeat' split
                           all_goals omega) (by simp; unfold refOne; repeat' split
                                                all_goals omega) rfl rfl
    simp (disch := omega) [g1, g2, d1, e1, d2, e2, f1, f2, v0, dlt_f, convV, List.getElem?_cons_zero]
    exact endV_2 rfl (by simp; unfold refOne; repeat' split
                         all_goals omega) (by simp; unfold refOne; repeat' split
                                              all_goals omega) rfl rfl
  by_cases k4 : 240 ≤ (c0 : Int) ∧ (c0 : Int) ≤ 244
  · obtain ⟨k4a, k4b⟩ := k4
    by_cases hl : (s.length : Int) < (p : Int) + 4
    · simp (disch := omega) [a1, k4a, k4b, hl, v0, dle_t, dle_f, List.getElem?_cons_zero]
      exact endV_2 rfl (by simp; unfold refOne; repeat' split
                           all_goals omega) (by simp; unfold refOne; repeat' split
                                                all_goals omega) rfl rfl
    have g1 := g1 (by omega)
    have g2 := g2 (by omega)
    have g3 := g3 (by omega)
    simp (disch := omega) [a1, k4a, k4b, hl, v0, dle_t, dle_f, List.getElem?_cons_zero]
    refine wp_unroll 4 ?_
    by_cases d1 : (c1 : Int) < 128
    · simp (disch := omega) [g1, d1, v0, convV, List.getElem?_cons_zero]
      exact endV_2 rfl (by simp; unfold refOne; repeat' split
                           all_goals omega) (by simp; unfold refOne; repeat' split
                                                all_goals omega) rfl rfl
    by_cases e1 : 191 < (c1 : Int)
    · simp (disch := omega) [g1, d1, e1, v0, convV, List.getElem?_cons_zero]
      exact endV_2 rfl (by simp; unfold refOne; repeat' split
                           all_goals omega) (by simp; unfold refOne; repeat' split
                                                all_goals omega) rfl rfl
    by_cases d2 : (c2 : Int) < 128
    · simp (disch := omega) [g1, g2, d1, e1, d2, v0, convV, List.getElem?_cons_zero]
      exact endV_2 rfl (by simp; unfold refOne; repeat' split
                           all_goals omega) (by simp; unfold refOne; repeat' split
                                                all_goals omega) rfl rfl
    by_cases e2 : 191 < (c2 : Int)
    · simp (disch := omega) [g1, g2, d1, e1, d2, e2, v0, convV, List.getElem?_cons_zero]
      exact endV_2 rfl (by simp; unfold refOne; repeat' split
                           all_goals omega) (by simp; unfold refOne; repeat' split
                                                all_goals omega) rfl rfl
    by_cases d3 : (c3 : Int) < 128
    · simp (disch := omega) [g1, g2, g3, d1, e1, d2, e2, d3, v0, convV, List.getElem?_cons_zero]
      exact endV_2 rfl (by simp; unfold refOne; repeat' split
                           all_goals omega) (by simp; unfold refOne; repeat' split
                                                all_goals omega) rfl rfl
    by_cases e3 : 191 < (c3 : Int)
    · simp (disch := omega) [g1, g2, g3, d1, e1, d2, e2, d3, e3, v0, convV, List.getElem?_cons_zero]
      exact endV_2 rfl (by simp; unfold refOne; repeat' split
                           all_goals omega) (by simp; unfold refOne; repeat' split
                                                all_goals omega) rfl rfl
    by_cases f1 : 64 * (64 * (64 * ((c0 : Int) - 240) + c1 - 128) + c2 - 128) + c3 - 128 < 65536
    · simp (disch := omega) [g1, g2, g3, d1, e1, d2, e2, d3, e3, f1, v0, convV, List.getElem?_cons_zero]
      exact endV_2 rfl (by simp; unfold refOne; repeat' split
                           all_goals omega) (by simp; unfold refOne; repeat' split
                                                all_goals omega) rfl rfl
    by_cases f2 : 1114111 < 64 * (64 * (64 * ((c0 : Int) - 240) + c1 - 128) + c2 - 128) + c3 - 128
    · simp (disch := omega) [g1, g2, g3, d1, e1, d2, e2, d3, e3, f1, f2, v0, convV, List.getElem?_cons_zero]
      exact endV_2 rfl (by simp; unfold refOne; repeat' split
                           all_goals omega) (by simp; unfold refOne; repeat' split
                                                all_goals omega) rfl rfl
    simp (disch := omega) [g1, g2, g3, d1, e1, d2, e2, d3, e3, f1, f2, v0, dle_t, dle_f, convV, List.getElem?_cons_zero]
    exact endV_2 rfl (by simp; unfold refOne; repeat' split
                         all_goals omega) (by simp; unfold refOne; repeat' split
                                              all_goals omega) rfl rfl
  have q : c0 < 194 ∨ 244 < c0 := by omega
  rcases q with q | q
  · simp (disch := omega) [a1, dle_f]
    exact endV_2 rfl (by simp; unfold refOne; repeat' split
                         all_goals omega) (by simp; unfold refOne; repeat' split
                                              all_goals omega) rfl rfl
  · simp (disch := omega) [a1, dle_t, dle_f]
    exact endV_2 rfl (by simp; unfold refOne; repeat' split
                         all_goals omega) (by simp; unfold refOne; repeat' split
                                              all_goals omega) rfl rfl
end Go.Pv.T

/- Runes of a text, the reference's way. -/
namespace Go.Pv.T
open Go Go.Pv

@[simp] theorem str_strip (s : List UInt8) : (V.str s).strip = .str s := rfl
@[simp] theorem str_pureTop (s : List UInt8) : (V.str s).pureTop = true := rfl
@[simp] theorem str_pureLeaf (s : List UInt8) : (V.str s).pureLeaf = true := rfl
@[simp] theorem sl_strip (t : Option (Nat × Nat)) (nl : Bool) (n : Nat) (cs : List V) : (V.sl t nl n cs).strip = .sl none nl n cs := rfl
@[simp] theorem sl_strip1 (t : Option (Nat × Nat)) (nl : Bool) (n : Nat) (cs : List V) : (V.sl t nl n cs).strip1 = .sl none nl n cs := rfl
@[simp] theorem sl_pureTop (nl : Bool) (n : Nat) (cs : List V) : (V.sl none nl n cs).pureTop = true := rfl
@[simp] theorem sl_pureLeaf (nl : Bool) (n : Nat) (cs : List V) : (V.sl none nl n cs).pureLeaf = true := rfl
def rU (s : List UInt8) (p : Nat) : Nat := (Utf8.decode ⟨s.toArray⟩ p).1
def rW (s : List UInt8) (p : Nat) : Nat := (Utf8.decode ⟨s.toArray⟩ p).2
theorem one_eq {s : List UInt8} {p : Nat} (h : p < s.length) : refOne (s.length - p) (s.getD p 0).toNat (s.getD (p + 1) 0).toNat (s.getD (p + 2) 0).toNat (s.getD (p + 3) 0).toNat = (rW s p, rU s p) := by
  rw [refOne_eq _ _ _ _ _ (by omega) (s.getD p 0).toNat_lt (s.getD (p + 1) 0).toNat_lt (s.getD (p + 2) 0).toNat_lt (s.getD (p + 3) 0).toNat_lt]
  unfold rW rU
  rw [Lib.decode_N]
set_option maxRecDepth 100000 in
theorem one_w (n b0 b1 b2 b3 : Nat) (hn : 1 ≤ n) : 1 ≤ (refOne n b0 b1 b2 b3).1 ∧ (refOne n b0 b1 b2 b3).1 ≤ n := by
  unfold refOne
  repeat' split
  all_goals (simp only; omega)
set_option maxRecDepth 100000 in
theorem one_bad (n b0 b1 b2 b3 : Nat) (h1 : b1 < 256) (h2 : b2 < 256) (h : (refOne n b0 b1 b2 b3).2 = 65533) : (refOne n b0 b1 b2 b3).1 = 1 ∨ (refOne n b0 b1 b2 b3).1 = 3 := by
  revert h
  unfold refOne
  repeat' split
  all_goals (intro h; simp at h ⊢; try omega)
theorem rW_pos {s : List UInt8} {p : Nat} (h : p < s.length) : 1 ≤ rW s p ∧ p + rW s p ≤ s.length := by
  have := one_w (s.length - p) (s.getD p 0).toNat (s.getD (p + 1) 0).toNat (s.getD (p + 2) 0).toNat (s.getD (p + 3) 0).toNat (by omega)
  rw [one_eq h] at this
  simp only at this
  omega
theorem rU_bad {s : List UInt8} {p : Nat} (h : p < s.length) (hu : rU s p = 65533) : rW s p = 1 ∨ rW s p = 3 := by
  have := one_bad (s.length - p) (s.getD p 0).toNat (s.getD (p + 1) 0).toNat (s.getD (p + 2) 0).toNat (s.getD (p + 3) 0).toNat (s.getD (p + 1) 0).toNat_lt (s.getD (p + 2) 0).toNat_lt
  rw [one_eq h] at this
  exact this hu
def RN (s : List UInt8) (p : Nat) : List Int := (runesL s (s.length - p) p).map fun r => ((r : Nat) : Int)
theorem runesI_eq (s : List UInt8) : runesI s = RN s 0 := rfl
theorem runesL_fuel (s : List UInt8) : ∀ (b b' p : Nat), s.length ≤ p + b → s.length ≤ p + b' → runesL s b p = runesL s b' p
  | 0, 0, _, _, _ => rfl
  | 0, b' + 1, p, h, _ => by
    unfold runesL
    rw [if_neg (by omega)]
  | b + 1, 0, p, _, h => by
    unfold runesL
    rw [if_neg (by omega)]
  | b + 1, b' + 1, p, h, h' => by
    unfold runesL
    by_cases hp : p < s.length
    · rw [if_pos hp, if_pos hp]
      have := (rW_pos hp).1
      unfold rW at this
      rw [runesL_fuel s b b' _ (by omega) (by omega)]
    · rw [if_neg hp, if_neg hp]
theorem RN_step {s : List UInt8} {p : Nat} (h : p < s.length) : RN s p = (rU s p : Int) :: RN s (p + rW s p) := by
  have hw := rW_pos h
  unfold RN
  obtain ⟨n, hn⟩ : ∃ n, s.length - p = n + 1 := ⟨s.length - p - 1, by omega⟩
  rw [hn]
  conv => lhs; unfold runesL
  rw [if_pos h, List.map_cons]
  congr 2
  exact runesL_fuel s _ _ _ (by unfold rW at hw; omega) (by unfold rW at hw ⊢; omega)
theorem RN_end {s : List UInt8} {p : Nat} (h : s.length ≤ p) : RN s p = [] := by
  unfold RN
  rw [show s.length - p = 0 by omega]
  rfl
theorem runesL_len (s : List UInt8) : ∀ (b p : Nat), (runesL s b p).length ≤ b
  | 0, _ => Nat.le_refl _
  | b + 1, p => by
    unfold runesL
    split
    · have := runesL_len s b (p + (Utf8.decode ⟨s.toArray⟩ p).2)
      simp only [List.length_cons]
      omega
    · simp
theorem runesI_len (s : List UInt8) : (runesI s).length ≤ s.length := by
  rw [runesI_eq, RN, List.length_map]
  exact runesL_len s _ _
def VD (s : List UInt8) (p : Nat) : Bool := Lib.validD (s.drop p)
theorem dec_drop (s : List UInt8) (p : Nat) : Lib.decodeL (s.drop p) = (rU s p, rW s p) := Lib.decodeL_drop ⟨s.toArray⟩ p
theorem VD_step {s : List UInt8} {p : Nat} (h : p < s.length) : VD s p = if rU s p = 65533 ∧ rW s p = 1 then false else VD s (p + rW s p) := by
  have hne : s.drop p ≠ [] := fun e => by have := congrArg List.length e; rw [List.length_drop] at this; simp at this; omega
  unfold VD
  rw [Lib.validD_step _ hne, dec_drop]
  simp only [List.drop_drop]
theorem VD_end {s : List UInt8} {p : Nat} (h : s.length ≤ p) : VD s p = true := by
  unfold VD
  rw [List.drop_of_length_le h]
  rfl
theorem ev216' (s : List UInt8) (hs : s.length ≤ 1000000) (p : Nat) (h : p < s.length) : Ev E 216 [.str s, .int .i64 p] (.tup [.int .i64 (rW s p : Nat), .int .i64 (rU s p : Nat)]) := by
  have := ev216 s hs p h
  rw [one_eq h] at this
  exact this

theorem ev172 (s : List UInt8) (hs : s.length ≤ 1000000) : Ev E 172 [.str s] (.sl (some (0, 1)) false (runesI s).length ((runesI s).flatMap intC)) := by
  refine Ev_wpK (af := F172) rfl ?_
  simp [F172]
  refine kS_buildSl (cs := []) rfl rfl rfl ?_
  simp
  refine wp_loopF (n := s.length) [(3, 24)] (fun k st => ∃ p u pre, k = s.length - p ∧ p ≤ s.length ∧ st.tm 4 = .int .i64 (p : Nat) ∧ runesI s = pre ++ RN s p ∧ st.tm 3 = .sl (some (u, 1)) false pre.length (pre.flatMap intC) ∧ st.tk u = true) rfl rfl
    ⟨0, 64, [], by simp [runesI_eq]⟩ ?_
  rintro k st ⟨p, u, pre, rfl, hp, h4, hpre, h3, hu⟩ f
  have f0 : st.tm 0 = .str s := by rw [f.t 0 (by simp)]; simp
  have hpl : pre.length ≤ 1000000 := by
    have h1 := congrArg List.length hpre
    have h2 := runesI_len s
    rw [List.length_append] at h1
    omega
  by_cases hlt : p < s.length
  · have hw := rW_pos hlt
    simp [h4, f0, hlt]
    refine kS_ev (ev216' s hs p hlt) (by simp) rfl rfl ?_
    simp [h3]
    refine kS_buildSl (cs := [.int .i64 (rU s p)]) (by simp [splice]) rfl rfl ?_
    simp
    refine kS_append_tok (u := u) (nl := false) (n := pre.length) (cs := pre.flatMap intC) (ys := [.int .i64 (rU s p)]) (by simp) (by simp [app_tk, hu]) (by simp [slCells]) (by simp) (by rw [flatMap_len intC_len]) (by decide) rfl (by simp; omega) (by simp; omega) ?_
    simp [h4]
    refine ⟨s.length - (p + rW s p), by omega, p + rW s p, by omega, by omega, by rw [wrap64' (by omega) (by omega)]; simp, _, pre ++ [(rU s p : Int)], ?_, ?_, Or.inl rfl⟩
    · rw [hpre, RN_step hlt]; simp
    · simp [intC]
  · have : p = s.length := by omega
    subst this
    simp [h4, f0]
    rw [RN_end (Nat.le_refl _), List.append_nil] at hpre
    exact endV_tokG (u := u) (by simp [f.d]) (by simp [h3, hpre]) (by simpa using hu)

theorem ev174 (s : List UInt8) (hs : s.length ≤ 1000000) : Ev E 174 [.str s] (.bool (Lib.validD s)) := by
  refine Ev_wpK (af := F174) rfl ?_
  simp [F174]
  refine wp_loopF (n := s.length) [(2, 24)] (fun k st => ∃ p, k = s.length - p ∧ p ≤ s.length ∧ st.tm 3 = .int .i64 (p : Nat) ∧ Lib.validD s = VD s p) rfl rfl
    ⟨0, by simp [VD]⟩ ?_
  rintro k st ⟨p, rfl, hp, h3, hv⟩ f
  have f0 : st.tm 0 = .str s := by rw [f.t 0 (by simp)]; simp
  by_cases hlt : p < s.length
  · have hw := rW_pos hlt
    rw [VD_step hlt] at hv
    simp [h3, f0, hlt]
    refine kS_ev (ev216' s hs p hlt) (by simp) rfl rfl ?_
    by_cases hb : rU s p = 65533
    · rcases rU_bad hlt hb with h1 | h1
      · rw [if_pos ⟨hb, h1⟩] at hv
        simp [hb, h1]
        exact endV_1 (by simp [f.d]) (by simp [hv]) rfl
      · rw [if_neg (by omega)] at hv
        simp [hb, h1, h3]
        exact ⟨s.length - (p + 3), by omega, p + 3, rfl, by omega, by rw [wrap64' (by omega) (by omega)]; simp, by rw [hv, h1]⟩
    · rw [if_neg (by omega)] at hv
      have hb' : ((rU s p : Int) == 65533) = false := by rw [beq_eq_false_iff_ne]; omega
      simp [hb', h3]
      exact ⟨s.length - (p + rW s p), by omega, p + rW s p, rfl, by omega, by rw [wrap64' (by omega) (by omega)]; simp, hv⟩
  · have : p = s.length := by omega
    subst this
    rw [VD_end (Nat.le_refl _)] at hv
    simp [h3, f0]
    exact endV_1 (by simp [f.d]) (by simp [hv]) rfl
end Go.Pv.T

/- The reference's names, and tables. -/
namespace Go.Pv.T
open Go Go.Pv

theorem idx_sl {α : Type} {f : α → List V} {k : Nat} (hf : ∀ a, (f a).length = k) (t : Option (Nat × Nat)) (nl : Bool) (l : List α) (kk : IntKind) {i : Nat} (h : i < l.length) : idxSlV k (.sl t nl l.length (l.flatMap f)) (.int kk i) = some (.eptr (l.flatMap f) (i * k)) := by
  simp only [idxSlV_sl, flatMap_len hf]
  rw [if_pos (by simp; omega)]
  rfl
theorem idx_sl0 {α : Type} {f : α → List V} {k : Nat} (hf : ∀ a, (f a).length = k) (t : Option (Nat × Nat)) (nl : Bool) (l : List α) (kk : IntKind) (h : 0 < l.length) : idxSlV k (.sl t nl l.length (l.flatMap f)) (.int kk 0) = some (.eptr (l.flatMap f) 0) := by
  have := idx_sl hf t nl l kk h
  simpa using this
theorem int_at (l : List Int) {i : Nat} (h : i < l.length) : (l.flatMap intC)[i]? = some (.int .i64 l[i]) := by
  have := fld_at (f := intC) intC_len l h (by decide : 0 < 1)
  rw [Nat.mul_one, Nat.add_zero] at this
  rw [this]
  rfl
theorem str_at (l : List (List UInt8)) {i : Nat} (h : i < l.length) : (l.flatMap strC)[i]? = some (.str l[i]) := by
  have := fld_at (f := strC) strC_len l h (by decide : 0 < 1)
  rw [Nat.mul_one, Nat.add_zero] at this
  rw [this]
  rfl
theorem wrapU {i N : Nat} (h : i < N) (hN : N ≤ 1000000000) : IntKind.i64.wrap ((i : Int) + 1) = (i : Int) + 1 := wrap64' (by omega) (by omega)
theorem dne_t {a b : Int} (h : a < b ∨ b < a) : (a != b) = true := by simp; omega
theorem dne_f {a b : Int} (h : a = b) : (a != b) = false := by simp [h]

def headDig : List Int → Bool
  | [] => false
  | c :: _ => digitB c
def nmOk (l : List Int) : Bool := decide (1 ≤ l.length) && decide (l.length ≤ 20) && !(headDig l) && l.all partB
def nameB (s : List UInt8) : Bool := !resB s && Lib.validD s && nmOk (runesI s)
def lessB (a b : List UInt8) : Bool := decide (cmpL (runesI a) (runesI b) < 0)
def okAt (t : List (List UInt8)) (j : Nat) : Bool := nameB (t.getD j []) && (j == 0 || lessB (t.getD (j - 1) []) (t.getD j []))
def tabB (t : List (List UInt8)) : Bool := (List.range t.length).all (okAt t)
theorem headD_get {l : List Int} (h : 0 < l.length) : headDig l = digitB l[0] := by
  cases l with
  | nil => simp at h
  | cons a l => rfl
theorem all_at {α : Type} {p : α → Bool} {l : List α} (h : ∀ j (hj : j < l.length), p l[j] = true) : l.all p = true := by
  rw [List.all_eq_true]
  intro x hx
  obtain ⟨j, hj, rfl⟩ := List.getElem_of_mem hx
  exact h j hj
theorem all_not {α : Type} {p : α → Bool} {l : List α} {j : Nat} (hj : j < l.length) (h : p l[j] = false) : l.all p = false := by
  rw [List.all_eq_false]
  exact ⟨_, List.getElem_mem hj, by rw [h]; decide⟩

theorem part_cases (c : Int) : (partB c = false ∧ (c < 48 ∨ (57 < c ∧ c < 65) ∨ (90 < c ∧ c < 95) ∨ c = 96 ∨ (122 < c ∧ c < 128))) ∨ (partB c = true ∧ ((48 ≤ c ∧ c ≤ 57) ∨ (65 ≤ c ∧ c ≤ 90) ∨ c = 95 ∨ (97 ≤ c ∧ c ≤ 122) ∨ 127 < c)) := by
  simp [partB, digitB]
  omega
def L126 : C := .seq (.seq (.region [
             ⟨(some 37), .mov (.t 4), none, false⟩,
             ⟨(some 38), .mov (.t 3), none, false⟩,
             ⟨(some 39), .lenSl (.t 38), none, false⟩,
             ⟨(some 40), .bin .lss (.t 37) (.t 39), none, false⟩])
           (.cond (.t 40) (.skip)
            (.exit 0)))
          (.seq (.block 1 (.seq (.region [
               ⟨(some 43), .mov (.t 3), none, false⟩,
               ⟨(some 44), .mov (.t 4), none, false⟩,
               ⟨(some 45), .idxSl 1 (.t 43) (.t 44), none, false⟩,
               ⟨(some 46), .load none (.t 45), none, false⟩,
               ⟨(some 5), .mov (.t 46), none, false⟩])
             (.seq (.region [
                ⟨(some 47), .mov (.t 5), none, false⟩,
                ⟨(some 48), .bin .lss (.t 47) (.c (.int .i64 128)), none, false⟩,
                ⟨(some 49), .mov (.t 48), none, false⟩,
                ⟨(some 50), .mov (.t 5), (some (49, true)), false⟩,
                ⟨(some 51), .bin .neq (.t 50) (.c (.int .i64 95)), (some (49, true)), false⟩,
                ⟨(some 52), .pick (.t 49) (.t 51) (.c (.bool false)), none, false⟩,
                ⟨(some 53), .mov (.t 52), none, false⟩,
                ⟨(some 54), .mov (.t 5), (some (53, true)), false⟩,
                ⟨(some 55), .bin .lss (.t 54) (.c (.int .i64 48)), (some (53, true)), false⟩,
                ⟨(some 56), .mov (.t 55), (some (53, true)), false⟩,
                ⟨(some 57), .mov (.t 5), (some (56, false)), false⟩,
                ⟨(some 58), .bin .gtr (.t 57) (.c (.int .i64 57)), (some (56, false)), false⟩,
                ⟨(some 59), .pick (.t 56) (.c (.bool true)) (.t 58), (some (53, true)), false⟩,
                ⟨(some 60), .pick (.t 53) (.t 59) (.c (.bool false)), none, false⟩,
                ⟨(some 61), .mov (.t 60), none, false⟩,
                ⟨(some 62), .mov (.t 5), (some (61, true)), false⟩,
                ⟨(some 63), .bin .lss (.t 62) (.c (.int .i64 65)), (some (61, true)), false⟩,
                ⟨(some 64), .mov (.t 63), (some (61, true)), false⟩,
                ⟨(some 65), .mov (.t 5), (some (64, false)), false⟩,
                ⟨(some 66), .bin .gtr (.t 65) (.c (.int .i64 90)), (some (64, false)), false⟩,
                ⟨(some 67), .pick (.t 64) (.c (.bool true)) (.t 66), (some (61, true)), false⟩,
                ⟨(some 68), .pick (.t 61) (.t 67) (.c (.bool false)), none, false⟩,
                ⟨(some 69), .mov (.t 68), none, false⟩,
                ⟨(some 70), .mov (.t 5), (some (69, true)), false⟩,
                ⟨(some 71), .bin .lss (.t 70) (.c (.int .i64 97)), (some (69, true)), false⟩,
                ⟨(some 72), .mov (.t 71), (some (69, true)), false⟩,
                ⟨(some 73), .mov (.t 5), (some (72, false)), false⟩,
                ⟨(some 74), .bin .gtr (.t 73) (.c (.int .i64 122)), (some (72, false)), false⟩,
                ⟨(some 75), .pick (.t 72) (.c (.bool true)) (.t 74), (some (69, true)), false⟩,
                ⟨(some 76), .pick (.t 69) (.t 75) (.c (.bool false)), none, false⟩])
              (.cond (.t 76) (.seq (.region [
                  ⟨(some 2), .mov (.c (.bool false)), none, false⟩])
                (.ret))
               (.skip)))))
           (.region [
             ⟨(some 41), .mov (.t 4), none, false⟩,
             ⟨(some 42), .bin .add (.t 41) (.c (.int .i64 1)), none, false⟩,
             ⟨(some 4), .mov (.t 42), none, false⟩]))
theorem ev126 (s : List UInt8) (hs : s.length ≤ 1000000) : Ev E 126 [.str s] (.bool (nameB s)) := by
  refine Ev_wpK (af := F126) rfl ?_
  simp [F126]
  refine kS_ev (ev172 s hs) (by simp) rfl rfl ?_
  have hl := runesI_len s
  unfold nameB nmOk
  generalize hr : runesI s = l at *
  simp [retA, toksRes, V.toks, V.tok, inRes, inTop, inLeaf]
  by_cases a1 : (l.length : Int) < 1
  · simp [a1]
    exact endV_1 rfl (by simp; omega) rfl
  by_cases a2 : 20 < (l.length : Int)
  · simp [a1, a2]
    exact endV_1 rfl (by simp; omega) rfl
  have h0 : 0 < l.length := by omega
  have hh := headD_get h0
  simp [a1, a2]
  refine kS_ev (ev173 s) (by simp) rfl rfl ?_
  cases b1 : resB s
  case true =>
    simp
    exact endV_1 rfl (by simp) rfl
  simp
  refine kS_ev (ev174 s hs) (by simp) rfl rfl ?_
  cases b2 : Lib.validD s
  case false =>
    simp
    exact endV_1 rfl (by simp) rfl
  have goon : ∀ {st : St}, st.df = [] → st.tm 4 = .int .i64 0 → st.tm 3 = .sl (some (128, 1)) false l.length (l.flatMap intC) → headDig l = false →
      wpC E noYF (.loop L126) st (kBlk 0 (kSeq E noYF (.seq (.region [⟨(some 2), .mov (.c (.bool true)), none, false⟩]) (.ret)) (kEnd [.t 2] (.bool (!false && true && (decide (1 ≤ l.length) && decide (l.length ≤ 20) && !(headDig l) && l.all partB)))))) := by
    intro st hd h4 h3 hg
    refine wp_loopUp [(2, 2), (4, 5), (37, 76)] l.length (fun i s => s.tm 4 = .int .i64 i ∧ ∀ j (hj : j < l.length), j < i → partB l[j] = true) rfl rfl ⟨by simp [h4], fun j _ h => by omega⟩ ?_
    rintro i s hi ⟨h4, hb⟩ f
    have f3 : s.tm 3 = .sl (some (128, 1)) false l.length (l.flatMap intC) := by rw [f.t 3 (by simp)]; simp [h3]
    by_cases hlt : i < l.length
    · have hw := wrapU hlt (by omega)
      obtain ⟨c, hc⟩ : ∃ c, l[i] = c := ⟨_, rfl⟩
      have hi0 := int_at l hlt
      rw [hc] at hi0
      rcases part_cases c with ⟨hp, q⟩ | ⟨hp, q⟩
      · rcases q with q | q | q | q | q
        all_goals
          simp (disch := omega) [L126, h4, f3, hlt, idx_sl intC_len, hi0, dlt_t, dlt_f, dne_t]
          exact endV_1 (by simp [f.d, hd]) (by simp [all_not hlt (hc ▸ hp)]) rfl
      · rcases q with q | q | q | q | q
        all_goals
          simp (disch := omega) [L126, h4, f3, hlt, idx_sl intC_len, hi0, dlt_t, dlt_f, dne_t, dne_f, hw]
          intro j hj hji
          rcases Nat.lt_succ_iff_lt_or_eq.1 hji with h | rfl
          · exact hb j hj h
          · exact hc ▸ hp
    · have : i = l.length := by omega
      subst this
      simp [L126, h4, f3]
      exact endV_1 (by simp [f.d, hd]) (by simp [hg, all_at (fun j hj => hb j hj hj)]; omega) rfl
  obtain ⟨c, hc⟩ : ∃ c, l[0] = c := ⟨_, rfl⟩
  have hi0 := int_at l h0
  rw [hc] at hh hi0
  by_cases d1 : 48 ≤ c
  · by_cases d2 : c ≤ 57
    · simp [idx_sl0 intC_len _ _ l _ h0, hi0, d1, d2]
      exact endV_1 rfl (by simp [hh, digitB, d1, d2]) rfl
    simp [idx_sl0 intC_len _ _ l _ h0, hi0, d1, d2]
    exact goon rfl (by simp) (by simp) (by simp [hh, digitB, d2])
  simp [idx_sl0 intC_len _ _ l _ h0, hi0, d1]
  exact goon rfl (by simp) (by simp) (by simp [hh, digitB, d1])
end Go.Pv.T

/- Order and tables, the reference's; names, the program's. -/
namespace Go.Pv.T
open Go Go.Pv

theorem cmpI_lt (a b : Int) : (cmpI a b < 0) = (a < b) := by
  unfold cmpI
  split
  · simp [*]
  · split <;> simp [*]
theorem cmpI_z {a b : Int} : cmpI a b = 0 ↔ a = b := by
  unfold cmpI
  split
  · simp; omega
  · split
    · simp; omega
    · simp; omega
theorem ev127 (a b : List UInt8) (ha : a.length ≤ 1000000) (hb : b.length ≤ 1000000) : Ev E 127 [.str a, .str b] (.bool (lessB a b)) := by
  refine Ev_wpK (af := F127) rfl ?_
  simp [F127]
  refine kS_ev (ev172 a ha) (by simp) rfl rfl ?_
  have hxl := runesI_len a
  have hyl := runesI_len b
  unfold lessB
  simp [retA, toksRes, V.toks, V.tok, inRes, inTop, inLeaf]
  refine kS_ev (ev172 b hb) (by simp) rfl rfl ?_
  generalize runesI a = x at *
  generalize runesI b = y at *
  simp [retA, toksRes, V.toks, V.tok, inRes, inTop, inLeaf]
  refine wp_loopUp [(4, 4), (7, 7), (12, 41)] x.length (fun i s => s.tm 7 = .int .i64 i ∧ i ≤ y.length ∧ cmpL (x.drop i) (y.drop i) = cmpL x y) rfl rfl ⟨by simp, by simp, by simp⟩ ?_
  rintro i s hi ⟨h7, hiy, hc⟩ f
  have f5 : s.tm 5 = .sl (some (128, 1)) false x.length (x.flatMap intC) := by rw [f.t 5 (by simp)]; simp
  have f6 : s.tm 6 = .sl (some (256, 1)) false y.length (y.flatMap intC) := by rw [f.t 6 (by simp)]; simp
  have fd : s.df = [] := by rw [f.d]; simp
  clear f
  by_cases hlt : i < x.length
  · by_cases hly : i < y.length
    · have hw := wrapU hlt (by omega)
      rw [List.drop_eq_getElem_cons hlt, List.drop_eq_getElem_cons hly, cmpL] at hc
      obtain ⟨c, hxc⟩ : ∃ c, x[i] = c := ⟨_, rfl⟩
      obtain ⟨d, hyd⟩ : ∃ d, y[i] = d := ⟨_, rfl⟩
      have hx0 := int_at x hlt
      have hy0 := int_at y hly
      rw [hxc] at hc hx0
      rw [hyd] at hc hy0
      by_cases he : c = d
      · rw [if_pos (cmpI_z.2 he)] at hc
        simp [h7, f5, f6, hlt, hly, idx_sl intC_len, hx0, hy0, he, hw]
        exact ⟨by omega, hc⟩
      · rw [if_neg (fun h => he (cmpI_z.1 h))] at hc
        have he' : (c != d) = true := by simpa using he
        simp [h7, f5, f6, hlt, hly, idx_sl intC_len, hx0, hy0, he']
        exact endV_1 (by simp [fd]) (by simp [← hc, cmpI_lt]) rfl
    · have e : y.drop i = [] := List.drop_of_length_le (by omega)
      rw [List.drop_eq_getElem_cons hlt, e, cmpL] at hc
      have hnl : ¬ x.length < y.length := by omega
      simp [h7, f5, f6, hlt, hly]
      exact endV_1 (by simp [fd]) (by simp [← hc, hnl]) rfl
  · have : i = x.length := by omega
    subst this
    rw [List.drop_length] at hc
    simp [h7, f5, f6]
    by_cases hly : x.length < y.length
    · rw [List.drop_eq_getElem_cons hly, cmpL] at hc
      exact endV_1 (by simp [fd]) (by simp [← hc, hly]) rfl
    · rw [List.drop_of_length_le (by omega : y.length ≤ x.length), cmpL] at hc
      exact endV_1 (by simp [fd]) (by simp [← hc, hly]) rfl

theorem tabB_t {t : List (List UInt8)} (h : ∀ j, j < t.length → okAt t j = true) : tabB t = true := List.all_eq_true.2 fun j hj => h j (List.mem_range.1 hj)
theorem tabB_f {t : List (List UInt8)} {j : Nat} (hj : j < t.length) (h : okAt t j = false) : tabB t = false := List.all_eq_false.2 ⟨j, List.mem_range.2 hj, by rw [h]; decide⟩
theorem getD_lt {α : Type} {l : List α} {i : Nat} {d : α} (h : i < l.length) : l.getD i d = l[i] := by simp [List.getD, h]
theorem wrapP {i : Nat} (h : 0 < i) (hN : i ≤ 1000000000) : IntKind.i64.wrap ((i : Int) - 1) = ((i - 1 : Nat) : Int) := by
  rw [wrap64' (by omega) (by omega)]; omega

theorem ev81 (nl : Bool) (t : List (List UInt8)) (hn : t.length ≤ 1000000) (hl : ∀ s ∈ t, s.length ≤ 1000000) : Ev E 81 [slOf nl strC t] (.bool (tabB t)) := by
  refine Ev_wpK (af := F81) rfl ?_
  simp [F81]
  refine wp_loopUp [(2, 4), (5, 32)] t.length (fun i s => s.tm 3 = .int .i64 i ∧ ∀ j, j < t.length → j < i → okAt t j = true) rfl rfl ⟨by simp, fun j _ h => by omega⟩ ?_
  rintro i s hi ⟨h3, hb⟩ f
  have f0 : s.tm 0 = slOf nl strC t := by rw [f.t 0 (by simp)]; simp
  have fd : s.df = [] := by rw [f.d]; simp
  clear f
  by_cases hlt : i < t.length
  · have hw := wrapU hlt (by omega)
    have hok : okAt t i = (nameB t[i] && (i == 0 || lessB (t.getD (i - 1) []) t[i])) := by unfold okAt; rw [getD_lt hlt]
    have hsi := hl _ (List.getElem_mem hlt)
    obtain ⟨c, hc⟩ : ∃ c, t[i] = c := ⟨_, rfl⟩
    have ht0 := str_at t hlt
    rw [hc] at hok ht0 hsi
    have step : okAt t i = true → ∀ j, j < t.length → j < i + 1 → okAt t j = true := fun h j hj hji => by
      rcases Nat.lt_succ_iff_lt_or_eq.1 hji with h' | rfl
      · exact hb j hj h'
      · exact h
    simp [h3, f0, hlt, idx_slOf strC_len, ht0]
    refine kD_ev (ev126 c hsi) (by simp) rfl rfl ?_
    cases hnm : nameB c
    · rw [hnm] at hok
      simp
      exact endV_1 (by simp [fd]) (by simp [tabB_f hlt hok]) rfl
    · rw [hnm] at hok
      by_cases h0 : i = 0
      · subst h0
        simp [h3]
        exact ⟨hlt, by decide, fun j hj h => by subst h; exact step (by simp [hok]) 0 hj (by omega)⟩
      · have h0' : 0 < i := by omega
        have hwp := wrapP h0' (by omega)
        have hlp : i - 1 < t.length := by omega
        have hsp := hl _ (List.getElem_mem hlp)
        have ht1 := str_at t hlp
        rw [getD_lt hlp] at hok
        obtain ⟨e, he⟩ : ∃ e, t[i - 1] = e := ⟨_, rfl⟩
        rw [he] at hok ht1 hsp
        simp [h3, f0, h0', hwp, hlp, idx_slOf strC_len, ht1, hlt, ht0]
        refine kD_ev (ev127 e c hsp hsi) (by simp) rfl rfl ?_
        cases hls : lessB e c
        · simp
          exact endV_1 (by simp [fd]) (by simp [tabB_f hlt (by simp [hok, hls, h0])]) rfl
        · simp [h3, hw]
          exact ⟨hlt, step (by simp [hok, hls])⟩
  · have : i = t.length := by omega
    subst this
    simp [h3, f0]
    exact endV_1 (by simp [fd]) (by simp [tabB_t (fun j hj => hb j hj hj)]) rfl
end Go.Pv.T

/- Is a text UTF-8? The library's way. -/
namespace Go.Pv.T
open Go Go.Pv

theorem u64_or {a b : Nat} (ha : a < 2 ^ 64) (hb : b < 2 ^ 64) : binV .or (.int .u64 (a : Int)) (.int .u64 (b : Int)) = some (.int .u64 ((a ||| b : Nat) : Int)) := by
  have h : a ||| b < 2 ^ 64 := Nat.or_lt_two_pow ha hb
  simp only [binV, intBin, if_true]
  have e : (BitVec.ofInt IntKind.u64.bits (a : Int) ||| BitVec.ofInt IntKind.u64.bits (b : Int)).toNat = a ||| b := by
    rw [BitVec.toNat_or, BitVec.ofInt_natCast, BitVec.ofInt_natCast, BitVec.toNat_ofNat, BitVec.toNat_ofNat]
    rw [show IntKind.u64.bits = 64 from rfl, Nat.mod_eq_of_lt ha, Nat.mod_eq_of_lt hb]
  rw [e, IntKind.wrap_u64]
  congr 2
  omega
theorem u64_and {a b : Nat} {m : Int} (hm : m = (b : Int)) (ha : a < 2 ^ 64) (hb : b < 2 ^ 64) : binV .and (.int .u64 (a : Int)) (.int .u64 m) = some (.int .u64 ((a &&& b : Nat) : Int)) := by
  subst hm
  have h : a &&& b < 2 ^ 64 := Nat.and_lt_two_pow _ hb
  simp only [binV, intBin, if_true]
  have e : (BitVec.ofInt IntKind.u64.bits (a : Int) &&& BitVec.ofInt IntKind.u64.bits (b : Int)).toNat = a &&& b := by
    rw [BitVec.toNat_and, BitVec.ofInt_natCast, BitVec.ofInt_natCast, BitVec.toNat_ofNat, BitVec.toNat_ofNat]
    rw [show IntKind.u64.bits = 64 from rfl, Nat.mod_eq_of_lt ha, Nat.mod_eq_of_lt hb]
  rw [e, IntKind.wrap_u64]
  congr 2
  omega
theorem u64_shl {a k : Nat} {m : Int} (hm : m = (k : Int)) (hk : k ≤ 64) (h : a * 2 ^ k < 2 ^ 64) : binV .shl (.int .u64 (a : Int)) (.int .u64 m) = some (.int .u64 ((a * 2 ^ k : Nat) : Int)) := by
  subst hm
  simp only [binV, shiftBin]
  rw [if_neg (by omega)]
  simp only [Int.toNat_natCast, show IntKind.u64.bits = 64 from rfl, Nat.min_eq_left hk]
  rw [IntKind.wrap_u64]
  congr 2
  have : ((a : Int) * 2 ^ k) = ((a * 2 ^ k : Nat) : Int) := by simp
  rw [this]
  omega
theorem slStr_from {l : List UInt8} {kk : IntKind} {k : Nat} {x : Int} (hx : x = (k : Int)) (h : k ≤ l.length) : slStrV (some (.int kk x)) none (.str l) = some (.str (l.drop k)) := by
  subst hx
  simp [slStrV, bounds, h]
def wd (l : List UInt8) : Nat := Lib.leNat (l.take 8)
theorem or_add (a b k : Nat) (h : a < 2 ^ k) : a ||| b * 2 ^ k = a + b * 2 ^ k := by
  have := Nat.shiftLeft_add_eq_or_of_lt h b
  rw [Nat.shiftLeft_eq] at this
  rw [Nat.or_comm, ← this, Nat.add_comm]
theorem wd_8 (a b c d e f g h : UInt8) (t : List UInt8) : wd (a :: b :: c :: d :: e :: f :: g :: h :: t) =
    a.toNat + b.toNat * 2 ^ 8 + c.toNat * 2 ^ 16 + d.toNat * 2 ^ 24 + e.toNat * 2 ^ 32 + f.toNat * 2 ^ 40 + g.toNat * 2 ^ 48 + h.toNat * 2 ^ 56 := by
  simp only [wd, List.take, Lib.leNat]
  omega
theorem shl_ex (x : UInt8) (k : Nat) {m : Int} (hm : m = (k : Int)) (hk : k ≤ 56) : ∃ B : Nat, B = x.toNat * 2 ^ k ∧ binV .shl (.int .u64 (x.toNat : Int)) (.int .u64 m) = some (.int .u64 (B : Int)) := by
  have hx := x.toNat_lt
  have h1 : x.toNat * 2 ^ k < 2 ^ 64 := by
    calc x.toNat * 2 ^ k < 2 ^ 8 * 2 ^ k := Nat.mul_lt_mul_of_pos_right hx (Nat.two_pow_pos k)
      _ = 2 ^ (8 + k) := (Nat.pow_add ..).symm
      _ ≤ 2 ^ 64 := Nat.pow_le_pow_right (by decide) (by omega)
  exact ⟨_, rfl, u64_shl hm (by omega) h1⟩
theorem or_ex {O B : Nat} (k c : Nat) (h : O < 2 ^ k) (hB : B = c * 2 ^ k) (hc : c < 2 ^ 8) (hk : k ≤ 56) : ∃ O' : Nat, O' = O + B ∧ O' < 2 ^ (k + 8) ∧ binV .or (.int .u64 (O : Int)) (.int .u64 (B : Int)) = some (.int .u64 (O' : Int)) := by
  have h2 : B + 2 ^ k ≤ 2 ^ (k + 8) := by
    rw [hB, Nat.pow_add, Nat.mul_comm (2 ^ k), ← Nat.succ_mul]
    exact Nat.mul_le_mul_right _ hc
  have h3 : 2 ^ (k + 8) ≤ 2 ^ 64 := Nat.pow_le_pow_right (by decide) (by omega)
  refine ⟨O + B, rfl, by omega, ?_⟩
  rw [u64_or (by omega) (by omega), hB, or_add _ _ _ h]
theorem ev252 (l : List UInt8) (hl : 8 ≤ l.length) : Ev E 252 [.str l] (.int .u64 (wd l)) := by
  match l, hl with
  | a :: b :: c :: d :: e :: f :: g :: h :: t, _ =>
    rw [wd_8]
    have l0 := a.toNat_lt
    have l1 := b.toNat_lt
    have l2 := c.toNat_lt
    have l3 := d.toNat_lt
    have l4 := e.toNat_lt
    have l5 := f.toNat_lt
    have l6 := g.toNat_lt
    have l7 := h.toNat_lt
    refine Ev_wpK (af := F252) rfl ?_
    have cv : ∀ x : UInt8, convV .u64 (.int .u8 (x.toNat : Int)) = some (.int .u64 (x.toNat : Int)) := fun x => by
      have := x.toNat_lt
      simp only [convV, IntKind.wrap_u64]
      congr 2
      omega
    have iv : ∀ (s : List UInt8) (i : Nat) (x : UInt8) (y : Int), y = (i : Int) → s[i]? = some x → idxStrV (.str s) (.int .i64 y) = some (.int .u8 (x.toNat : Int)) := by
      intro s i x y hy hx
      subst hy
      simp [idxStrV, hx]
    have i0 := iv (a :: b :: c :: d :: e :: f :: g :: h :: t) 0 a 0 rfl rfl
    have i1 := iv (a :: b :: c :: d :: e :: f :: g :: h :: t) 1 b 1 rfl rfl
    have i2 := iv (a :: b :: c :: d :: e :: f :: g :: h :: t) 2 c 2 rfl rfl
    have i3 := iv (a :: b :: c :: d :: e :: f :: g :: h :: t) 3 d 3 rfl rfl
    have i4 := iv (a :: b :: c :: d :: e :: f :: g :: h :: t) 4 e 4 rfl rfl
    have i5 := iv (a :: b :: c :: d :: e :: f :: g :: h :: t) 5 f 5 rfl rfl
    have i6 := iv (a :: b :: c :: d :: e :: f :: g :: h :: t) 6 g 6 rfl rfl
    have i7 := iv (a :: b :: c :: d :: e :: f :: g :: h :: t) 7 h 7 rfl rfl
    obtain ⟨B1, hB1, s1⟩ := shl_ex b 8 (m := 8) rfl (by decide)
    obtain ⟨B2, hB2, s2⟩ := shl_ex c 16 (m := 16) rfl (by decide)
    obtain ⟨B3, hB3, s3⟩ := shl_ex d 24 (m := 24) rfl (by decide)
    obtain ⟨B4, hB4, s4⟩ := shl_ex e 32 (m := 32) rfl (by decide)
    obtain ⟨B5, hB5, s5⟩ := shl_ex f 40 (m := 40) rfl (by decide)
    obtain ⟨B6, hB6, s6⟩ := shl_ex g 48 (m := 48) rfl (by decide)
    obtain ⟨B7, hB7, s7⟩ := shl_ex h 56 (m := 56) rfl (by decide)
    obtain ⟨O1, hO1, q1, o1⟩ := or_ex (O := a.toNat) 8 _ l0 hB1 l1 (by decide)
    obtain ⟨O2, hO2, q2, o2⟩ := or_ex (O := O1) 16 _ q1 hB2 l2 (by decide)
    obtain ⟨O3, hO3, q3, o3⟩ := or_ex (O := O2) 24 _ q2 hB3 l3 (by decide)
    obtain ⟨O4, hO4, q4, o4⟩ := or_ex (O := O3) 32 _ q3 hB4 l4 (by decide)
    obtain ⟨O5, hO5, q5, o5⟩ := or_ex (O := O4) 40 _ q4 hB5 l5 (by decide)
    obtain ⟨O6, hO6, q6, o6⟩ := or_ex (O := O5) 48 _ q5 hB6 l6 (by decide)
    obtain ⟨O7, hO7, q7, o7⟩ := or_ex (O := O6) 56 _ q6 hB7 l7 (by decide)
    have tot : O7 = a.toNat + b.toNat * 2 ^ 8 + c.toNat * 2 ^ 16 + d.toNat * 2 ^ 24 + e.toNat * 2 ^ 32 + f.toNat * 2 ^ 40 + g.toNat * 2 ^ 48 + h.toNat * 2 ^ 56 := by omega
    rw [← tot]
    clear tot hB1 hB2 hB3 hB4 hB5 hB6 hB7 hO7 q7 hO6 q6 hO5 q5 hO4 q4 hO3 q3 hO2 q2 hO1 q1
    simp [F252, cv, i0, i1, i2, i3, i4, i5, i6, i7, s1, o1, s2, o2, s3, o3, s4, o4, s5, o5, s6, o6, s7, o7]
    exact endV_1 rfl (by simp) rfl
end Go.Pv.T

/- utf8.ValidString. -/
namespace Go.Pv.T
open Go Go.Pv

theorem eval_g1 (tm : Nat → V) : eval E tm (.g 1) = .eptr utf8first 0 := rfl
theorem eval_g2 (tm : Nat → V) : eval E tm (.g 2) = .eptr accR 0 := rfl
theorem first_at (b : Nat) (h : b < 256) : utf8first[b]? = some (.int .u8 (Lib.firstT b : Nat)) := by
  unfold utf8first
  rw [List.getElem?_map, List.getElem?_range h]
  rfl
theorem acc_at (y : Nat) (h : y < 16) : (accR.drop (y * 2)).take 2 = [.int .u8 (Lib.accLo y : Nat), .int .u8 (Lib.accHi y : Nat)] := by
  have : y = 0 ∨ y = 1 ∨ y = 2 ∨ y = 3 ∨ y = 4 ∨ y = 5 ∨ y = 6 ∨ y = 7 ∨ y = 8 ∨ y = 9 ∨ y = 10 ∨ y = 11 ∨ y = 12 ∨ y = 13 ∨ y = 14 ∨ y = 15 := by omega
  rcases this with h | h | h | h | h | h | h | h | h | h | h | h | h | h | h | h <;> subst h <;> rfl
theorem and7 : ∀ x : Fin 256, IntKind.u8.wrap ((BitVec.ofInt IntKind.u8.bits ((x.val : Nat) : Int) &&& BitVec.ofInt IntKind.u8.bits 7).toNat : Int) = ((x.val % 8 : Nat) : Int) := by decide +kernel
theorem u8_and7 (x : Nat) (h : x < 256) : binV .and (.int .u8 (x : Int)) (.int .u8 7) = some (.int .u8 ((x % 8 : Nat) : Int)) := by
  simp only [binV, intBin, if_true]
  have := and7 ⟨x, h⟩
  simp only at this
  rw [this]
theorem u8_shr4 (x : Nat) (h : x < 256) : binV .shr (.int .u8 (x : Int)) (.int .u64 4) = some (.int .u8 ((x / 16 : Nat) : Int)) := by
  simp only [binV, shiftBin]
  rw [if_neg (by decide)]
  have e : min (Int.toNat 4) IntKind.u8.bits = 4 := by decide
  rw [e]
  congr 2
  rw [Int.fdiv_eq_ediv_of_nonneg _ (by decide)]
  omega
theorem first_lt (b : Nat) : Lib.firstT b < 256 := by unfold Lib.firstT; repeat' split
                                                      all_goals omega
abbrev M8 : Nat := 9259542123273814144
theorem wd_lt (l : List UInt8) : wd l < 2 ^ 64 := by
  have h := Lib.leNat_lt (l.take 8)
  have h2 : (256 : Nat) ^ (l.take 8).length ≤ 256 ^ 8 := Nat.pow_le_pow_right (by decide) (by rw [List.length_take]; omega)
  have h3 : (256 : Nat) ^ 8 = 2 ^ 64 := by decide
  unfold wd
  omega
theorem wd_ascii {l : List UInt8} (h8 : 8 ≤ l.length) (h : wd l &&& M8 = 0) : Lib.validD l = Lib.validD (l.drop 8) := by
  have e : (l.take 8).length = 8 := by rw [List.length_take]; omega
  have := (Lib.leNat_mask (l.take 8)).1 (by rw [e, Lib.maskN8]; exact h)
  exact Lib.validD_ascii 8 l this
theorem and_ex (w : Nat) (hw : w < 2 ^ 64) : ∃ q : Nat, q = w &&& M8 ∧ binV .and (.int .u64 (w : Int)) (.int .u64 9259542123273814144) = some (.int .u64 (q : Int)) :=
  ⟨_, rfl, u64_and (b := M8) rfl hw (by decide)⟩
theorem orw_ex {a b : Nat} (ha : a < 2 ^ 64) (hb : b < 2 ^ 64) : ∃ q : Nat, q = a ||| b ∧ q < 2 ^ 64 ∧ binV .or (.int .u64 (a : Int)) (.int .u64 (b : Int)) = some (.int .u64 (q : Int)) :=
  ⟨_, rfl, Nat.or_lt_two_pow ha hb, u64_or ha hb⟩
theorem beq0 (q : Nat) : ((q : Int) == 0) = decide (q = 0) := by
  rw [Bool.eq_iff_iff]; simp

set_option maxRecDepth 100000 in
set_option maxHeartbeats 8000000 in
theorem ev231 (s : List UInt8) (hs : s.length ≤ 1000000) : Ev E 231 [.str s] (.bool (Lib.validD s)) := by
  refine Ev_wpK (af := F231) rfl ?_
  simp [F231]
  refine wp_loopF (n := s.length) [(0, 200)] (fun k st => ∃ l, k = l.length ∧ st.tm 0 = .str l ∧ Lib.validD s = Lib.validD l ∧ l.length ≤ s.length) rfl rfl ⟨s, by simp⟩ ?_
  rintro k st ⟨l, rfl, h0, hv, hl⟩ f
  have fd : st.df = [] := by rw [f.d]; simp
  have fb : st.fb = 0 := by rw [f.b]; simp
  have fr : st.ro = 0 := by rw [f.r]; simp
  clear f
  cases hl0 : l with
  | nil =>
    subst hl0
    simp [h0]
    exact endV_1 (by simp [fd]) (by simp [hv]; rfl) rfl
  | cons b t =>
  rw [← hl0]
  have hlen : l.length = t.length + 1 := by rw [hl0]; rfl
  have hb256 := b.toNat_lt
  have hget : l.getD 0 0 = b := by rw [hl0]; rfl
  have i0 : idxStrV (.str l) (.int .i64 0) = some (.int .u8 (b.toNat : Int)) := by
    have := idxStr_at (s := l) (i := 0) (x := 0) .i64 (by omega) rfl
    rw [hget] at this
    exact this
  have hpos : 0 < l.length := by omega
  by_cases hb : (b.toNat : Int) < 128
  · have hvt : Lib.validD s = Lib.validD t := by rw [hv, hl0, Lib.validD_cons b t (by omega)]
    have d1 : slStrV (some (.int .i64 1)) none (.str l) = some (.str t) := by
      rw [slStr_from (k := 1) (x := 1) rfl (by omega : 1 ≤ l.length), hl0]; rfl
    by_cases h8 : 8 < (t.length : Int)
    · obtain ⟨w, hw⟩ : ∃ w, wd t = w := ⟨_, rfl⟩
      have hwl : w < 2 ^ 64 := hw ▸ wd_lt t
      obtain ⟨q, hq, aq⟩ := and_ex w hwl
      simp [h0, hpos, i0, hb, d1, h8]
      refine kS_ev (ev252 t (by omega)) (by simp) rfl rfl ?_
      rw [hw]
      by_cases hq0 : q = 0
      · have hv8 : Lib.validD s = Lib.validD (t.drop 8) := by rw [hvt, wd_ascii (by omega) (by rw [hw, ← hq, hq0])]
        have d8 : slStrV (some (.int .i64 8)) none (.str t) = some (.str (t.drop 8)) := slStr_from (k := 8) rfl (by omega)
        have hl8 : (t.drop 8).length = t.length - 8 := List.length_drop
        obtain ⟨u, hu⟩ : ∃ u, t.drop 8 = u := ⟨_, rfl⟩
        rw [hu] at hv8 d8 hl8
        simp [aq, hq0, d8]
        by_cases h16 : 16 < (u.length : Int)
        · have d8u : slStrV (some (.int .i64 8)) none (.str u) = some (.str (u.drop 8)) := slStr_from (k := 8) rfl (by omega)
          have d16 : slStrV (some (.int .i64 16)) none (.str u) = some (.str (u.drop 16)) := slStr_from (k := 16) rfl (by omega)
          have hlu : (u.drop 8).length = u.length - 8 := List.length_drop
          obtain ⟨w1, hw1⟩ : ∃ w, wd u = w := ⟨_, rfl⟩
          obtain ⟨w2, hw2⟩ : ∃ w, wd (u.drop 8) = w := ⟨_, rfl⟩
          obtain ⟨o, ho, hol, oo⟩ := orw_ex (hw1 ▸ wd_lt u) (hw2 ▸ wd_lt (u.drop 8))
          obtain ⟨q2, hq2, aq2⟩ := and_ex o hol
          have e1 := ev252 u (by omega)
          have e2 := ev252 (u.drop 8) (by omega)
          rw [hw1] at e1
          rw [hw2] at e2
          obtain ⟨u8, hu8⟩ : ∃ x, u.drop 8 = x := ⟨_, rfl⟩
          rw [hu8] at d8u e2 hlu
          simp [h16]
          refine kD_ev e1 (by simp) rfl rfl ?_
          simp [d8u]
          refine kD_ev e2 (by simp) rfl rfl ?_
          by_cases hq20 : q2 = 0
          · have hb2 := (Lib.or_mask w1 w2 M8).1 (by rw [← ho, ← hq2, hq20])
            have hv16 : Lib.validD s = Lib.validD (u.drop 16) := by
              rw [hv8, wd_ascii (by omega) (by rw [hw1]; exact hb2.1), hu8, wd_ascii (by omega) (by rw [← hu8, hw2]; exact hb2.2), ← hu8, List.drop_drop]
            have hl16 : (u.drop 16).length = u.length - 16 := List.length_drop
            obtain ⟨v, hv'⟩ : ∃ x, u.drop 16 = x := ⟨_, rfl⟩
            rw [hv'] at d16 hv16 hl16
            simp [oo, aq2, hq20, d16]
            refine wp_loopF (n := v.length) [(0, 0), (42, 64)] (fun k st => ∃ x, k = x.length ∧ st.tm 0 = .str x ∧ Lib.validD s = Lib.validD x ∧ x.length ≤ v.length) rfl rfl ⟨v, by simp [hv16]⟩ ?_
            rintro k st' ⟨x, rfl, g0, gv, gl⟩ _
            by_cases h32 : 32 < (x.length : Int)
            · have d8x : slStrV (some (.int .i64 8)) none (.str x) = some (.str (x.drop 8)) := slStr_from (k := 8) rfl (by omega)
              have d16x : slStrV (some (.int .i64 16)) none (.str x) = some (.str (x.drop 16)) := slStr_from (k := 16) rfl (by omega)
              have d24x : slStrV (some (.int .i64 24)) none (.str x) = some (.str (x.drop 24)) := slStr_from (k := 24) rfl (by omega)
              have d32x : slStrV (some (.int .i64 32)) none (.str x) = some (.str (x.drop 32)) := slStr_from (k := 32) rfl (by omega)
              have hl32 : (x.drop 32).length = x.length - 32 := List.length_drop
              obtain ⟨y0, hy0⟩ : ∃ w, wd x = w := ⟨_, rfl⟩
              obtain ⟨y1, hy1⟩ : ∃ w, wd (x.drop 8) = w := ⟨_, rfl⟩
              obtain ⟨y2, hy2⟩ : ∃ w, wd (x.drop 16) = w := ⟨_, rfl⟩
              obtain ⟨y3, hy3⟩ : ∃ w, wd (x.drop 24) = w := ⟨_, rfl⟩
              obtain ⟨p1, hp1, hp1l, op1⟩ := orw_ex (hy0 ▸ wd_lt x) (hy1 ▸ wd_lt (x.drop 8))
              obtain ⟨p2, hp2, hp2l, op2⟩ := orw_ex (hy2 ▸ wd_lt (x.drop 16)) (hy3 ▸ wd_lt (x.drop 24))
              obtain ⟨p3, hp3, hp3l, op3⟩ := orw_ex hp1l hp2l
              obtain ⟨q3, hq3, aq3⟩ := and_ex p3 hp3l
              have e1 := ev252 x (by omega)
              have e2 := ev252 (x.drop 8) (by rw [List.length_drop]; omega)
              have e3 := ev252 (x.drop 16) (by rw [List.length_drop]; omega)
              have e4 := ev252 (x.drop 24) (by rw [List.length_drop]; omega)
              rw [hy0] at e1
              rw [hy1] at e2
              rw [hy2] at e3
              rw [hy3] at e4
              have hall : q3 = 0 → Lib.validD s = Lib.validD (x.drop 32) := by
                intro hz
                rw [hq3, hp3, Lib.or_mask, hp1, hp2, Lib.or_mask, Lib.or_mask] at hz
                obtain ⟨⟨z0, z1⟩, z2, z3⟩ := hz
                rw [gv, wd_ascii (by omega) (by rw [hy0]; exact z0), wd_ascii (by rw [List.length_drop]; omega) (by rw [hy1]; exact z1), List.drop_drop,
                  wd_ascii (by rw [List.length_drop]; omega) (by rw [hy2]; exact z2), List.drop_drop, wd_ascii (by rw [List.length_drop]; omega) (by rw [hy3]; exact z3), List.drop_drop]
              clear hy0 hy1 hy2 hy3 hp1 hp2 hp3 hq3
              obtain ⟨x8, hx8⟩ : ∃ z, x.drop 8 = z := ⟨_, rfl⟩
              obtain ⟨x16, hx16⟩ : ∃ z, x.drop 16 = z := ⟨_, rfl⟩
              obtain ⟨x24, hx24⟩ : ∃ z, x.drop 24 = z := ⟨_, rfl⟩
              obtain ⟨x32, hx32⟩ : ∃ z, x.drop 32 = z := ⟨_, rfl⟩
              rw [hx8] at d8x e2
              rw [hx16] at d16x e3
              rw [hx24] at d24x e4
              rw [hx32] at d32x hl32 hall
              simp [g0, h32]
              refine kD_ev e1 (by simp) rfl rfl ?_
              simp [d8x, g0]
              refine kD_ev e2 (by simp) rfl rfl ?_
              simp [d16x, op1, g0]
              refine kD_ev e3 (by simp) rfl rfl ?_
              simp [d24x, g0]
              refine kD_ev e4 (by simp) rfl rfl ?_
              by_cases hq30 : q3 = 0
              · simp [op2, op3, aq3, hq30, d32x, g0]
                exact ⟨x32.length, by omega, x32, rfl, rfl, hall hq30, by omega⟩
              · simp [op2, op3, aq3, beq0, hq30, g0]
                exact ⟨x.length, by omega, x, rfl, rfl, gv, by omega⟩
            · simp [g0, h32]
              exact ⟨x.length, by omega, x, rfl, rfl, gv, by omega⟩
          · simp [oo, aq2, beq0, hq20]
            exact ⟨u.length, by omega, u, rfl, rfl, hv8, by omega⟩
        · simp [h16]
          exact ⟨u.length, by omega, u, rfl, rfl, hv8, by omega⟩
      · simp [aq, beq0, hq0]
        exact ⟨t.length, by omega, t, rfl, rfl, hvt, by omega⟩
    · simp [h0, hpos, i0, hb, d1, h8]
      exact ⟨t.length, by omega, t, rfl, rfl, hvt, by omega⟩
  · have hlead := Lib.validD_lead l (by rw [hl0]; simp) (by rw [hget]; omega)
    rw [hget] at hlead
    rw [← hv] at hlead
    obtain ⟨x, hx⟩ : ∃ x, Lib.firstT b.toNat = x := ⟨_, rfl⟩
    have hx256 : x < 256 := hx ▸ first_lt _
    have ld1 := first_at b.toNat b.toNat_lt
    have ia1 : idxArrV 256 1 (.eptr utf8first 0) (.int .u8 (b.toNat : Int)) = some (.eptr utf8first b.toNat) := by
      simp only [idxArrV]
      rw [if_pos (by omega)]
      simp
    have a7 := u8_and7 x hx256
    have s4 := u8_shr4 x hx256
    obtain ⟨y, hy⟩ : ∃ y, x / 16 = y := ⟨_, rfl⟩
    obtain ⟨sz, hsz⟩ : ∃ y, x % 8 = y := ⟨_, rfl⟩
    have hy16 : y < 16 := by omega
    have ia2 : idxArrV 16 2 (.eptr accR 0) (.int .u8 (y : Int)) = some (.eptr accR (y * 2)) := by
      simp only [idxArrV]
      rw [if_pos (by omega)]
      simp
    have ld2 : ∀ ob, loadV ob (some 2) (.eptr accR (y * 2)) = some (.agg [.int .u8 (Lib.accLo y : Nat), .int .u8 (Lib.accHi y : Nat)]) := fun ob => by
      rw [loadV_e, pick1_some, acc_at y hy16, if_pos (by show y * 2 + 2 ≤ 32; omega)]
    have cv : convV .i64 (.int .u8 (sz : Int)) = some (.int .i64 (sz : Int)) := by simp only [convV]; rw [wrap64' (by omega) (by omega)]
    rw [hx] at hlead ld1
    rw [hsz] at a7 hlead
    rw [hy] at s4 hlead
    have i1 : 1 < l.length → _ := fun h => idxStr_at (s := l) (i := 1) (x := 1) .i64 h rfl
    have i2 : 2 < l.length → _ := fun h => idxStr_at (s := l) (i := 2) (x := 2) .i64 h rfl
    have i3 : 3 < l.length → _ := fun h => idxStr_at (s := l) (i := 3) (x := 3) .i64 h rfl
    generalize (l.getD 1 0).toNat = b1 at *
    generalize (l.getD 2 0).toNat = b2 at *
    generalize (l.getD 3 0).toNat = b3 at *
    generalize Lib.accLo y = lo at *
    generalize Lib.accHi y = hi at *
    simp [h0, hpos, i0, hb, eval_g1, ia1, ld1, a7, cv, s4, eval_g2, ia2, ld2, objCells, fb, fr, splice]
    by_cases hs2 : sz = 2
    · by_cases c0 : (l.length : Int) < 2
      · have hc : Lib.checkN l.length b1 b2 b3 sz lo hi = none := by unfold Lib.checkN; simp [hs2]; omega
        rw [hc] at hlead
        simp [hs2, h0, c0]
        exact endV_1 (by simp [fd]) (by simp [hlead]) rfl
      have i1 := i1 (by omega)
      by_cases c1 : (b1 : Int) < lo
      · have hc : Lib.checkN l.length b1 b2 b3 sz lo hi = none := by unfold Lib.checkN; simp [hs2]; omega
        rw [hc] at hlead
        simp [hs2, h0, objCells, c0, i1, c1]
        exact endV_1 (by simp [fd]) (by simp [hlead]) rfl
      by_cases c2 : (hi : Int) < b1
      · have hc : Lib.checkN l.length b1 b2 b3 sz lo hi = none := by unfold Lib.checkN; simp [hs2]; omega
        rw [hc] at hlead
        simp [hs2, h0, objCells, c0, i1, c1, c2]
        exact endV_1 (by simp [fd]) (by simp [hlead]) rfl
      have hc : Lib.checkN l.length b1 b2 b3 sz lo hi = some 2 := by unfold Lib.checkN; simp [hs2]; omega
      rw [hc] at hlead
      have dd : slStrV (some (.int .i64 2)) none (.str l) = some (.str (l.drop 2)) := slStr_from (k := 2) rfl (by omega)
      simp [hs2, h0, objCells, c0, i1, c1, c2, dd]
      exact ⟨(l.drop 2).length, by rw [List.length_drop]; omega, l.drop 2, by simp, rfl, hlead, by rw [List.length_drop]; omega⟩
    by_cases hs3 : sz = 3
    · by_cases c0 : (l.length : Int) < 3
      · have hc : Lib.checkN l.length b1 b2 b3 sz lo hi = none := by unfold Lib.checkN; simp [hs3]; omega
        rw [hc] at hlead
        simp [hs3, h0, c0]
        exact endV_1 (by simp [fd]) (by simp [hlead]) rfl
      have i1 := i1 (by omega)
      have i2 := i2 (by omega)
      by_cases c1 : (b1 : Int) < lo
      · have hc : Lib.checkN l.length b1 b2 b3 sz lo hi = none := by unfold Lib.checkN; simp [hs3]; omega
        rw [hc] at hlead
        simp [hs3, h0, objCells, c0, i1, c1]
        exact endV_1 (by simp [fd]) (by simp [hlead]) rfl
      by_cases c2 : (hi : Int) < b1
      · have hc : Lib.checkN l.length b1 b2 b3 sz lo hi = none := by unfold Lib.checkN; simp [hs3]; omega
        rw [hc] at hlead
        simp [hs3, h0, objCells, c0, i1, c1, c2]
        exact endV_1 (by simp [fd]) (by simp [hlead]) rfl
      by_cases e2 : (b2 : Int) < 128
      · have hc : Lib.checkN l.length b1 b2 b3 sz lo hi = none := by unfold Lib.checkN; simp [hs3]; omega
        rw [hc] at hlead
        simp [hs3, h0, objCells, c0, i1, i2, c1, c2, e2]
        exact endV_1 (by simp [fd]) (by simp [hlead]) rfl
      by_cases f2 : 191 < (b2 : Int)
      · have hc : Lib.checkN l.length b1 b2 b3 sz lo hi = none := by unfold Lib.checkN; simp [hs3]; omega
        rw [hc] at hlead
        simp [hs3, h0, objCells, c0, i1, i2, c1, c2, e2, f2]
        exact endV_1 (by simp [fd]) (by simp [hlead]) rfl
      have hc : Lib.checkN l.length b1 b2 b3 sz lo hi = some 3 := by unfold Lib.checkN; simp [hs3]; omega
      rw [hc] at hlead
      have dd : slStrV (some (.int .i64 3)) none (.str l) = some (.str (l.drop 3)) := slStr_from (k := 3) rfl (by omega)
      simp [hs3, h0, objCells, c0, i1, i2, c1, c2, e2, f2, dd]
      exact ⟨(l.drop 3).length, by rw [List.length_drop]; omega, l.drop 3, by simp, rfl, hlead, by rw [List.length_drop]; omega⟩
    by_cases hs4 : sz = 4
    · by_cases c0 : (l.length : Int) < 4
      · have hc : Lib.checkN l.length b1 b2 b3 sz lo hi = none := by unfold Lib.checkN; simp [hs4]; omega
        rw [hc] at hlead
        simp [hs4, h0, c0]
        exact endV_1 (by simp [fd]) (by simp [hlead]) rfl
      have i1 := i1 (by omega)
      have i2 := i2 (by omega)
      have i3 := i3 (by omega)
      by_cases c1 : (b1 : Int) < lo
      · have hc : Lib.checkN l.length b1 b2 b3 sz lo hi = none := by unfold Lib.checkN; simp [hs4]; omega
        rw [hc] at hlead
        simp [hs4, h0, objCells, c0, i1, c1]
        exact endV_1 (by simp [fd]) (by simp [hlead]) rfl
      by_cases c2 : (hi : Int) < b1
      · have hc : Lib.checkN l.length b1 b2 b3 sz lo hi = none := by unfold Lib.checkN; simp [hs4]; omega
        rw [hc] at hlead
        simp [hs4, h0, objCells, c0, i1, c1, c2]
        exact endV_1 (by simp [fd]) (by simp [hlead]) rfl
      by_cases e2 : (b2 : Int) < 128
      · have hc : Lib.checkN l.length b1 b2 b3 sz lo hi = none := by unfold Lib.checkN; simp [hs4]; omega
        rw [hc] at hlead
        simp [hs4, h0, objCells, c0, i1, i2, c1, c2, e2]
        exact endV_1 (by simp [fd]) (by simp [hlead]) rfl
      by_cases f2 : 191 < (b2 : Int)
      · have hc : Lib.checkN l.length b1 b2 b3 sz lo hi = none := by unfold Lib.checkN; simp [hs4]; omega
        rw [hc] at hlead
        simp [hs4, h0, objCells, c0, i1, i2, c1, c2, e2, f2]
        exact endV_1 (by simp [fd]) (by simp [hlead]) rfl
      by_cases e3 : (b3 : Int) < 128
      · have hc : Lib.checkN l.length b1 b2 b3 sz lo hi = none := by unfold Lib.checkN; simp [hs4]; omega
        rw [hc] at hlead
        simp [hs4, h0, objCells, c0, i1, i2, i3, c1, c2, e2, f2, e3]
        exact endV_1 (by simp [fd]) (by simp [hlead]) rfl
      by_cases f3 : 191 < (b3 : Int)
      · have hc : Lib.checkN l.length b1 b2 b3 sz lo hi = none := by unfold Lib.checkN; simp [hs4]; omega
        rw [hc] at hlead
        simp [hs4, h0, objCells, c0, i1, i2, i3, c1, c2, e2, f2, e3, f3]
        exact endV_1 (by simp [fd]) (by simp [hlead]) rfl
      have hc : Lib.checkN l.length b1 b2 b3 sz lo hi = some 4 := by unfold Lib.checkN; simp [hs4]; omega
      rw [hc] at hlead
      have dd : slStrV (some (.int .i64 4)) none (.str l) = some (.str (l.drop 4)) := slStr_from (k := 4) rfl (by omega)
      simp [hs4, h0, objCells, c0, i1, i2, i3, c1, c2, e2, f2, e3, f3, dd]
      exact ⟨(l.drop 4).length, by rw [List.length_drop]; omega, l.drop 4, by simp, rfl, hlead, by rw [List.length_drop]; omega⟩
    have hc : Lib.checkN l.length b1 b2 b3 sz lo hi = none := by unfold Lib.checkN; simp [hs2, hs3, hs4]
    rw [hc] at hlead
    have z2 : ((sz : Int) == 2) = false := by simp; omega
    have z3 : ((sz : Int) == 3) = false := by simp; omega
    have z4 : ((sz : Int) == 4) = false := by simp; omega
    simp [z2, z3, z4]
    exact endV_1 (by simp [fd]) (by simp [hlead]) rfl
end Go.Pv.T

/- Names and tables, the program's. -/
namespace Go.Pv.T
open Go Go.Pv

def nmScan : Nat → List Int → Bool
  | n, [] => decide (0 < n) && decide (n ≤ 20)
  | n, c :: l => if !partB c || (decide (n = 0) && digitB c) then false else nmScan (n + 1) l
theorem nmScan_pos : ∀ (l : List Int) (n : Nat), 0 < n → nmScan n l = (l.all partB && decide (n + l.length ≤ 20))
  | [], n, h => by simp [nmScan, h]
  | c :: l, n, h => by
    have h0 : ¬ n = 0 := by omega
    rw [nmScan, nmScan_pos l (n + 1) (by omega)]
    cases hp : partB c
    · simp [hp]
    · simp only [hp, h0, decide_false, Bool.false_and, Bool.or_false, Bool.not_true, Bool.false_eq_true, if_false, List.all_cons, Bool.true_and, List.length_cons]
      congr 2
      exact propext ⟨fun h => by omega, fun h => by omega⟩
theorem nmScan_0 (l : List Int) : nmScan 0 l = nmOk l := by
  cases l with
  | nil => rfl
  | cons c l =>
    rw [nmScan, nmScan_pos l 1 (by omega)]
    unfold nmOk headDig
    have e : decide (1 + l.length ≤ 20) = decide (l.length + 1 ≤ 20) := by rw [Nat.add_comm]
    cases hp : partB c <;> cases hd : digitB c <;> simp [hp, hd, e]
    rw [Bool.and_comm]
theorem kS_next {E : Env} {Yf : YF} {st : St} {ub : Nat} {K : St → Nat → Prop} {d : Option Nat} {nm : Bool} {x : A} {l u pos : Nat} {s : List UInt8} (hx : eval E st.tm x = .iter l u) (ho : st.ob l = some ⟨u, .siter s pos⟩) (hro : st.ro ≤ u)
    (h1 : pos < s.length → kApp K st d ub { v := .tup [.bool true, .int .i64 pos, .int .i32 (rU s pos : Nat)], obs := [(l, ⟨u, .siter s (pos + rW s pos)⟩)] })
    (h2 : ¬ pos < s.length → kSet K st d ub (.tup [.bool false])) : wpStep E Yf ⟨d, .nextStr x, none, nm⟩ st ub K := kS_nextStr hx ho hro h1 h2

theorem ev194 (s : List UInt8) (hs : s.length ≤ 1000000) : Ev E 194 [.str s] (.bool (nameB s)) := by
  refine Ev_wpK (af := F194) rfl ?_
  simp [F194]
  refine kS_ev (ev230 s) (by simp) rfl rfl ?_
  unfold nameB
  cases b1 : resB s
  case true =>
    simp
    exact endV_1 rfl (by simp) rfl
  simp
  refine kS_ev (ev231 s hs) (by simp) rfl rfl ?_
  cases b2 : Lib.validD s
  case false =>
    simp
    exact endV_1 rfl (by simp) rfl
  simp
  rw [← nmScan_0]
  refine wp_loopF (n := s.length) [(2, 3), (5, 5), (15, 30)] (fun k st => ∃ p n u, k = s.length - p ∧ p ≤ s.length ∧ n ≤ p ∧ st.tm 3 = .int .i64 (n : Nat) ∧ st.tm 14 = .iter 28 u ∧ st.ob 28 = some ⟨u, .siter s p⟩ ∧ nmScan 0 (runesI s) = nmScan n (RN s p)) rfl rfl
    ⟨0, 0, 640, by simp [runesI_eq]⟩ ?_
  rintro k st ⟨p, n, u, rfl, hp, hnp, h3, h14, ho, hsc⟩ f
  have fd : st.df = [] := by rw [f.d]; simp
  have fb : st.fb = 0 := by rw [f.b]; simp
  have fr : st.ro = 0 := by rw [f.r]; simp
  clear f
  simp
  refine kS_next (l := 28) (u := u) (pos := p) (s := s) (by simp [h14]) (by simp [ho]) (by simp [fr]) (fun hlt => ?_) (fun hge => ?_)
  · have hw := rW_pos hlt
    rw [RN_step hlt, nmScan] at hsc
    obtain ⟨c, hc⟩ : ∃ c : Int, (rU s p : Int) = c := ⟨_, rfl⟩
    rw [hc] at hsc ⊢
    simp
    refine kS_ev (ev232 c) (by simp) rfl rfl ?_
    cases hpc : partB c
    · rw [hpc] at hsc
      simp
      exact endV_1 (by simp [fd]) (by simp [hsc]) rfl
    · by_cases hn0 : n = 0
      · subst hn0
        simp [h3]
        refine kS_ev (ev233 c) (by simp) rfl rfl ?_
        cases hdc : digitB c
        · simp [h3, h14, hdc, hpc] at hsc ⊢
          exact ⟨s.length - (p + rW s p), by omega, p + rW s p, rfl, by omega, 1, by omega, by decide, rfl, hsc⟩
        · simp [hdc, hpc] at hsc ⊢
          exact endV_1 (by simp [fd]) (by simp [hsc]) rfl
      · simp [h3, h14, hpc, beq0, hn0] at hsc ⊢
        exact ⟨s.length - (p + rW s p), by omega, p + rW s p, rfl, by omega, n + 1, by omega, by rw [wrap64' (by omega) (by omega)]; simp, rfl, hsc⟩
  · have : p = s.length := by omega
    subst this
    rw [RN_end (Nat.le_refl _), nmScan] at hsc
    by_cases hn0 : 0 < n
    · simp [h3, hn0] at hsc ⊢
      exact endV_1 (by simp [fd]) (by simp [hsc]; omega) rfl
    · simp [h3, hn0] at hsc ⊢
      exact endV_1 (by simp [fd]) (by simp [hsc]) rfl
theorem ev153 (nl : Bool) (t : List (List UInt8)) (hn : t.length ≤ 1000000) (hl : ∀ s ∈ t, s.length ≤ 1000000) : Ev E 153 [slOf nl strC t] (.bool (tabB t)) := by
  refine Ev_wpK (af := F153) rfl ?_
  simp [F153]
  refine wp_loopUp [(2, 4), (7, 29)] t.length (fun i s => s.tm 7 = .int .i64 i ∧ ∀ j, j < t.length → j < i → okAt t j = true) rfl rfl ⟨by simp, fun j _ h => by omega⟩ ?_
  rintro i s hi ⟨h7, hb⟩ f
  have f0 : s.tm 0 = slOf nl strC t := by rw [f.t 0 (by simp)]; simp
  have f5 : s.tm 5 = slOf nl strC t := by rw [f.t 5 (by simp)]; simp
  have f6 : s.tm 6 = .int .i64 t.length := by rw [f.t 6 (by simp)]; simp
  have fd : s.df = [] := by rw [f.d]; simp
  clear f
  by_cases hlt : i < t.length
  · have hw := wrapU hlt (by omega)
    have hok : okAt t i = (nameB t[i] && (i == 0 || lessB (t.getD (i - 1) []) t[i])) := by unfold okAt; rw [getD_lt hlt]
    have hsi := hl _ (List.getElem_mem hlt)
    obtain ⟨c, hc⟩ : ∃ c, t[i] = c := ⟨_, rfl⟩
    have ht0 := str_at t hlt
    rw [hc] at hok ht0 hsi
    have step : okAt t i = true → ∀ j, j < t.length → j < i + 1 → okAt t j = true := fun h j hj hji => by
      rcases Nat.lt_succ_iff_lt_or_eq.1 hji with h' | rfl
      · exact hb j hj h'
      · exact h
    simp [h7, f5, f6, hlt, idx_slOf strC_len, ht0]
    refine kS_ev (ev194 c hsi) (by simp) rfl rfl ?_
    cases hnm : nameB c
    · rw [hnm] at hok
      simp
      exact endV_1 (by simp [fd]) (by simp [tabB_f hlt hok]) rfl
    · rw [hnm] at hok
      by_cases h0 : i = 0
      · subst h0
        simp [h7]
        exact ⟨hlt, by decide, fun j hj h => by subst h; exact step (by simp [hok]) 0 hj (by omega)⟩
      · have h0' : 0 < i := by omega
        have hwp := wrapP h0' (by omega)
        have hlp : i - 1 < t.length := by omega
        have hsp := hl _ (List.getElem_mem hlp)
        have ht1 := str_at t hlp
        rw [getD_lt hlp] at hok
        obtain ⟨e, he⟩ : ∃ e, t[i - 1] = e := ⟨_, rfl⟩
        rw [he] at hok ht1 hsp
        have hle := runesI_len e
        have hlc := runesI_len c
        simp [f0, h0', hwp, hlp, idx_slOf strC_len, ht1]
        refine kS_ev (ev199 e c (by omega) (by omega)) (by simp) rfl rfl ?_
        cases hls : lessB e c
        · have hls' := hls
          unfold lessB at hls'
          rw [hls']
          simp
          exact endV_1 (by simp [fd]) (by simp [tabB_f hlt (by simp [hok, hls, h0])]) rfl
        · have hls' := hls
          unfold lessB at hls'
          rw [hls']
          simp [h7, hw]
          exact ⟨hlt, step (by simp [hok, hls])⟩
  · have : i = t.length := by omega
    subst this
    simp [h7, f6]
    exact endV_1 (by simp [fd]) (by simp [tabB_t (fun j hj => hb j hj hj)]) rfl
end Go.Pv.T

/- A range over all ops of a history, of which no round breaks off; the counts of hist.used. -/
namespace Go.Pv.T
open Go Go.Pv

def Fr1 (n : Nat) (ob ob' : Nat → Option Obj') : Prop := ∀ key, (∀ m, n ≤ m → key ≠ 2 * m + 1) → ob' key = ob key
theorem range_opsN (h : Hist') (hn : h.ts.length ≤ 1000) (hm : ∀ t ∈ h.ts, t.ops.length ≤ 1000000) {as bd : C} {ps : List Nat} (hps : ps.length = 2) (has : as.one = true) (hbd : bd.one = true) {st : St} {f : A} {lh uh : Nat}
    (hf : eval E st.tm f = .fn (.func 146) [] [.ptr lh uh 0]) (oh : st.ob lh = some ⟨uh, .cells (histC h)⟩) (hl1 : lh ≠ 2 * st.nx + 1) (hl3 : lh ≠ 2 * st.nx + 3) (hro : st.ro = 0)
    (J : Nat → Nat → (Nat → Option Obj') → (Nat → Bool) → Nat → Prop) {Q : Ex → St → Prop}
    (hJf : ∀ i k ob ob' tk ub ub', J i k ob tk ub → ub ≤ ub' → Fr1 st.nx ob ob' → J i k ob' tk ub')
    (hnext : ∀ i (hi : i < h.ts.length) ob tk ub, J i (h.ts[i]).ops.length ob tk ub → J (i + 1) 0 ob tk ub)
    (hbody : ∀ i (hi : i < h.ts.length) k (hk : k < (h.ts[i]).ops.length) ob tk ub, J i k ob tk ub → ob (2 * st.nx + 1) = some ⟨st.nx, .loop .ready none⟩ → ob (2 * st.nx + 3) = some ⟨st.nx + 1, .dfr⟩ → st.nx + 64 ≤ ub →
      wpC E noYF as { tm := setPs st.tm ps [.agg [.int .i64 i, .int .i64 k], .agg (opC (h.ts[i]).ops[k])], ob := ob, tk := tk, ro := 0, nx := ub, fb := st.fb, df := [] } fun e s1 => e = .nrm ∧ s1.ob (2 * st.nx + 1) = some ⟨st.nx, .loop .ready none⟩ ∧
        wpC E noYF bd { s1 with ob := upd s1.ob (2 * st.nx + 1) (some ⟨st.nx, .loop .busy none⟩) } fun e s2 => s2.ob (2 * st.nx + 1) = some ⟨st.nx, .loop .busy none⟩ ∧ s2.ob (2 * st.nx + 3) = some ⟨st.nx + 1, .dfr⟩ ∧ st.nx + 64 ≤ s2.nx ∧ e = .nrm ∧ J i (k + 1) s2.ob s2.tk s2.nx)
    (h0 : J 0 0 st.ob st.tk (st.nx + 64))
    (hQ : ∀ ob tk ub, J h.ts.length 0 ob tk ub → ob (2 * st.nx + 3) = some ⟨st.nx + 1, .dfr⟩ → st.nx + 64 ≤ ub → Q .nrm { st with ob := ob, tk := tk, nx := ub, df := (2 * st.nx + 3, st.nx + 1) :: st.df }) :
    wpC E noYF (.rangeFunc f ps as bd) st Q := by
  refine wpC_rangeFunc (g := 146) (first := []) (captured := [.ptr lh uh 0]) hf ?_
  have n13 : ¬ 2 * st.nx + 3 = 2 * st.nx + 1 := by omega
  have n31 : ¬ 2 * st.nx + 1 = 2 * st.nx + 3 := by omega
  have := run146 (Yf := roundF E noYF as bd st ps (2 * st.nx + 1) st.nx) h hn hm (l := 2 * st.nx + 1) (u := st.nx) (lh := lh) (uh := uh)
    (ob0 := upd (upd st.ob (2 * st.nx + 3) (some ⟨st.nx + 1, .dfr⟩)) (2 * st.nx + 1) (some ⟨st.nx, .loop .ready none⟩)) (tk0 := st.tk) (ro := st.ro) (base := (st.fb + 1023) * 1024) (ub0 := st.nx + 64)
    (by simp only [upd_apply, hl1, hl3, if_false, oh]) (by omega)
    (fun i k ob tk ub => J i k ob tk ub ∧ ob (2 * st.nx + 1) = some ⟨st.nx, .loop .ready none⟩ ∧ ob (2 * st.nx + 3) = some ⟨st.nx + 1, .dfr⟩ ∧ st.nx + 64 ≤ ub)
    (fun r => ∃ s pend, r.2.1 (2 * st.nx + 1) = some ⟨st.nx, .loop s pend⟩ ∧ s ≠ .busy ∧ st.ro ≤ st.nx ∧ Q (pend.getD .nrm) { st with ob := fun k => if Nat.beq (2 * st.nx + 1) k then none else r.2.1 k, tk := r.2.2.1, nx := r.2.2.2, df := (2 * st.nx + 3, st.nx + 1) :: st.df })
    ?_ ?_ ?_ ?_ ?_
  · obtain ⟨r, hr, hP⟩ := this
    exact ⟨r, hr, hP⟩
  · rintro i k ob ob' tk ub ub' ⟨g1, g2, g3, g4⟩ hub hfr
    have f : ∀ key, (∀ m, ub ≤ m → key ≠ 2 * m + 1) → ob' key = ob key := hfr
    exact ⟨hJf _ _ _ _ _ _ _ g1 hub (fun key hk => f key (fun m hm => hk m (by omega))), by rw [f _ (fun m hm => by omega)]; exact g2, by rw [f _ (fun m hm => by omega)]; exact g3, by omega⟩
  · rintro i hi ob tk ub ⟨g1, g⟩
    exact ⟨hnext i hi ob tk ub g1, g⟩
  · rintro i hi k hk ob tk ub ⟨g1, g2, g3, g4⟩ hru
    have hb := hbody i hi k hk ob tk ub g1 g2 g3 g4
    have := EvY_round (E := E) (Yf := noYF) (as := as) (bd := bd) (st := st) (ps := ps) (l := 2 * st.nx + 1) (u := st.nx) (xs := [.agg [.int .i64 i, .int .i64 k], .agg (opC (h.ts[i]).ops[k])]) (ob := ob) (tk := tk) (ro := st.ro) (ub := ub)
      (P := fun r => st.ro ≤ r.2.2.2 ∧ r.1 = .bool true ∧ J i (k + 1) r.2.1 r.2.2.1 r.2.2.2 ∧ r.2.1 (2 * st.nx + 1) = some ⟨st.nx, .loop .ready none⟩ ∧ r.2.1 (2 * st.nx + 3) = some ⟨st.nx + 1, .dfr⟩ ∧ st.nx + 64 ≤ r.2.2.2)
      (by simp [hps]) (by omega) g2 has hbd (by
        rw [hro]
        refine wpC_mono (fun e s1 h1 => ?_) hb
        obtain ⟨e1, e2, e3⟩ := h1
        refine ⟨e1, e2, wpC_mono (fun e s2 h2 => ?_) e3⟩
        obtain ⟨k1, k2, k3, k4, k5⟩ := h2
        subst k4
        refine ⟨k1, by omega, rfl, ?_, ?_, ?_, k3⟩
        · exact hJf _ _ _ _ _ _ _ k5 (Nat.le_refl _) (fun key hk => upd_ne _ _ (hk st.nx (Nat.le_refl _)))
        · exact upd_same _ _ _
        · show upd s2.ob _ _ _ = _
          rw [upd_ne _ _ n13]; exact k2)
    obtain ⟨r, hr, p1, p2, p3, p4, p5, p6⟩ := this
    exact ⟨r, hr, p1, .inl ⟨p2, p3, p4, p5, p6⟩⟩
  · rintro ob tk ub ⟨g1, g2, g3, g4⟩
    refine ⟨.ready, none, g2, by simp, by omega, ?_⟩
    have hob : Fr1 st.nx ob (fun k => if Nat.beq (2 * st.nx + 1) k then none else ob k) := fun key hk => away ob (hk st.nx (Nat.le_refl _))
    exact hQ _ _ _ (hJf _ _ _ _ _ _ _ g1 (Nat.le_refl _) hob) ((away ob n13).trans g3) g4
  · refine ⟨hJf _ _ _ _ _ _ _ h0 (Nat.le_refl _) (fun key hk => ?_), upd_same _ _ _, ?_, by omega⟩
    · have h3 := hk (st.nx + 1) (by omega)
      rw [upd_ne _ _ (hk st.nx (Nat.le_refl _)), upd_ne _ _ (by omega)]
    · rw [upd_ne _ _ n13, upd_same]

@[simp] theorem cells_map (l u : Nat) : (V.map l u).cells = [.map l u] := rfl
@[simp] theorem leaf_map (l u : Nat) : (V.map l u).leaf = true := rfl
@[simp] theorem cells_nilmap : V.nilmap.cells = [.nilmap] := rfl
@[simp] theorem leaf_nilmap : V.nilmap.leaf = true := rfl
def headsB (h : Hist') : Bool := tabB h.ss && (tabB h.ks && (decide (h.ss.length ≤ 20) && (decide (h.ks.length ≤ 40) && decide (h.ts.length ≤ 40))))
structure Small (h : Hist') : Prop where
  ss : h.ss.length ≤ 1000
  sl : ∀ s ∈ h.ss, s.length ≤ 1000
  ks : h.ks.length ≤ 1000
  kl : ∀ s ∈ h.ks, s.length ≤ 1000
  ts : h.ts.length ≤ 1000
  os : ∀ t ∈ h.ts, t.ops.length ≤ 1000
theorem ev107 {h : Hist'} (hs : Small h) : Ev E 107 [.agg (histC h)] (.bool (headsB h)) := by
  refine Ev_wpK (af := F107) rfl ?_
  have e1 := ev153 h.sn h.ss (by have := hs.ss; omega) (fun s h => by have := hs.sl s h; omega)
  have e2 := ev153 h.kn h.ks (by have := hs.ks; omega) (fun s h => by have := hs.kl s h; omega)
  simp [F107, histC, objCells]
  refine kS_ev e1 (by simp) rfl rfl ?_
  unfold headsB
  cases b1 : tabB h.ss
  · simp
    exact endV_1 rfl (by simp) rfl
  simp [objCells]
  refine kS_ev e2 (by simp) rfl rfl ?_
  cases b2 : tabB h.ks
  · simp
    exact endV_1 rfl (by simp) rfl
  by_cases b3 : (h.ss.length : Int) ≤ 20
  · by_cases b4 : (h.ks.length : Int) ≤ 40
    · simp [objCells, b3, b4]
      exact endV_1 rfl (by simp [show h.ss.length ≤ 20 by omega, show h.ks.length ≤ 40 by omega]; omega) rfl
    · simp [objCells, b3, b4]
      exact endV_1 rfl (by simp; omega) rfl
  · simp [objCells, b3]
    exact endV_1 rfl (by simp; omega) rfl

def usesS (h : Hist') : List Int := h.ts.map (·.s)
def usesK (h : Hist') : List Int := (opsOf h).map (·.key)
def usedB (h : Hist') : Bool := decide ((dd (usesS h)).length = h.ss.length) && decide ((dd (usesK h)).length = h.ks.length)
def opsTo (h : Hist') (i k : Nat) : List Op' := (h.ts.take i).flatMap (·.ops) ++ (h.ts.getD i ⟨0, 0, true, []⟩).ops.take k
theorem opsTo_step {h : Hist'} {i k : Nat} (hi : i < h.ts.length) (hk : k < (h.ts[i]).ops.length) : opsTo h i (k + 1) = opsTo h i k ++ [(h.ts[i]).ops[k]] := by
  unfold opsTo
  rw [getD_lt hi, List.take_succ_eq_append_getElem hk, List.append_assoc]
theorem opsTo_next {h : Hist'} {i : Nat} (hi : i < h.ts.length) : opsTo h i (h.ts[i]).ops.length = opsTo h (i + 1) 0 := by
  unfold opsTo
  rw [getD_lt hi, List.take_length, List.take_zero, List.append_nil, List.take_succ_eq_append_getElem hi, List.flatMap_append]
  simp
theorem opsTo_end (h : Hist') : opsTo h h.ts.length 0 = opsOf h := by simp [opsTo, opsOf]
theorem opsTo_zero (h : Hist') : opsTo h 0 0 = [] := by simp [opsTo]
theorem endV_df {res : List ARes} {st : St} {l u : Nat} {v : V} (hd : st.df = [(l, u)]) (ho : st.ob l = some ⟨u, .dfr⟩) (hr : st.ro ≤ u)
    (h : endV res (.ret, { st with ob := fun k => if Nat.beq l k then none else st.ob k, df := [] }) = some v) : endV res (.ret, st) = some v := by
  have h1 : dfOk st = true := by
    unfold dfOk
    rw [hd]
    simp only [List.all_cons, List.all_nil, ho, Bool.and_true, List.map_cons, List.map_nil, nodup, List.any_nil, Bool.not_false, Bool.and_eq_true, Nat.beq_refl, true_and]
    exact Nat.ble_eq ▸ hr
  have h2 : st.noDf = { st with ob := fun k => if Nat.beq l k then none else st.ob k, df := [] } := by
    unfold St.noDf
    rw [hd]
    simp
  simp only [endV, h1, h2, if_true]
  simp only [endV] at h
  rw [dfOk_of rfl, noDf_of rfl] at h
  exact h
theorem ev112 {h : Hist'} (hs : Small h) : Ev E 112 [.agg (histC h)] (.bool (usedB h)) := by
  refine Ev_wpK (af := F112) rfl ?_
  have hts := hs.ts
  simp [F112, histC, objCells, splice]
  refine wp_loopUp [(6, 6), (15, 23), (14, 14)] h.ts.length (fun i s => s.tm 14 = .int .i64 i ∧ s.ob 2 = some ⟨0, .cells (histC h)⟩ ∧ s.ob 8 = some ⟨256, .cells [.map 20 192]⟩ ∧ s.ob 20 = some ⟨192, .mp 0 []⟩ ∧
    ∃ ver m, s.ob 18 = some ⟨128, .mp ver (MP intV m)⟩ ∧ m.map (·.1) = dd ((h.ts.take i).map (·.s))) rfl rfl ⟨by simp, by simp [histC], by simp, by simp, 0, [], by simp [MP], by simp [dd]⟩ ?_
  rintro i s hi ⟨h14, o2, o8, o20, ver, m, o18, hm⟩ f
  have f12 : s.tm 12 = slOf h.tn txnC h.ts := by rw [f.t 12 (by simp)]; simp
  have f13 : s.tm 13 = .int .i64 h.ts.length := by rw [f.t 13 (by simp)]; simp
  have f1 : s.tm 1 = .ptr 2 0 0 := by rw [f.t 1 (by simp)]; simp
  have f3 : s.tm 3 = .map 18 128 := by rw [f.t 3 (by simp)]; simp
  have f4 : s.tm 4 = .ptr 8 256 0 := by rw [f.t 4 (by simp)]; simp
  have fd : s.df = [] := by rw [f.d]; simp
  have fb : s.fb = 0 := by rw [f.b]; simp
  have fr : s.ro = 0 := by rw [f.r]; simp
  clear f
  by_cases hlt : i < h.ts.length
  · have hw := wrapU hlt (by omega)
    simp [h14, f12, f13, hlt, idx_slOf txnC_len, load_slOf txnC_len, txnC, objCells, fb, fr, splice, f3, lookupV_MI m, objMap, o18]
    refine kS_mapSet (f := intV) (a := IntKind.i64.wrap (mcnt m h.ts[i].s + 1)) (ver := ver) (l := 18) (u := 128) (k := h.ts[i].s) m (by simp) (by simp) (by simp [intV]) (by simp [o18]) (by simp [fr]) ?_
    simp [h14, hw, o2, o8, o20, histC]
    refine ⟨hlt, ver + 1, mset m h.ts[i].s (IntKind.i64.wrap (mcnt m h.ts[i].s + 1)), by simp, ?_⟩
    rw [mset_keys, hm, ← List.map_take, List.take_succ_eq_append_getElem hlt, List.map_append]
    exact (dd_snoc _ _).symm
  · have : i = h.ts.length := by omega
    subst this
    rw [List.take_length] at hm
    simp [h14, f13]
    simp [f1, o2, objCells, histC]
    refine kS_callS (vs := [.agg (histC h)]) (by simp [histC]) rfl ?_
    obtain ⟨r, hr, e1, e2, e3, e4⟩ := ev102 (Yf := noYF) h s.ob s.tk 0 (26 * 1024) (s.nx + 64 + 64)
    refine ⟨r, by simpa [fr, fb] using hr, ?_⟩
    simp
    refine wpC_gen fun st hst => ?_
    have n2 : ¬ (2 : Nat) = 2 * (s.nx + 64 + 64) + 1 := by omega
    have n8 : ¬ (8 : Nat) = 2 * (s.nx + 64 + 64) + 1 := by omega
    have n18 : ¬ (18 : Nat) = 2 * (s.nx + 64 + 64) + 1 := by omega
    have n20 : ¬ (20 : Nat) = 2 * (s.nx + 64 + 64) + 1 := by omega
    have g25 : st.tm 25 = .fn (.func 146) [] [.ptr (2 * (s.nx + 64 + 64) + 1) (s.nx + 64 + 64) 0] := by rw [hst]; simp [put, e1]
    have g1 : st.tm 1 = .ptr 2 0 0 := by rw [hst]; simp [put, upd_apply, f1]
    have g3 : st.tm 3 = .map 18 128 := by rw [hst]; simp [put, upd_apply, f3]
    have g4 : st.tm 4 = .ptr 8 256 0 := by rw [hst]; simp [put, upd_apply, f4]
    have gd : st.df = [] := by rw [hst]; simp [fd]
    have gb : st.fb = 0 := by rw [hst]; simp [fb]
    have gr : st.ro = 0 := by rw [hst]; simp [fr]
    have gn : st.nx = s.nx + 64 + 64 + 256 := by rw [hst]; simp [e4]
    have p2 : st.ob 2 = some ⟨0, .cells (histC h)⟩ := by rw [hst]; simp only [setN_ob]; rw [e2, if_neg n2]; exact o2
    have p8 : st.ob 8 = some ⟨256, .cells [.map 20 192]⟩ := by rw [hst]; simp only [setN_ob]; rw [e2, if_neg n8]; exact o8
    have p18 : st.ob 18 = some ⟨128, .mp ver (MP intV m)⟩ := by rw [hst]; simp only [setN_ob]; rw [e2, if_neg n18]; exact o18
    have p20 : st.ob 20 = some ⟨192, .mp 0 []⟩ := by rw [hst]; simp only [setN_ob]; rw [e2, if_neg n20]; exact o20
    have pl : st.ob (2 * (s.nx + 64 + 64) + 1) = some ⟨s.nx + 64 + 64, .cells (histC h)⟩ := by rw [hst]; simp only [setN_ob]; rw [e2, if_pos rfl]
    clear hst e1 e2 e3 e4 hr
    refine range_opsN h hts (fun t ht => by have := hs.os t ht; omega) rfl rfl rfl (by simpa using g25) pl (by omega) (by omega) gr
      (fun i k ob tk ub => ob 2 = some ⟨0, .cells (histC h)⟩ ∧ ob 8 = some ⟨256, .cells [.map 20 192]⟩ ∧ ob 18 = some ⟨128, .mp ver (MP intV m)⟩ ∧ ∃ ver' m', ob 20 = some ⟨192, .mp ver' (MP intV m')⟩ ∧ m'.map (·.1) = dd ((opsTo h i k).map (·.key)))
      ?_ ?_ ?_ ?_ ?_
    · rintro i k ob ob' tk ub ub' ⟨q2, q8, q18, v', m', q20, hk⟩ hub hfr
      exact ⟨(hfr 2 (fun m _ => by omega)).trans q2, (hfr 8 (fun m _ => by omega)).trans q8, (hfr 18 (fun m _ => by omega)).trans q18, v', m', (hfr 20 (fun m _ => by omega)).trans q20, hk⟩
    · rintro i hi ob tk ub ⟨q2, q8, q18, v', m', q20, hk⟩
      exact ⟨q2, q8, q18, v', m', q20, by rw [hk, opsTo_next hi]⟩
    · rintro i hi k hk ob tk ub ⟨q2, q8, q18, v', m', q20, hkeys⟩ w1 w3 hub
      have r1 : ¬ 2 * st.nx + 1 = 16 := by omega
      have r3 : ¬ 2 * st.nx + 3 = 16 := by omega
      have r31 : ¬ 2 * st.nx + 3 = 2 * st.nx + 1 := by omega
      have r120 : ¬ 2 * st.nx + 1 = 20 := by omega
      have r320 : ¬ 2 * st.nx + 3 = 20 := by omega
      have b16 : ¬ 16 = 2 * st.nx + 1 := by omega
      have b8 : ¬ 8 = 2 * st.nx + 1 := by omega
      have b20 : ¬ 20 = 2 * st.nx + 1 := by omega
      have b2 : ¬ 2 = 2 * st.nx + 1 := by omega
      have b18 : ¬ 18 = 2 * st.nx + 1 := by omega
      simp [setPs, upd_apply, opC, objCells, gb, splice, g4, r1, w1, b16, b8, q8, lookupV_MI m', objMap, b20, q20]
      obtain ⟨o, ho⟩ : ∃ o, (h.ts[i]).ops[k] = o := ⟨_, rfl⟩
      rw [ho]
      refine kS_mapSet (f := intV) (a := IntKind.i64.wrap (mcnt m' o.key + 1)) (ver := v') (l := 20) (u := 192) (k := o.key) m' (by simp) (by simp) (by simp [intV]) (by simp [upd_apply, b20, q20]) (by simp) ?_
      simp [upd_apply, r120, r320, r3, b2, b8, b18, q2, q8, q18, w3]
      refine ⟨by omega, v' + 1, mset m' o.key (IntKind.i64.wrap (mcnt m' o.key + 1)), by simp, ?_⟩
      rw [mset_keys, hkeys, opsTo_step hi hk, List.map_append, ho]
      exact (dd_snoc _ _).symm
    · exact ⟨p2, p8, p18, 0, [], p20, by rw [opsTo_zero]; rfl⟩
    · rintro ob tk ub ⟨q2, q8, q18, v', m', q20, hkeys⟩ w3 hub
      rw [opsTo_end] at hkeys
      have l1 : m.length = (dd (usesS h)).length := by rw [← List.length_map (f := (·.1)), hm]; rfl
      have l2 : m'.length = (dd (usesK h)).length := by rw [← List.length_map (f := (·.1)), hkeys]; rfl
      simp [g3, g1, objMap, q18, q2, objCells, histC, l1]
      unfold usedB
      by_cases c1 : (dd (usesS h)).length = h.ss.length
      · simp [c1, g4, g1, q8, q2, objMap, q20, objCells, histC, l2]
        refine endV_df (l := 2 * st.nx + 3) (u := st.nx + 1) (by simp [gd]) (by simp [w3]) (by simp [gr]) (endV_1 rfl ?_ rfl)
        simp
        rw [Bool.eq_iff_iff]; simp; omega
      · have c1' : (((dd (usesS h)).length : Int) == (h.ss.length : Int)) = false := by simp; omega
        simp [c1']
        refine endV_df (l := 2 * st.nx + 3) (u := st.nx + 1) (by simp [gd]) (by simp [w3]) (by simp [gr]) (endV_1 rfl ?_ rfl)
        simp [c1]
end Go.Pv.T

/- May a history be? The program's way. -/
namespace Go.Pv.T
open Go Go.Pv

def mayH (h : Hist') : Bool := headsB h && (h.ts.all (txnB h) && ((opsOf h).all (opB h) && usedB h))
def errH (h : Hist') : Int := if mayH h then 0 else 4
theorem any_not {α : Type} (p : α → Bool) (l : List α) : (l.any fun t => !p t) = !(l.all p) := by
  induction l with
  | nil => rfl
  | cons a l ih => simp [ih]
theorem ev70 {h : Hist'} (hs : Small h) : Ev E 70 [.agg (histC h)] (.int .i64 (errH h)) := by
  refine Ev_wpK (af := F70) rfl ?_
  have hts := hs.ts
  have hos : ∀ t ∈ h.ts, t.ops.length ≤ 1000000 := fun t ht => by have := hs.os t ht; omega
  have e107 := ev107 hs
  have e112 := ev112 hs
  obtain ⟨R, hR⟩ : ∃ R, errH h = R := ⟨_, rfl⟩
  have hR' : R = if headsB h && (h.ts.all (txnB h) && ((opsOf h).all (opB h) && usedB h)) then 0 else 4 := hR.symm
  rw [hR]
  clear hR
  simp [F70, histC, objCells]
  refine kS_ev e107 (by simp [histC]) rfl (by simp [histC]) ?_
  cases b1 : headsB h
  · rw [b1] at hR'
    simp at hR'
    subst hR'
    simp [objCells, splice]
    exact kEnd_of rfl (l := [.int .i64 4]) (by simp [resOf, objCells]) rfl rfl
  rw [b1] at hR'
  simp [objCells]
  refine kS_callO (vs := [slOf h.tn txnC h.ts, .fn (.func 109) [] [.ptr 2 0 0]]) (by simp) rfl rfl (ev108 (p := fun t => !txnB h t) rfl (fun t tk base ub => ev109 (h := h) ⟨rfl, by simp [histC]⟩ t tk base ub) h.tn h.ts (by omega) _ _ _) ?_
  rw [any_not]
  cases b2 : h.ts.all (txnB h)
  · rw [b2] at hR'
    replace hR' : R = 4 := hR'
    subst hR'
    simp [objCells, splice]
    exact kEnd_of rfl (l := [.int .i64 4]) (by simp [resOf, objCells]) rfl rfl
  rw [b2] at hR'
  simp [objCells]
  refine kS_callS (vs := [.agg (histC h)]) (by simp [histC]) rfl ?_
  obtain ⟨r, hr, e1, e2, e3, e4⟩ := ev102 (Yf := noYF) h _ _ 0 _ _
  refine ⟨r, hr, ?_⟩
  simp
  refine wpC_gen fun st hst => ?_
  obtain ⟨U, hU⟩ : ∃ U, st.nx = U := ⟨_, rfl⟩
  obtain ⟨m, hm, hmU, g15, p2, p4, pl⟩ : ∃ m, m % 64 = 0 ∧ m < U ∧ st.tm 15 = .fn (.func 146) [] [.ptr (2 * m + 1) m 0] ∧ st.ob 2 = some ⟨0, .cells (histC h)⟩ ∧ st.ob 4 = some ⟨64, .cells [.int .i64 0]⟩ ∧ st.ob (2 * m + 1) = some ⟨m, .cells (histC h)⟩ := by
    refine ⟨_, ?_, ?_, by rw [hst]; simp only [setN_tm, put, upd_same]; exact e1, ?_, ?_, ?_⟩
    · decide
    · rw [← hU, hst, setN_nx, e4]; omega
    · rw [hst]; simp only [setN_ob]; rw [e2]; simp [histC]
    · rw [hst]; simp only [setN_ob]; rw [e2]; simp
    · rw [hst]; simp only [setN_ob]; rw [e2]; simp
  have g1 : st.tm 1 = .ptr 2 0 0 := by rw [hst]; simp [put, upd_apply]
  have g2 : st.tm 2 = .ptr 4 64 0 := by rw [hst]; simp [put, upd_apply]
  have gd : st.df = [] := by rw [hst]; simp
  have gb : st.fb = 0 := by rw [hst]; simp
  have gr : st.ro = 0 := by rw [hst]; simp
  have hU64 : 64 ≤ U := by rw [← hU, hst, setN_nx, e4]; omega
  clear hst e1 e2 e3 e4 hr
  refine range70 h hts hos U hU hU64 g15 ⟨m, rfl, hmU⟩ g1 g2 gr gb p2 p4 pl ?_
  intro e ob tk ub c q2 q4 q3 hub hcase
  rcases hcase with ⟨b3, rfl, rfl⟩ | ⟨b3, rfl, rfl⟩
  · rw [b3] at hR'
    simp [g1, objCells, q2, histC]
    refine kS_ev e112 (by simp [histC]) rfl (by simp [histC]) ?_
    have n3 : ¬ 2 * U + 3 = 4 := by omega
    have n4 : ¬ 4 = 2 * U + 3 := by omega
    cases b4 : usedB h
    · rw [b4] at hR'
      replace hR' : R = 4 := hR'
      subst hR'
      simp [objCells, g2, q4, gr, splice]
      refine endV_df (l := 2 * U + 3) (u := U + 1) (by simp [gd]) (by simp [q3, n3]) (by simp) (endV_plain rfl (l := [.int .i64 4]) ?_ rfl)
      simp [resOf, objCells, g2, n3]
    · rw [b4] at hR'
      replace hR' : R = 0 := hR'
      subst hR'
      simp [objCells, g2, q4, gr, splice]
      refine endV_df (l := 2 * U + 3) (u := U + 1) (by simp [gd]) (by simp [q3, n3]) (by simp) (endV_plain rfl (l := [.int .i64 0]) ?_ rfl)
      simp [resOf, objCells, g2, n3]
  · rw [b3] at hR'
    replace hR' : R = 4 := hR'
    subst hR'
    have n3 : ¬ 2 * U + 3 = 4 := by omega
    have n4 : ¬ 4 = 2 * U + 3 := by omega
    simp
    refine endV_df (l := 2 * U + 3) (u := U + 1) (by simp [gd]) (by simp [q3]) (by simp [gr]) (endV_plain rfl (l := [.int .i64 4]) ?_ rfl)
    simp [resOf, objCells, g2, n3, q4]
end Go.Pv.T

/- The reference's ops: what it marks. -/
namespace Go.Pv.T
open Go Go.Pv

def marks (bs : List Bool) (ks : List Int) : List Bool := ks.foldl (fun b k => b.set k.toNat true) bs
theorem marks_len (ks : List Int) : ∀ bs : List Bool, (marks bs ks).length = bs.length := by
  induction ks with
  | nil => intro bs; rfl
  | cons k ks ih => intro bs; exact (ih _).trans List.length_set
theorem marks_snoc (bs : List Bool) (ks : List Int) (k : Int) : marks bs (ks ++ [k]) = (marks bs ks).set k.toNat true := by simp [marks]
theorem marks_app (bs : List Bool) (a b : List Int) : marks bs (a ++ b) = marks (marks bs a) b := by simp [marks]
theorem splice_set (bs : List Bool) (k : Nat) (h : k < bs.length) : splice (bs.map V.bool) k [.bool true] = (bs.set k true).map V.bool := by
  unfold splice
  rw [List.map_set, List.set_eq_take_append_cons_drop, if_pos (by simpa using h)]
  simp
def goodT (h : Hist') (t : Txn') : Bool := txnB h t && t.ops.all (opB h)
theorem idx_osl {l u n : Nat} {kk : IntKind} {x : Int} (h0 : 0 ≤ x) (h1 : x < n) : idxSlV 1 (.osl l u 0 n 1) (.int kk x) = some (.ptr l u x.toNat) := by
  simp [idxSlV, h0, h1]
theorem within_of {n : Int} {l : Nat} (h1 : ¬ n < 0) (h2 : ¬ (l : Int) ≤ n) : within n l = true := by unfold within; simp; omega
theorem within_f1 {n : Int} {l : Nat} (h1 : n < 0) : within n l = false := by unfold within; simp; omega
theorem within_f2 {n : Int} {l : Nat} (h1 : (l : Int) ≤ n) : within n l = false := by unfold within; simp; omega

theorem ev82 {Yf : YF} {h : Hist'} {t : Txn'} (ht : t.ops.length ≤ 1000000) {ob : Nat → Option Obj'} {tk : Nat → Bool} {ro base ub l u : Nat} {bs : List Bool} (hbs : bs.length = h.ks.length) (ho : ob l = some ⟨u, .cells (bs.map V.bool)⟩) (hro : ro ≤ u) (hrb : ro ≤ ub)
    (hl : ∀ m, ub ≤ m → l ≠ 2 * m + 1) :
    ∃ r, EvS E Yf.y 82 [.agg (histC h), .agg (txnC t), .osl l u 0 h.ks.length 1] ob tk ro base ub r ∧ r.1 = .bool (goodT h t) ∧ (goodT h t = true →
      r.2.1 l = some ⟨u, .cells ((marks bs (t.ops.map (·.key))).map V.bool)⟩ ∧ (∀ key, key ≠ l → (∀ m, ub ≤ m → key ≠ 2 * m + 1) → r.2.1 key = ob key) ∧ r.2.2.1 = tk ∧ ub ≤ r.2.2.2) := by
  refine EvS_wp (af := S82) rfl (by decide) ?_
  show wpC E Yf S82.body _ (kEndS S82.res _)
  have n3 : ¬ 2 * (ub + 64) = 2 * ub := by omega
  have n4 : ¬ 2 * ub = 2 * (ub + 64) := by omega
  have fin : ∀ {e : Ex} {s : St}, e = .ret → s.df = [] → s.tm 6 = .bool false → goodT h t = false → kEndS S82.res (fun r => r.1 = .bool (goodT h t) ∧ (goodT h t = true →
      r.2.1 l = some ⟨u, .cells ((marks bs (t.ops.map (·.key))).map V.bool)⟩ ∧ (∀ key, key ≠ l → (∀ m, ub ≤ m → key ≠ 2 * m + 1) → r.2.1 key = ob key) ∧ r.2.2.1 = tk ∧ ub ≤ r.2.2.2)) e s := by
    intro e s he hd h6 hg
    subst he
    refine ⟨(.bool false, s.ob, s.tk, s.nx), ?_, by rw [hg], fun h => by rw [hg] at h; cases h⟩
    simp [endS, hd, S82, resOf, h6]
  generalize hP : (fun r : V × (Nat → Option Obj') × (Nat → Bool) × Nat => r.1 = .bool (goodT h t) ∧ (goodT h t = true →
      r.2.1 l = some ⟨u, .cells ((marks bs (t.ops.map (·.key))).map V.bool)⟩ ∧ (∀ key, key ≠ l → (∀ m, ub ≤ m → key ≠ 2 * m + 1) → r.2.1 key = ob key) ∧ r.2.2.1 = tk ∧ ub ≤ r.2.2.2)) = P at fin ⊢
  have gf : ∀ {b : Bool}, txnB h t = b → b = false → goodT h t = false := fun h1 h2 => by unfold goodT; rw [h1, h2]; rfl
  simp [S82, histC, txnC, objCells]
  by_cases s1 : t.s < 0
  · simp [s1]
    exact fin rfl (by simp) (by simp) (gf (b := false) (by unfold txnB; rw [within_f1 s1]; rfl) rfl)
  by_cases s2 : (h.ss.length : Int) ≤ t.s
  · simp [s1, s2, objCells, n4]
    exact fin rfl (by simp) (by simp) (gf (b := false) (by unfold txnB; rw [within_f2 s2]; rfl) rfl)
  by_cases f1 : t.f < 1
  · simp [s1, s2, f1, objCells, n4]
    exact fin rfl (by simp) (by simp) (gf (b := false) (by unfold txnB; simp; omega) rfl)
  by_cases f2 : 3 < t.f
  · simp [s1, s2, f1, f2, objCells, n4]
    exact fin rfl (by simp) (by simp) (gf (b := false) (by unfold txnB; simp; omega) rfl)
  by_cases l1 : 20 < (t.ops.length : Int)
  · simp [s1, s2, f1, f2, l1, objCells, n4]
    exact fin rfl (by simp) (by simp) (gf (b := false) (by unfold txnB; simp; omega) rfl)
  have htx : txnB h t = true := by unfold txnB; rw [within_of s1 s2]; simp; omega
  simp [s1, s2, f1, f2, l1, objCells, n4]
  refine wp_loopUp [(6, 8), (36, 78)] t.ops.length (fun i s => s.tm 7 = .int .i64 i ∧ s.ob (2 * ub + 1) = some ⟨ub, .cells (histC h)⟩ ∧ s.ob (2 * (ub + 64) + 1) = some ⟨ub + 64, .cells (txnC t)⟩ ∧
    s.ob l = some ⟨u, .cells ((marks bs ((t.ops.take i).map (·.key))).map V.bool)⟩ ∧ (∀ key, key ≠ l → (∀ m, ub ≤ m → key ≠ 2 * m + 1) → s.ob key = ob key) ∧ s.tk = tk ∧ ub + 128 ≤ s.nx ∧ (t.ops.take i).all (opB h) = true) rfl rfl ?_ ?_
  · refine ⟨by simp, by simp [n4, histC], by simp [txnC], ?_, ?_, ?_, ?_, by simp⟩
    · have e1 := hl ub (by omega)
      have e2 := hl (ub + 64) (by omega)
      simp [e1, e2, ho, marks]
    · intro key _ hm
      have e1 := hm ub (by omega)
      have e2 := hm (ub + 64) (by omega)
      simp [e1, e2]
    · simp [app_tk0]
    · simp
  · rintro i s hi ⟨h7, oa, ob', ol, hfr, htk, hnx, hall⟩ f
    have f2 : s.tm 2 = .osl l u 0 h.ks.length 1 := by rw [f.t 2 (by simp)]; simp
    have f3 : s.tm 3 = .ptr (2 * ub + 1) ub 0 := by rw [f.t 3 (by simp)]; simp
    have f4 : s.tm 4 = .ptr (2 * (ub + 64) + 1) (ub + 64) 0 := by rw [f.t 4 (by simp)]; simp
    have fd : s.df = [] := by rw [f.d]; simp
    have fr : s.ro = ro := by rw [f.r]; simp
    clear f
    by_cases hlt : i < t.ops.length
    · have hw := wrapU hlt (by omega)
      have x1 : ¬ 2 * ub = 2 * (s.nx + 64 + 64 + 64 + 64 + 64 + 64 + 64 + 64 + 64 + 64) := by omega
      have x2 : ¬ 2 * (ub + 64) = 2 * (s.nx + 64 + 64 + 64 + 64 + 64 + 64 + 64 + 64 + 64 + 64) := by omega
      have x3 : ¬ l = 2 * (s.nx + 64 + 64 + 64 + 64 + 64 + 64 + 64 + 64 + 64 + 64) + 1 := hl _ (by omega)
      have x3' : ¬ 2 * (s.nx + 64 + 64 + 64 + 64 + 64 + 64 + 64 + 64 + 64 + 64) + 1 = l := fun e => x3 e.symm
      have x4 : ¬ 2 * ub + 1 = l := fun e => hl ub (by omega) e.symm
      have x5 : ¬ 2 * (ub + 64) + 1 = l := fun e => hl (ub + 64) (by omega) e.symm
      have x6 : ro ≤ s.nx + 64 + 64 + 64 + 64 + 64 + 64 + 64 + 64 + 64 + 64 := by omega
      obtain ⟨o, hoo⟩ : ∃ o, t.ops[i] = o := ⟨_, rfl⟩
      have hl4 := load_slOf opC_len s.ob t.ops hlt
      have bad : opB h o = false → goodT h t = false := fun hb => by
        unfold goodT
        rw [all_not hlt (by rw [hoo]; exact hb), Bool.and_false]
      simp [h7, f4, ob', objCells, txnC, hlt, idx_slOf opC_len, load_slOf opC_len, hoo, opC, splice, fr, x6]
      by_cases k1 : o.key < 0
      · simp [k1]
        exact fin rfl (by simp [fd]) (by simp) (bad (by unfold opB; rw [within_f1 k1]; rfl))
      by_cases k2 : (h.ks.length : Int) ≤ o.key
      · simp [k1, k2, f3, oa, objCells, x1, histC]
        exact fin rfl (by simp [fd]) (by simp) (bad (by unfold opB; rw [within_f2 k2]; rfl))
      have hwi := within_of k1 k2
      simp [k1, k2, f3, oa, objCells, x1, histC]
      refine kS_ev (ev124 o.v) (by simp [valC]) rfl (by simp [valC]) ?_
      cases k3 : valB o.v
      · simp
        exact fin rfl (by simp [fd]) (by simp) (bad (by unfold opB; rw [hwi, k3]; rfl))
      have hk0 : 0 ≤ o.key := by omega
      have hk1 : o.key < (h.ks.length : Int) := by omega
      have hio := idx_osl (l := l) (u := u) (n := h.ks.length) (kk := .i64) hk0 hk1
      have hsp := splice_set (marks bs ((t.ops.take i).map (·.key))) o.key.toNat (by rw [marks_len, hbs]; omega)
      have hml : (marks bs ((t.ops.take i).map (·.key))).length = h.ks.length := by rw [marks_len, hbs]
      have hnext : marks bs ((t.ops.take (i + 1)).map (·.key)) = (marks bs ((t.ops.take i).map (·.key))).set o.key.toNat true := by
        rw [List.take_succ_eq_append_getElem hlt, List.map_append, hoo]
        exact marks_snoc _ _ _
      have hlen : o.key.toNat + 1 ≤ h.ks.length := by omega
      have hall' : opB h o = true → (t.ops.take (i + 1)).all (opB h) = true := fun hb => by
        rw [List.take_succ_eq_append_getElem hlt, List.all_append, hall, hoo]
        simp [hb]
      generalize marks bs ((t.ops.take i).map (·.key)) = mk at *
      cases k4 : o.w
      · have hgo : opB h o = true := by unfold opB; rw [hwi, k3, k4]; rfl
        simp [objCells, x1, x2, x3, f2, hio, ol, hro, hml, hlen, hsp, fr, h7, hw]
        refine ⟨hlt, ?_, ?_, ?_, ?_, htk, ?_, ?_⟩
        · rw [if_neg x4, oa]; rfl
        · rw [if_neg x5, ob']; rfl
        · rw [← List.map_take, hnext, List.map_set]
        · intro key h1 h2
          rw [if_neg h1, if_neg (h2 _ (by omega)), if_neg (h2 _ (by omega))]
          exact hfr key h1 h2
        · omega
        · have := hall' hgo
          rw [List.all_eq_true] at this
          exact this
      · cases k5 : (o.v.kind == 1)
        · have k5' : (o.v.kind != 1) = true := by simpa using k5
          simp [objCells, k5']
          exact fin rfl (by simp [fd]) (by simp) (bad (by unfold opB; rw [hwi, k3, k4, k5]; rfl))
        · have k5' : (o.v.kind != 1) = false := by simpa using k5
          have hgo : opB h o = true := by unfold opB; rw [hwi, k3, k4, k5]; rfl
          simp [objCells, x1, x2, x3, f2, hio, ol, hro, hml, hlen, hsp, fr, h7, hw, k5']
          refine ⟨hlt, ?_, ?_, ?_, ?_, htk, ?_, ?_⟩
          · rw [if_neg x4, oa]; rfl
          · rw [if_neg x5, ob']; rfl
          · rw [← List.map_take, hnext, List.map_set]
          · intro key h1 h2
            rw [if_neg h1, if_neg (h2 _ (by omega)), if_neg (h2 _ (by omega))]
            exact hfr key h1 h2
          · omega
          · have := hall' hgo
            rw [List.all_eq_true] at this
            exact this
    · have : i = t.ops.length := by omega
      subst this
      rw [List.take_length] at hall ol
      have hg : goodT h t = true := by unfold goodT; rw [htx, hall]; rfl
      simp [h7, f4, ob', objCells, txnC]
      refine ⟨(.bool true, s.ob, s.tk, s.nx + 64 + 64 + 64 + 64 + 64 + 64), ?_, ?_⟩
      · simp [endS, resOf, fd]
      · rw [← hP]
        exact ⟨by rw [hg], fun _ => ⟨ol, hfr, htk, by show ub ≤ _; simp; omega⟩⟩
end Go.Pv.T

/- May a history be? The reference's way. -/
namespace Go.Pv.T
open Go Go.Pv

theorem kD_mkSl {E : Env} {st : St} {ub : Nat} {K : List FP → St → Prop} {d : Option Nat} {nm : Bool} {r : List AOpr} {sz bytes n : Nat} {zero : List V} {x y : A} (hl : eval E st.tm x = .int .i64 (n : Int)) (hc : eval E st.tm y = .int .i64 (n : Int)) (hb : n * bytes ≤ 140737488355328) (hn : n ≤ 140737488355328) (hz : zero.length = sz) (h0 : 0 < sz)
    (h : kDApp E r K (eval E st.tm) (.mkSl true sz bytes zero x y) st d ub { v := .osl (objName d nm st.fb ub) ub 0 n sz, obs := [(objName d nm st.fb ub, ⟨ub, .cells (repl n zero)⟩)] }) : wpDraw E (⟨d, .mkSl true sz bytes zero x y, none, nm⟩ :: r) st ub K := by
  rw [wpDraw_of rfl]
  simp only [aop, hl, hc]
  rw [if_pos (by refine ⟨by omega, by omega, ?_, by omega, hz, h0⟩; rw [← Int.natCast_mul]; exact Int.ofNat_le.2 hb)]
  simp only [Bool.not_true, Bool.false_eq_true, false_and, if_false, mkObj, wpD_some, name_eq, Int.toNat_natCast]
  exact h
theorem repl_false (n : Nat) : repl n [.bool false] = (List.replicate n false).map V.bool := by
  unfold repl
  apply List.ext_getElem
  · simp
  · intro i h1 h2
    simp [List.getD, Nat.mod_one]
theorem marks_get (ks : List Int) : ∀ (bs : List Bool) (j : Nat) (hj : j < bs.length), (∀ k ∈ ks, 0 ≤ k) → (marks bs ks)[j]? = some (bs[j] || ks.any fun k => k == (j : Int)) := by
  induction ks with
  | nil => intro bs j hj _; simp [marks, hj]
  | cons k ks ih =>
    intro bs j hj h
    have hk := h k (by simp)
    have := ih (bs.set k.toNat true) j (by simpa using hj) (fun x hx => h x (by simp [hx]))
    show (marks (bs.set k.toNat true) ks)[j]? = _
    rw [this, List.getElem_set, List.any_cons]
    by_cases hkj : k.toNat = j
    · have : k = (j : Int) := by omega
      simp [this]
    · have : ¬ k = (j : Int) := by omega
      have e : (k == (j : Int)) = false := by simpa using this
      rw [if_neg hkj, e, Bool.false_or]
theorem marks_all {ks : List Int} {n : Nat} (h : ∀ k ∈ ks, 0 ≤ k ∧ k < n) : (marks (List.replicate n false) ks).all id = decide ((dd ks).length = n) := by
  have hp := (pigeon n (dd ks) (nodup_dd ks) (fun x hx => h x (mem_dd.1 hx))).2
  rw [Bool.eq_iff_iff, List.all_eq_true, decide_eq_true_eq, hp]
  constructor
  · intro hall k hk
    have hl : k < (marks (List.replicate n false) ks).length := by rw [marks_len]; simpa using hk
    have := hall _ (List.getElem_mem hl)
    have hg := marks_get ks (List.replicate n false) k (by simpa using hk) (fun x hx => (h x hx).1)
    rw [List.getElem?_eq_getElem hl, Option.some.injEq] at hg
    rw [hg] at this
    simp at this
    exact mem_dd.2 this
  · intro hall x hx
    obtain ⟨j, hj, rfl⟩ := List.getElem_of_mem hx
    have hjn : j < n := by rw [marks_len] at hj; simpa using hj
    have hg := marks_get ks (List.replicate n false) j (by simpa using hjn) (fun x hx => (h x hx).1)
    rw [List.getElem?_eq_getElem hj, Option.some.injEq] at hg
    rw [hg]
    have := mem_dd.1 (hall j hjn)
    simp
    exact this
theorem goodT_all (h : Hist') : h.ts.all (goodT h) = (h.ts.all (txnB h) && (opsOf h).all (opB h)) := by
  unfold opsOf
  induction h.ts with
  | nil => rfl
  | cons t l ih =>
    simp only [List.all_cons, List.flatMap_cons, List.all_append, ih, goodT]
    cases txnB h t <;> cases t.ops.all (opB h) <;> cases l.all (txnB h) <;> simp
theorem within_iff {n : Int} {l : Nat} : within n l = true ↔ 0 ≤ n ∧ n < l := by unfold within; simp
theorem mayH_ref {h : Hist'} (hd : headsB h = true) (hg : h.ts.all (goodT h) = true) : mayH h = ((marks (List.replicate h.ks.length false) (usesK h)).all id && (marks (List.replicate h.ss.length false) (usesS h)).all id) := by
  rw [goodT_all, Bool.and_eq_true] at hg
  have hS : ∀ k ∈ usesS h, 0 ≤ k ∧ k < h.ss.length := by
    intro k hk
    obtain ⟨t, ht, rfl⟩ := List.mem_map.1 hk
    have := List.all_eq_true.1 hg.1 t ht
    unfold txnB at this
    rw [Bool.and_eq_true] at this
    exact within_iff.1 this.1
  have hK : ∀ k ∈ usesK h, 0 ≤ k ∧ k < h.ks.length := by
    intro k hk
    obtain ⟨t, ht, rfl⟩ := List.mem_map.1 hk
    have := List.all_eq_true.1 hg.2 t ht
    unfold opB at this
    rw [Bool.and_eq_true] at this
    exact within_iff.1 this.1
  rw [marks_all hS, marks_all hK]
  unfold mayH usedB
  rw [hd, hg.1, hg.2]
  simp only [Bool.true_and]
  rw [Bool.and_comm]
theorem errH_f1 {h : Hist'} (hd : headsB h = false) : errH h = 4 := by unfold errH mayH; rw [hd]; rfl
theorem errH_f2 {h : Hist'} (hg : h.ts.all (goodT h) = false) : errH h = 4 := by
  unfold errH mayH
  rw [goodT_all] at hg
  rw [← Bool.and_assoc (h.ts.all (txnB h)), hg]
  simp
end Go.Pv.T

/- May a history be? The walk of the reference's. -/
namespace Go.Pv.T
open Go Go.Pv

def allT (l : List Bool) : Bool := l.all id
theorem allT_nil : allT [] = true := rfl
theorem allT_succ {l : List Bool} {j : Nat} (h : j < l.length) : allT (l.take (j + 1)) = (allT (l.take j) && l[j]) := by
  unfold allT; rw [List.take_succ_eq_append_getElem h, List.all_append]; simp
theorem ev32 {h : Hist'} (hs : Small h) : Ev E 32 [.agg (histC h)] (.int .i64 (errH h)) := by
  refine Ev_wpK (af := F32) rfl ?_
  have hts := hs.ts
  have hks := hs.ks
  have hss := hs.ss
  have e1 := ev81 h.sn h.ss (by omega) (fun s hx => by have := hs.sl s hx; omega)
  have e2 := ev81 h.kn h.ks (by omega) (fun s hx => by have := hs.kl s hx; omega)
  obtain ⟨R, hR⟩ : ∃ R, errH h = R := ⟨_, rfl⟩
  have bad : headsB h = false → R = 4 := fun hd => hR ▸ errH_f1 hd
  have bad2 : h.ts.all (goodT h) = false → R = 4 := fun hd => hR ▸ errH_f2 hd
  rw [hR]
  simp [F32, histC, objCells]
  refine kS_ev e1 (by simp) rfl rfl ?_
  cases b1 : tabB h.ss
  · rw [bad (by unfold headsB; rw [b1]; rfl)]
    simp
    exact endV_1 rfl (by simp) rfl
  simp [objCells]
  refine kS_ev e2 (by simp) rfl rfl ?_
  cases b2 : tabB h.ks
  · rw [bad (by unfold headsB; rw [b1, b2]; rfl)]
    simp
    exact endV_1 rfl (by simp) rfl
  by_cases c1 : 20 < (h.ss.length : Int)
  · rw [bad (by unfold headsB; simp; omega)]
    simp [objCells, c1]
    exact endV_1 rfl (by simp) rfl
  by_cases c2 : 40 < (h.ks.length : Int)
  · rw [bad (by unfold headsB; simp; omega)]
    simp [objCells, c1, c2]
    exact endV_1 rfl (by simp) rfl
  by_cases c3 : 40 < (h.ts.length : Int)
  · rw [bad (by unfold headsB; simp; omega)]
    simp [objCells, c1, c2, c3]
    exact endV_1 rfl (by simp) rfl
  have hd : headsB h = true := by unfold headsB; rw [b1, b2]; simp; omega
  simp [objCells, c1, c2, c3]
  refine kD_mkSl (n := h.ks.length) (by simp) (by simp) (by omega) (by omega) rfl (by decide) ?_
  simp [objCells]
  refine kD_mkSl (n := h.ss.length) (by simp) (by simp) (by omega) (by omega) rfl (by decide) ?_
  simp [repl_false]
  refine ⟨by simp [drawOk, indep, disj, fpOf, rdOb, rdTk, lOf, Delta.wo, Delta.wt]; decide, ?_⟩
  refine wpC_gen fun st hst => ?_
  have g1 : st.tm 1 = .ptr 1 0 0 := by rw [hst]; simp
  have g3 : st.tm 3 = .osl 4225 2112 0 h.ks.length 1 := by rw [hst]; simp
  have g4 : st.tm 4 = .osl 4737 2368 0 h.ss.length 1 := by rw [hst]; simp
  have g5 : st.tm 5 = .int .i64 0 := by rw [hst]; simp
  have p1 : st.ob 1 = some ⟨0, .cells (histC h)⟩ := by rw [hst]; simp [histC]
  have pk : st.ob 4225 = some ⟨2112, .cells ((List.replicate h.ks.length false).map V.bool)⟩ := by rw [hst]; simp
  have ps : st.ob 4737 = some ⟨2368, .cells ((List.replicate h.ss.length false).map V.bool)⟩ := by rw [hst]; simp
  have gd : st.df = [] := by rw [hst]; simp
  have gb : st.fb = 0 := by rw [hst]; simp
  have gr : st.ro = 0 := by rw [hst]; simp
  have gn : 2400 ≤ st.nx := by rw [hst]; simp
  clear hst
  generalize hB : List.replicate h.ks.length false = B at *
  generalize hC : List.replicate h.ss.length false = D at *
  have hBl : B.length = h.ks.length := by rw [← hB]; simp
  have hDl : D.length = h.ss.length := by rw [← hC]; simp
  refine wp_loopUp [(2, 2), (5, 5), (45, 68)] h.ts.length (fun i s => s.tm 5 = .int .i64 i ∧ s.ob 1 = some ⟨0, .cells (histC h)⟩ ∧ s.ob 4225 = some ⟨2112, .cells ((marks B ((h.ts.take i).flatMap fun t => t.ops.map (·.key))).map V.bool)⟩ ∧
    s.ob 4737 = some ⟨2368, .cells ((marks D ((h.ts.take i).map (·.s))).map V.bool)⟩ ∧ 2400 ≤ s.nx ∧ (h.ts.take i).all (goodT h) = true) rfl rfl ⟨by simp [g5], p1, by simp [pk, marks], by simp [ps, marks], gn, by simp⟩ ?_
  rintro i s hi ⟨h5, o1, ok, os, hnx, hall⟩ f
  have f1 : s.tm 1 = .ptr 1 0 0 := by rw [f.t 1 (by simp), g1]
  have f3 : s.tm 3 = .osl 4225 2112 0 h.ks.length 1 := by rw [f.t 3 (by simp), g3]
  have f4 : s.tm 4 = .osl 4737 2368 0 h.ss.length 1 := by rw [f.t 4 (by simp), g4]
  have fd : s.df = [] := by rw [f.d, gd]
  have fb : s.fb = 0 := by rw [f.b, gb]
  have fr : s.ro = 0 := by rw [f.r, gr]
  clear f
  by_cases hlt : i < h.ts.length
  · have hw := wrapU hlt (by omega)
    obtain ⟨t, ht⟩ : ∃ t, h.ts[i] = t := ⟨_, rfl⟩
    have htm : t ∈ h.ts := ht ▸ List.getElem_mem hlt
    have hos := hs.os t htm
    have hl3 := load_slOf txnC_len s.ob h.ts hlt
    rw [ht] at hl3
    simp [h5, f1, o1, objCells, histC, hlt, idx_slOf txnC_len, load_slOf txnC_len, ht, f3]
    refine kS_callS (vs := [.agg (histC h), .agg (txnC t), .osl 4225 2112 0 h.ks.length 1]) (by simp [histC]) rfl ?_
    simp [fr, fb]
    have hml : (marks B ((h.ts.take i).flatMap fun t => t.ops.map (·.key))).length = h.ks.length := by rw [marks_len, hBl]
    have hmd : (marks D ((h.ts.take i).map (·.s))).length = h.ss.length := by rw [marks_len, hDl]
    obtain ⟨⟨v, ob', tk', ub'⟩, hr, hv, hg⟩ := ev82 (Yf := noYF) (h := h) (t := t) (by omega) (ob := s.ob) (tk := s.tk) (ro := 0) (base := 61440) (ub := s.nx + 64 + 64 + 64 + 64 + 64 + 64 + 64 + 64 + 64 + 64 + 64 + 64) (l := 4225) (u := 2112) hml ok (by omega) (by omega) (fun m hm => by omega)
    refine ⟨v, ob', tk', ub', hr, ?_⟩
    simp only at hv hg
    subst hv
    cases hgt : goodT h t
    · rw [bad2 (all_not hlt (by rw [ht]; exact hgt))]
      simp [put]
      exact endV_1 (by simp [fd]) (by simp) rfl
    · obtain ⟨q1, q2, q3, q4⟩ := hg hgt
      have q1' := (q2 1 (by decide) (fun m hm => by omega)).trans o1
      have qs := (q2 4737 (by decide) (fun m hm => by omega)).trans os
      have htx : txnB h t = true := by unfold goodT at hgt; rw [Bool.and_eq_true] at hgt; exact hgt.1
      have hwi : 0 ≤ t.s ∧ t.s < h.ss.length := by unfold txnB at htx; rw [Bool.and_eq_true] at htx; exact within_iff.1 htx.1
      have hio := idx_osl (l := 4737) (u := 2368) (n := h.ss.length) (kk := .i64) hwi.1 hwi.2
      have hsp := splice_set (marks D ((h.ts.take i).map (·.s))) t.s.toNat (by rw [hmd]; omega)
      have hfl : (h.ts.flatMap txnC)[i * 3]? = some (.int .i64 t.s) := by
        have := fld_at txnC_len h.ts hlt (by decide : 0 < 3)
        rw [Nat.add_zero, ht] at this
        rw [this]; rfl
      have hnk : marks B ((h.ts.take (i + 1)).flatMap fun t => t.ops.map (·.key)) = marks (marks B ((h.ts.take i).flatMap fun t => t.ops.map (·.key))) (t.ops.map (·.key)) := by
        rw [List.take_succ_eq_append_getElem hlt, List.flatMap_append, marks_app, ht]; simp
      have hns : marks D ((h.ts.take (i + 1)).map (·.s)) = (marks D ((h.ts.take i).map (·.s))).set t.s.toNat true := by
        rw [List.take_succ_eq_append_getElem hlt, List.map_append, ht]; exact marks_snoc _ _ _
      have hal : (h.ts.take (i + 1)).all (goodT h) = true := by
        rw [List.take_succ_eq_append_getElem hlt, List.all_append, hall, ht]; simp [hgt]
      rw [← hnk] at q1
      have hts1 : t.s.toNat + 1 ≤ h.ss.length := by omega
      obtain ⟨mk, hmk⟩ : ∃ m, marks B ((h.ts.take (i + 1)).flatMap fun t => t.ops.map (·.key)) = m := ⟨_, rfl⟩
      rw [hmk] at q1
      generalize marks D ((h.ts.take i).map (·.s)) = md at *
      simp [put, upd_apply, f1, f4, h5, q1', objCells, histC, hlt, idx_slOf txnC_len, hfl, hio, qs, hmd, hsp, hw, q1, hts1]
      refine ⟨by rw [hmk], by rw [← List.map_take, hns, List.map_set], by omega, ?_⟩
      rw [List.all_eq_true] at hal
      exact hal
  · have : i = h.ts.length := by omega
    subst this
    rw [List.take_length] at hall ok os
    have hmay := mayH_ref hd hall
    have hK : (h.ts.flatMap fun t => t.ops.map (·.key)) = usesK h := by unfold usesK opsOf; rw [List.map_flatMap]
    have hS : h.ts.map (·.s) = usesS h := rfl
    rw [hK] at ok
    rw [hS] at os
    rw [hB, hC] at hmay
    have hml : (marks B (usesK h)).length = h.ks.length := by rw [marks_len, hBl]
    have hmd : (marks D (usesS h)).length = h.ss.length := by rw [marks_len, hDl]
    have hR' : R = if allT (marks B (usesK h)) && allT (marks D (usesS h)) then 0 else 4 := by rw [← hR, errH, hmay]; rfl
    clear hmay hR
    generalize marks B (usesK h) = mk at *
    generalize marks D (usesS h) = md at *
    simp [h5, f1, o1, objCells, histC]
    refine wp_loopUp [(6, 7), (69, 81)] h.ks.length (fun i s' => s'.tm 7 = .int .i64 i ∧ s'.ob = s.ob ∧ s'.tm 6 = .bool (allT (mk.take i))) rfl rfl ⟨by simp, by simp, by simp [allT_nil]⟩ ?_
    rintro j s1 hj ⟨k7, ko, k6⟩ f
    have m3 : s1.tm 3 = .osl 4225 2112 0 h.ks.length 1 := by rw [f.t 3 (by simp)]; simp [f3]
    have m4 : s1.tm 4 = .osl 4737 2368 0 h.ss.length 1 := by rw [f.t 4 (by simp)]; simp [f4]
    have md1 : s1.df = [] := by rw [f.d]; simp [fd]
    clear f
    by_cases hjt : j < h.ks.length
    · have hw := wrapU hjt (by omega)
      have hjm : j < mk.length := by omega
      have hio := idx_osl (l := 4225) (u := 2112) (n := h.ks.length) (kk := .i64) (x := (j : Int)) (by omega) (by omega)
      have hnx : allT (mk.take (j + 1)) = (allT (mk.take j) && mk[j]) := allT_succ hjm
      cases hb : allT (mk.take j)
      · rw [hb] at k6 hnx
        simp [k7, m3, hjt, k6, hw, ko]
        rw [hnx]; rfl
      · rw [hb] at k6 hnx
        simp [k7, m3, hjt, k6, hw, ko, hio, objCells, ok, hjm]
        rw [hnx]; rfl
    · have : j = h.ks.length := by omega
      subst this
      have hmt : mk.take h.ks.length = mk := List.take_of_length_le (by omega)
      rw [hmt] at k6
      simp [k7, m3]
      refine wp_loopUp [(6, 6), (8, 8), (82, 94)] h.ss.length (fun i s' => s'.tm 8 = .int .i64 i ∧ s'.ob = s.ob ∧ s'.tm 6 = .bool (allT mk && allT (md.take i))) rfl rfl ⟨by simp, by simp [ko], by simp [k6, allT_nil]⟩ ?_
      rintro j s2 hj ⟨z8, zo, z6⟩ f
      have y4 : s2.tm 4 = .osl 4737 2368 0 h.ss.length 1 := by rw [f.t 4 (by simp)]; simp [m4]
      have yd : s2.df = [] := by rw [f.d]; simp [md1]
      clear f
      by_cases hjt : j < h.ss.length
      · have hw := wrapU hjt (by omega)
        have hjm : j < md.length := by omega
        have hio := idx_osl (l := 4737) (u := 2368) (n := h.ss.length) (kk := .i64) (x := (j : Int)) (by omega) (by omega)
        have hnx : allT (md.take (j + 1)) = (allT (md.take j) && md[j]) := allT_succ hjm
        cases hb : (allT mk && allT (md.take j))
        · have hnx' : (allT mk && allT (md.take (j + 1))) = false := by rw [hnx, ← Bool.and_assoc, hb]; rfl
          rw [hb] at z6
          simp [z8, y4, hjt, z6, hw, zo]
          intro hm; rw [hm] at hnx'; exact hnx'
        · have hnx' : (allT mk && allT (md.take (j + 1))) = md[j] := by rw [hnx, ← Bool.and_assoc, hb]; rfl
          rw [hb] at z6
          simp [z8, y4, hjt, z6, hw, zo, hio, objCells, os, hjm]
          exact hnx'.symm
      · have : j = h.ss.length := by omega
        subst this
        have hmt : md.take h.ss.length = md := List.take_of_length_le (by omega)
        rw [hmt] at z6
        cases hb : (allT mk && allT md)
        · rw [hb] at z6 hR'
          simp [z8, y4, z6]
          exact endV_1 (by simp [yd]) (by simp [hR']) rfl
        · rw [hb] at z6 hR'
          simp [z8, y4, z6]
          exact endV_1 (by simp [yd]) (by simp [hR']) rfl
end Go.Pv.T

/- Which keys are kept. -/
namespace Go.Pv.T
open Go Go.Pv

section
variable {E : Env} {Yf : YF} {st : St} {ub : Nat} {K : St → Nat → Prop} {d : Option Nat} {nm : Bool}
theorem kS_buildSlO {sz n : Nat} {zero : List V} {parts : List (Nat × Nat × A)} {cs : List V} (hf : fill zero (evalParts (eval E st.tm) parts) = some cs) (hl : cs.length = n * sz) (hp : cs.all V.leaf = true)
    (h : kApp K st d ub { v := .osl (objName d nm st.fb ub) ub 0 n sz, obs := [(objName d nm st.fb ub, ⟨ub, .cells cs⟩)] }) : wpStep E Yf ⟨d, .buildSl true sz zero parts n, none, nm⟩ st ub K := by
  rw [wpStep_of _ rfl rfl]
  simp only [aop, hf, Option.bind_some, if_true, name_eq]
  rw [if_pos ⟨hl, hp⟩, mkObj, wpD_some]
  exact h
theorem kS_appendO_nil {sz bytes n : Nat} {cs ys : List V} {s x : A} (hs : eval E st.tm s = .sl none true n cs) (hx : slCells st.ob sz (eval E st.tm x) = some ys) (hne : ys ≠ []) (h0 : 0 < sz) (hp : ys.all V.leaf = true)
    (hb : (ys.length / sz) * bytes ≤ 140737488355328) (hb2 : ys.length / sz ≤ 140737488355328) (h : kApp K st d ub { v := .osl (objName d nm st.fb ub) ub 0 (ys.length / sz) sz, obs := [(objName d nm st.fb ub, ⟨ub, .cells ys⟩)] }) :
    wpStep E Yf ⟨d, .append true sz bytes s x, none, nm⟩ st ub K := by
  rw [wpStep_of _ rfl rfl]
  simp only [aop, hs, hx, Option.bind_some, if_neg hne, Bool.and_self, if_true, name_eq]
  rw [if_pos ⟨h0, hp, hb, hb2⟩, mkObj, wpD_some]
  exact h
theorem kS_appendO {sz bytes l u n : Nat} {cs ys : List V} {s x : A} (hs : eval E st.tm s = .osl l u 0 n sz) (hx : slCells st.ob sz (eval E st.tm x) = some ys) (ho : st.ob l = some ⟨u, .cells cs⟩) (hne : ys ≠ []) (hro : st.ro ≤ u) (hn : n * sz ≤ cs.length) (h0 : 0 < sz) (hp : ys.all V.leaf = true)
    (hb : (n + ys.length / sz) * bytes ≤ 140737488355328) (hb2 : n + ys.length / sz ≤ 140737488355328)
    (h : kApp K st d ub { v := .osl (objName d nm st.fb ub) ub 0 (n + ys.length / sz) sz, obs := [(objName d nm st.fb ub, ⟨ub, .cells (cs.take (n * sz) ++ ys)⟩)], kill := [l] }) :
    wpStep E Yf ⟨d, .append true sz bytes s x, none, nm⟩ st ub K := by
  rw [wpStep_of _ rfl rfl]
  have hoc : objCells st.ob l u = some cs := by simp [objCells, ho]
  simp only [aop, hs, hx, Option.bind_some, hoc, if_neg hne, name_eq]
  rw [if_pos ⟨Nat.ble_eq ▸ hro, trivial, trivial, hn, h0, hp, hb, hb2⟩, wpD_some]
  exact h
end
@[simp] theorem app_obk (st : St) (d : Option Nat) (v : V) (l k l' : Nat) (o' : Obj') : (st.app d { v := v, obs := [(l, o')], kill := [l'] }).ob k = if k = l then some o' else if k = l' then none else st.ob k := by
  have e : (Nat.beq k l') = decide (k = l') := by rw [Bool.eq_iff_iff]; simp
  simp only [St.app, setObs, upd_apply, List.any_cons, List.any_nil, Bool.or_false, e, decide_eq_true_eq]
theorem app_tkk (st : St) (d : Option Nat) (v : V) (obs : List (Nat × Obj')) (kl : List Nat) : (st.app d { v := v, obs := obs, kill := kl }).tk = st.tk := by
  funext u
  simp [app_tk]


def keepB (o : Op') : Bool := !(o.v.kind == 2)
def cntK (k : Int) (l : List Op') : Nat := (l.filter fun o => o.key == k && keepB o).length
def usedN (h : Hist') (k : Nat) : Bool := decide (0 < cntK k (opsOf h))
def toK (h : Hist') : Nat → Nat
  | 0 => 0
  | i + 1 => toK h i + (if usedN h i then 1 else 0)
end Go.Pv.T

/- Which keys are kept: the walk. -/
namespace Go.Pv.T
open Go Go.Pv



end Go.Pv.T

/- Histories without lost reads; histories in results. -/
namespace Go.Pv.T
open Go Go.Pv

@[simp] theorem cells_osl (a b c d e : Nat) : (V.osl a b c d e).cells = [.osl a b c d e] := rfl
@[simp] theorem leaf_osl (a b c d e : Nat) : (V.osl a b c d e).leaf = true := rfl
def SlOut (st : St) (v : V) (nl : Bool) (n : Nat) (cs : List V) : Prop := ∀ keep i, ∃ a, outLeaf st keep i v = some (.sl a nl n cs) ∧ (a = none ∨ ∃ z, a = some (i, z))
theorem slOut_sl (st : St) (t : Option (Nat × Nat)) (nl : Bool) (n : Nat) (cs : List V) : SlOut st (.sl t nl n cs) nl n cs := by
  intro keep i
  cases t with
  | none => exact ⟨none, rfl, .inl rfl⟩
  | some p =>
    obtain ⟨u, z⟩ := p
    refine ⟨_, rfl, ?_⟩
    split
    · exact .inr ⟨z, rfl⟩
    · exact .inl rfl
def HistR (r : V) (g : Hist') : Prop := ∃ a b c : Option (Nat × Nat), r = .agg [.sl a g.sn g.ss.length (g.ss.flatMap strC), .sl b g.kn g.ks.length (g.ks.flatMap strC), .sl c g.tn g.ts.length (g.ts.flatMap txnC)] ∧ (∀ p ∈ a.toList ++ b.toList ++ c.toList, p.1 < 64)
theorem toks_sl (a : Option (Nat × Nat)) (nl : Bool) (n : Nat) (cs : List V) : (V.sl a nl n cs).tok = a.toList.map (·.1) := by
  cases a with
  | none => rfl
  | some p => rfl
theorem tokm {a : Option (Nat × Nat)} {nl : Bool} {n : Nat} {cs : List V} {i : Nat} : i ∈ (V.sl a nl n cs).tok ↔ ∃ p ∈ a.toList, p.1 = i := by rw [toks_sl, List.mem_map]
end Go.Pv.T

/- Slices that grow; erase.Of. -/
namespace Go.Pv.T
open Go Go.Pv

def Grow {α : Type} (tk : Nat → Bool) (lo nx : Nat) (f : α → List V) (sz : Nat) (l : List α) (v : V) : Prop :=
  (l = [] ∧ v = .sl none true 0 []) ∨ (l ≠ [] ∧ ∃ u, v = .sl (some (u, sz)) false l.length (l.flatMap f) ∧ tk u = true ∧ lo ≤ u ∧ u < nx)
theorem Grow.nil {α : Type} (tk : Nat → Bool) (lo nx : Nat) (f : α → List V) (sz : Nat) : Grow tk lo nx f sz [] (.sl none true 0 []) := .inl ⟨rfl, rfl⟩
theorem Grow.form {α : Type} {tk : Nat → Bool} {lo nx : Nat} {f : α → List V} {sz : Nat} {l : List α} {v : V} (h : Grow tk lo nx f sz l v) : ∃ t, v = .sl t l.isEmpty l.length (l.flatMap f) := by
  rcases h with ⟨rfl, rfl⟩ | ⟨hne, u, rfl, _⟩
  · exact ⟨none, rfl⟩
  · cases l with
    | nil => exact absurd rfl hne
    | cons a l => exact ⟨_, rfl⟩
theorem Grow.mono {α : Type} {tk tk' : Nat → Bool} {lo nx nx' : Nat} {f : α → List V} {sz : Nat} {l : List α} {v : V} (h : Grow tk lo nx f sz l v) (ht : ∀ u, lo ≤ u → u < nx → tk u = true → tk' u = true) (hn : nx ≤ nx') : Grow tk' lo nx' f sz l v := by
  rcases h with h | ⟨hne, u, hv, h1, h2, h3⟩
  · exact .inl h
  · exact .inr ⟨hne, u, hv, ht u h2 h3 h1, h2, by omega⟩
section
variable {E : Env} {Yf : YF} {st : St} {ub : Nat} {K : St → Nat → Prop} {d : Option Nat} {nm : Bool}
theorem kS_appendG {α : Type} {f : α → List V} {sz bytes lo hi : Nat} {l : List α} {a : α} {v : V} {s x : A} (hg : Grow st.tk lo hi f sz l v) (hs : eval E st.tm s = v) (hx : slCells st.ob sz (eval E st.tm x) = some (f a)) (hf : ∀ a, (f a).length = sz) (h0 : 0 < sz)
    (hp : (f a).all V.pureLeaf = true) (hb : (l.length + 1) * bytes ≤ 140737488355328) (hb2 : l.length + 1 ≤ 140737488355328)
    (h : ∀ del : Option Nat, (∀ u, del = some u → lo ≤ u ∧ u < hi) → kApp K st d ub { v := .sl (some (ub, sz)) false (l.length + 1) ((l ++ [a]).flatMap f), del := del, add := [ub] }) : wpStep E Yf ⟨d, .append false sz bytes s x, none, nm⟩ st ub K := by
  have hne : f a ≠ [] := fun e => by have := hf a; rw [e] at this; simp at this; omega
  have h1 : (f a).length / sz = 1 := by rw [hf]; exact Nat.div_self h0
  rcases hg with ⟨rfl, rfl⟩ | ⟨hl, u, rfl, ht, h2, h3⟩
  · refine kS_append_nil hs hx hne h0 hp (by rw [h1]; simpa using hb) (by rw [h1]; simpa using hb2) ?_
    rw [h1]
    have := h none (fun u e => by cases e)
    simpa using this
  · refine kS_append_tok hs ht hx hne (by rw [flatMap_len hf]) h0 hp (by rw [h1]; exact hb) (by rw [h1]; exact hb2) ?_
    rw [h1]
    have := h (some u) (fun u' e => by cases e; exact ⟨h2, h3⟩)
    simpa using this
end
theorem slCells_slOf {α : Type} {f : α → List V} {k : Nat} (hf : ∀ a, (f a).length = k) (ob : Nat → Option Obj') (nl : Bool) (l : List α) : slCells ob k (slOf nl f l) = some (l.flatMap f) := by
  simp only [slOf, slCells, flatMap_len hf, if_true]

end Go.Pv.T

/- erase.Of. -/
namespace Go.Pv.T
open Go Go.Pv

def kEndE (res : List ARes) (P : V → Prop) : Ex → St → Prop := fun e s => ∃ r, endV res (e, s) = some r ∧ P r
theorem Ev_wpE {f : FuncId} {af : AF} {args : List V} {P : V → Prop} (hf : E.fc f = some af) (h1 : af.body.one = true) (h : wpC E noYF af.body (start args) (kEndE af.res P)) : ∃ r, Ev E f args r ∧ P r := by
  obtain ⟨n, x, hx, r, hr, hP⟩ := one_of h1 h
  refine ⟨r, ⟨n + 1, ?_⟩, hP⟩
  simp only [callers, hf, Option.bind_some]
  rw [show codeL E (callers E n) noY n af.body (start args) = some [x] from hx]
  exact one1_of (List.cons_ne_nil _ _) (fun y hy => by rw [List.mem_singleton] at hy; subst hy; exact hr)

end Go.Pv.T

/- erase.By. -/
namespace Go.Pv.T
open Go Go.Pv

end Go.Pv.T

/- The reference's erasing: which keys are there. -/
namespace Go.Pv.T
open Go Go.Pv

section
variable {E : Env} {st : St} {ub : Nat} {K : List FP → St → Prop} {d : Option Nat} {nm : Bool} {r : List AOpr}
theorem kD_buildSl {sz n : Nat} {zero : List V} {parts : List (Nat × Nat × A)} {cs : List V} (hf : fill zero (evalParts (eval E st.tm) parts) = some cs) (hl : cs.length = n * sz) (hp : (cs.map V.strip1).all V.pureLeaf = true)
    (h : kDApp E r K (eval E st.tm) (.buildSl false sz zero parts n) st d ub { v := .sl (some (ub, sz)) false n (cs.map V.strip1), add := [ub] }) : wpDraw E (⟨d, .buildSl false sz zero parts n, none, nm⟩ :: r) st ub K := by
  rw [wpDraw_of rfl]
  simp only [aop, hf, Option.bind_some, Bool.false_eq_true, if_false]
  rw [if_pos ⟨hl, hp⟩, wpD_some]
  exact h
theorem kD_appendG2 {α : Type} {f : α → List V} {sz bytes lo hi : Nat} {l : List α} {a : α} {v : V} {s x : A} (hg : Grow st.tk lo hi f sz l v) (hs : eval E st.tm s = v) (hx : slCells st.ob sz (eval E st.tm x) = some (f a)) (hf : ∀ a, (f a).length = sz) (h0 : 0 < sz)
    (hp : (f a).all V.pureLeaf = true) (hb : (l.length + 1) * bytes ≤ 140737488355328) (hb2 : l.length + 1 ≤ 140737488355328)
    (h : ∀ del : Option Nat, (∀ u, del = some u → u ∈ v.tok) → kDApp E r K (eval E st.tm) (.append false sz bytes s x) st d ub { v := .sl (some (ub, sz)) false (l.length + 1) ((l ++ [a]).flatMap f), del := del, add := [ub] }) : wpDraw E (⟨d, .append false sz bytes s x, none, nm⟩ :: r) st ub K := by
  have hne : f a ≠ [] := fun e => by have := hf a; rw [e] at this; simp at this; omega
  have h1 : (f a).length / sz = 1 := by rw [hf]; exact Nat.div_self h0
  rw [wpDraw_of rfl]
  rcases hg with ⟨rfl, rfl⟩ | ⟨hl, u, rfl, ht, h2, h3⟩
  · simp only [aop, hs, hx, Option.bind_some, if_neg hne, Bool.false_and, Bool.false_eq_true, if_false]
    rw [if_pos ⟨by simp, h0, hp, by rw [h1]; simpa using hb, by rw [h1]; simpa using hb2⟩, if_pos trivial, wpD_some, h1]
    have := h none (fun u e => by cases e)
    simpa using this
  · simp only [aop, hs, hx, Option.bind_some, if_neg hne, Bool.false_and, Bool.false_eq_true, if_false]
    rw [if_pos ⟨by rw [flatMap_len hf], h0, hp, by rw [h1]; exact hb, by rw [h1]; exact hb2⟩, if_pos (by simp [ht]), wpD_some, h1]
    have := h (some u) (fun u' e => by cases e; simp [V.tok])
    simpa using this
theorem kS_append_allT {E : Env} {Yf : YF} {st : St} {ub : Nat} {K : St → Nat → Prop} {d : Option Nat} {nm : Bool} {α : Type} {f : α → List V} {sz bytes u : Nat} {l : List α} {s x : A} (hs : eval E st.tm s = .sl (some (u, sz)) false 0 []) (hu : st.tk u = true) (hx : slCells st.ob sz (eval E st.tm x) = some (l.flatMap f)) (hf : ∀ a, (f a).length = sz) (h0 : 0 < sz)
    (hp : (l.flatMap f).all V.pureLeaf = true) (hb : l.length * bytes ≤ 140737488355328) (hb2 : l.length ≤ 140737488355328)
    (h : ∀ (t : Option (Nat × Nat)) (del : Option Nat) (add : List Nat), (∀ u' ∈ add, u' = ub) → (∀ u', del = some u' → u' = u) → kApp K st d ub { v := .sl t false l.length (l.flatMap f), del := del, add := add }) : wpStep E Yf ⟨d, .append false sz bytes s x, none, nm⟩ st ub K := by
  cases l with
  | nil =>
    rw [wpStep_of _ rfl rfl]
    simp only [aop, hs, hx, Option.bind_some, List.flatMap_nil, if_true, List.length_nil, Nat.zero_mul, wpD_one]
    exact h _ none [] (fun u hu => by cases hu) (fun u e => by cases e)
  | cons a l =>
    have h1 : ((a :: l).flatMap f).length / sz = (a :: l).length := by rw [flatMap_len hf]; exact Nat.mul_div_cancel _ h0
    have hne : (a :: l).flatMap f ≠ [] := fun e => by have := congrArg List.length e; rw [flatMap_len hf] at this; have := Nat.mul_pos (show 0 < (a :: l).length by simp) h0; simp_all
    refine kS_append_tok hs hu hx hne (by simp) h0 hp (by rw [h1, Nat.zero_add]; exact hb) (by rw [h1, Nat.zero_add]; exact hb2) ?_
    rw [h1, Nat.zero_add, List.nil_append]
    exact h _ (some u) [ub] (fun u hu => by simpa using hu) (fun u' e => by cases e; rfl)
theorem Grow.tok_lt {α : Type} {tk : Nat → Bool} {lo nx : Nat} {f : α → List V} {sz : Nat} {l : List α} {v : V} (h : Grow tk lo nx f sz l v) : ∀ u ∈ v.tok, lo ≤ u ∧ u < nx := by
  rcases h with ⟨_, rfl⟩ | ⟨_, u, rfl, _, h2, h3⟩
  · intro u hu; simp [V.tok] at hu
  · intro u' hu'; simp [V.tok] at hu'; subst hu'; exact ⟨h2, h3⟩
end
def toList (h : Hist') : Nat → List Int
  | 0 => []
  | i + 1 => toList h i ++ [((toK h i : Nat) : Int)]
end Go.Pv.T

/- The reference's erasing. -/
namespace Go.Pv.T
open Go Go.Pv

@[simp] theorem str_strip1 (s : List UInt8) : (V.str s).strip1 = .str s := rfl
theorem endH1 {st : St} {p l u : Nat} {x y z : V} {g : Hist'} (hd : st.df = []) (hp : st.tm p = .ptr l u 0) (ho : st.ob l = some ⟨u, .cells [x, y, z]⟩)
    (hx : SlOut st x g.sn g.ss.length (g.ss.flatMap strC)) (hy : SlOut st y g.kn g.ks.length (g.ks.flatMap strC)) (hz : SlOut st z g.tn g.ts.length (g.ts.flatMap txnC)) : ∃ r, endV [.cell p (some 3)] (.ret, st) = some r ∧ HistR r g := by
  have h1 : (objCells st.ob l u) = some [x, y, z] := by simp [objCells, ho]
  have hres : [ARes.cell p (some 3)].mapM (resOf st) = some [.agg [x, y, z]] := by
    simp [resOf, hp, h1]
  obtain ⟨a, ha, ha'⟩ := hx (nodup (List.flatMap V.toks [.agg [x, y, z]])) 0
  obtain ⟨b, hb, hb'⟩ := hy (nodup (List.flatMap V.toks [.agg [x, y, z]])) 1
  obtain ⟨c, hc, hc'⟩ := hz (nodup (List.flatMap V.toks [.agg [x, y, z]])) 2
  refine ⟨.agg [.sl a g.sn g.ss.length (g.ss.flatMap strC), .sl b g.kn g.ks.length (g.ks.flatMap strC), .sl c g.tn g.ts.length (g.ts.flatMap txnC)], ?_, a, b, c, rfl, ?_⟩
  · simp only [endV, dfOk_of hd, noDf_of hd, if_true, hres, Option.bind_some, outRes]
    generalize nodup (List.flatMap V.toks [.agg [x, y, z]]) = keep at *
    simp only [outTops, outTop, outList, ha, hb, hc, Nat.zero_add, Option.bind_some, Option.map_some]
    have hnd : nodup (List.flatMap V.toks [.agg [.sl a g.sn g.ss.length (g.ss.flatMap strC), .sl b g.kn g.ks.length (g.ks.flatMap strC), .sl c g.tn g.ts.length (g.ts.flatMap txnC)]]) = true := by
      have e : ∀ x y z : V, List.flatMap V.toks [.agg [x, y, z]] = x.tok ++ (y.tok ++ z.tok) := fun x y z => by simp [V.toks]
      rw [e, toks_sl, toks_sl, toks_sl]
      rcases ha' with rfl | ⟨_, rfl⟩ <;> rcases hb' with rfl | ⟨_, rfl⟩ <;> rcases hc' with rfl | ⟨_, rfl⟩ <;> rfl
    show (if nodup (List.flatMap V.toks [.agg [.sl a g.sn g.ss.length (g.ss.flatMap strC), .sl b g.kn g.ks.length (g.ks.flatMap strC), .sl c g.tn g.ts.length (g.ts.flatMap txnC)]]) = true then some (V.agg [.sl a g.sn g.ss.length (g.ss.flatMap strC), .sl b g.kn g.ks.length (g.ks.flatMap strC), .sl c g.tn g.ts.length (g.ts.flatMap txnC)]) else none) = _
    rw [if_pos hnd]
  · intro p hp
    simp only [List.mem_append] at hp
    rcases hp with (hp | hp) | hp
    · rcases ha' with rfl | ⟨_, rfl⟩
      · simp at hp
      · simp at hp; subst hp; simp
    · rcases hb' with rfl | ⟨_, rfl⟩
      · simp at hp
      · simp at hp; subst hp; simp
    · rcases hc' with rfl | ⟨_, rfl⟩
      · simp at hp
      · simp at hp; subst hp; simp
theorem retA_hist1 {ub : Nat} {r : V} {g : Hist'} (h : HistR r g) : ∃ a b c add, retA ub r = some { v := .agg [.sl a g.sn g.ss.length (g.ss.flatMap strC), .sl b g.kn g.ks.length (g.ks.flatMap strC), .sl c g.tn g.ts.length (g.ts.flatMap txnC)], add := add } := by
  obtain ⟨a, b, c, rfl, hlt⟩ := h
  have e : ∀ x y z : V, toksRes (.agg [x, y, z]) = x.tok ++ (y.tok ++ z.tok) := fun x y z => by simp [toksRes, V.toks]
  have hall : (toksRes (.agg [.sl a g.sn g.ss.length (g.ss.flatMap strC), .sl b g.kn g.ks.length (g.ks.flatMap strC), .sl c g.tn g.ts.length (g.ts.flatMap txnC)])).all (fun i => Nat.blt i 64) = true := by
    rw [e, List.all_eq_true]
    intro i hi
    have : ∃ p ∈ a.toList ++ b.toList ++ c.toList, p.1 = i := by
      rw [List.mem_append, List.mem_append, tokm, tokm, tokm] at hi
      rcases hi with ⟨p, hp, h⟩ | ⟨p, hp, h⟩ | ⟨p, hp, h⟩
      · exact ⟨p, by simp [hp], h⟩
      · exact ⟨p, by simp [hp], h⟩
      · exact ⟨p, by simp [hp], h⟩
    obtain ⟨p, hp, rfl⟩ := this
    rw [Nat.blt_eq]
    exact hlt p hp
  have hin : ∀ (t : Option (Nat × Nat)) (nl : Bool) (n : Nat) (cs : List V), ∃ t', inLeaf ub (.sl t nl n cs) = .sl t' nl n cs := fun t nl n cs => by
    cases t with
    | none => exact ⟨none, rfl⟩
    | some p => exact ⟨_, rfl⟩
  obtain ⟨a', ha⟩ := hin a g.sn g.ss.length (g.ss.flatMap strC)
  obtain ⟨b', hb⟩ := hin b g.kn g.ks.length (g.ks.flatMap strC)
  obtain ⟨c', hc⟩ := hin c g.tn g.ts.length (g.ts.flatMap txnC)
  refine ⟨a', b', c', (toksRes (.agg [.sl a g.sn g.ss.length (g.ss.flatMap strC), .sl b g.kn g.ks.length (g.ks.flatMap strC), .sl c g.tn g.ts.length (g.ts.flatMap txnC)])).map (ub + ·), ?_⟩
  rw [retA, if_pos hall]
  have hin2 : inRes ub (.agg [.sl a g.sn g.ss.length (g.ss.flatMap strC), .sl b g.kn g.ks.length (g.ks.flatMap strC), .sl c g.tn g.ts.length (g.ts.flatMap txnC)]) =
      .agg [inLeaf ub (.sl a g.sn g.ss.length (g.ss.flatMap strC)), inLeaf ub (.sl b g.kn g.ks.length (g.ks.flatMap strC)), inLeaf ub (.sl c g.tn g.ts.length (g.ts.flatMap txnC))] := rfl
  rw [hin2, ha, hb, hc]


end Go.Pv.T

/- Products. -/
namespace Go.Pv.T
open Go Go.Pv

theorem kS_evV {E : Env} {Yf : YF} {st : St} {ub : Nat} {K : St → Nat → Prop} {d : Option Nat} {nm : Bool} {q : A} {xs : List A} {f : FuncId} {first captured args : List V} {v : V} (hev : Ev E f args v) (hq : eval E st.tm q = .fn (.func f) first captured)
    (hx : (first ++ xs.map (eval E st.tm) ++ captured).map V.strip = args) (hs : E.sh nm f = false) (hp : args.all V.pureTop = true) (h : wpD (retA ub v) (kApp K st d ub)) : wpStep E Yf ⟨d, .callV q xs, none, nm⟩ st ub K := by
  refine wpS_callV hq ⟨⟨hs, ?_⟩, v, by rw [hx]; exact hev, h⟩
  rw [← hx, List.all_map] at hp
  exact hp
@[simp] theorem fn_strip0 (f : Fn) : (V.fn f [] []).strip = .fn f [] [] := rfl
@[simp] theorem fn_pureTop0 (f : Fn) : (V.fn f [] []).pureTop = true := rfl


def IntsAt (ob : Nat → Option Obj') (nx : Nat) (l : List Int) (v : V) : Prop :=
  (l = [] ∧ v = .sl none true 0 []) ∨ (l ≠ [] ∧ ∃ L u, v = .osl L u 0 l.length 1 ∧ ob L = some ⟨u, .cells (l.flatMap intC)⟩ ∧ u < nx ∧ L = 2 * u + 1)
end Go.Pv.T

/- Which transactions may have committed; which reads were lost. -/
namespace Go.Pv.T
open Go Go.Pv

def SlR (v : V) (nl : Bool) (n : Nat) (cs : List V) : Prop := ∃ t : Option (Nat × Nat), v = .sl t nl n cs ∧ ∀ p ∈ t.toList, p.1 < 64
theorem sl_end {st : St} {n k : Nat} {t : Option (Nat × Nat)} {nl : Bool} {cs : List V} (hd : st.df = []) (h : st.tm n = .sl t nl k cs) : ∃ r, endV [.t n] (.ret, st) = some r ∧ SlR r nl k cs := by
  have hres : [ARes.t n].mapM (resOf st) = some [.sl t nl k cs] := by simp [resOf, h]
  obtain ⟨a, ha, ha'⟩ := slOut_sl st t nl k cs (nodup (List.flatMap V.toks [.sl t nl k cs])) 0
  refine ⟨.sl a nl k cs, ?_, a, rfl, ?_⟩
  · simp only [endV, dfOk_of hd, noDf_of hd, if_true, hres, Option.bind_some, outRes]
    generalize nodup (List.flatMap V.toks [.sl t nl k cs]) = keep at *
    have e : outTop st keep 0 (.sl t nl k cs) = some (.sl a nl k cs) := ha
    simp only [outTops, e, Option.bind_some, Option.map_some]
    have hnd : nodup (List.flatMap V.toks [.sl a nl k cs]) = true := by
      rcases ha' with rfl | ⟨_, rfl⟩ <;> rfl
    show (if nodup (List.flatMap V.toks [.sl a nl k cs]) = true then some (V.sl a nl k cs) else none) = _
    rw [if_pos hnd]
  · intro p hp
    rcases ha' with rfl | ⟨_, rfl⟩
    · simp at hp
    · simp at hp; subst hp; simp
theorem retA_sl {ub : Nat} {v : V} {nl : Bool} {n : Nat} {cs : List V} (h : SlR v nl n cs) : ∃ t add, retA ub v = some { v := .sl t nl n cs, add := add } := by
  obtain ⟨t, rfl, hlt⟩ := h
  cases t with
  | none => exact ⟨none, [], rfl⟩
  | some p =>
    have := hlt p (by simp)
    refine ⟨some (ub + p.1, p.2), [ub + p.1], ?_⟩
    rw [retA, if_pos (by simp [toksRes, V.toks, V.tok, Nat.blt_eq, this])]
    rfl
theorem slE {st : St} {n k : Nat} {t : Option (Nat × Nat)} {nl : Bool} {cs : List V} {P : V → Prop} (hP : ∀ r, SlR r nl k cs → P r) (hd : st.df = []) (h : st.tm n = .sl t nl k cs) : kEndE [.t n] P .ret st := by
  obtain ⟨r, h1, h2⟩ := sl_end hd h
  exact ⟨r, h1, hP r h2⟩

def NumR (l : List Int) (v : V) : Prop := ∃ nl, SlR v nl l.length (l.flatMap intC)
theorem ev101 (t : Txn') : Ev E 101 [.agg (txnC t)] (.bool (isInfo t)) := by
  refine Ev_wpK (af := F101) rfl ?_
  simp [F101, txnC, objCells]
  exact endV_1 rfl (by simp [isInfo]) rfl
theorem may_err {g : Hist'} (hm : mayH g = true) : errH g = 0 := by unfold errH; rw [hm]; rfl
theorem ev100 {g : Hist'} (hs : Small g) (hm : mayH g = true) : ∃ v, Ev E 100 [.agg (histC g), .fn (.func 101) [] []] v ∧ NumR (infosH g) v := by
  have e70 := ev70 hs
  rw [may_err hm] at e70
  have hts := hs.ts
  refine Ev_wpE (af := F100) rfl (by decide) ?_
  simp [F100, histC, objCells]
  refine kS_ev e70 (by simp [histC]) rfl (by simp [histC]) ?_
  simp [objCells]
  refine wp_loopUp [(4, 7), (14, 26)] g.ts.length (fun i s => s.tm 14 = .int .i64 i ∧ Grow s.tk 0 s.nx intC 1 (numsTo isInfo g.ts i) (s.tm 5)) rfl rfl ⟨by simp, by simp [numsTo]; exact Grow.nil _ _ _ _ _⟩ ?_
  rintro i s hi ⟨h14, hG⟩ f
  have f1 : s.tm 1 = .fn (.func 101) [] [] := by rw [f.t 1 (by simp)]; simp
  have f12 : s.tm 12 = slOf g.tn txnC g.ts := by rw [f.t 12 (by simp)]; simp
  have f13 : s.tm 13 = .int .i64 g.ts.length := by rw [f.t 13 (by simp)]; simp
  have fd : s.df = [] := by rw [f.d]; simp
  have fb : s.fb = 0 := by rw [f.b]; simp
  have fr : s.ro = 0 := by rw [f.r]; simp
  clear f
  by_cases hlt : i < g.ts.length
  · have hw := wrapU hlt (by omega)
    have hsn := numsTo_succ (p := isInfo) hlt
    obtain ⟨t, ht⟩ : ∃ t, g.ts[i] = t := ⟨_, rfl⟩
    rw [ht] at hsn
    have hll := numsTo_len isInfo g.ts i
    simp [h14, f12, f13, hlt, idx_slOf txnC_len, load_slOf txnC_len, ht, txnC, objCells, fb, fr, splice, f1]
    refine kS_evV (f := 101) (first := []) (captured := []) (ev101 t) (by simp) (by simp [txnC]) rfl (by simp [txnC]) ?_
    cases hi : isInfo t
    · rw [hi] at hsn
      simp only [Bool.false_eq_true, if_false, List.append_nil] at hsn
      simp [h14, hw]
      exact ⟨hlt, by rw [hsn]; exact hG.mono (fun u _ _ h => by simpa [app_tk0] using h) (by omega)⟩
    · rw [hi] at hsn
      simp only [if_true] at hsn
      simp
      refine kS_buildSl (cs := [.int .i64 i]) (by simp [splice]) rfl rfl ?_
      simp
      refine kS_appendG (f := intC) (lo := 0) (hi := s.nx) (l := numsTo isInfo g.ts i) (a := (i : Int)) (v := s.tm 5) (hG.mono (fun u _ _ h => by simp [app_tk, h]) (Nat.le_refl _)) (by simp) (by simp [slCells, intC]) intC_len (by decide) rfl (by omega) (by omega) (fun del hdel => ?_)
      have hne : numsTo isInfo g.ts (i + 1) ≠ [] := by rw [hsn]; simp
      have hlen : (numsTo isInfo g.ts i).length + 1 = (numsTo isInfo g.ts (i + 1)).length := by rw [hsn]; simp
      rw [← hsn, hlen]
      simp [h14, hw]
      exact ⟨hlt, .inr ⟨hne, _, rfl, by simp [app_tk], Nat.zero_le _, by omega⟩⟩
  · have : i = g.ts.length := by omega
    subst this
    obtain ⟨t, ht⟩ := hG.form
    simp [h14, f13]
    exact slE (t := t) (nl := (numsTo isInfo g.ts g.ts.length).isEmpty) (k := (infosH g).length) (cs := (infosH g).flatMap intC) (fun r h => ⟨_, h⟩) (by simp [fd]) (by simp [ht, infosH])
theorem ev61 {g : Hist'} (hs : Small g) (hm : mayH g = true) : ∃ v, Ev E 61 [.agg (histC g)] v ∧ NumR (infosH g) v := by
  obtain ⟨v, ev, nl, hv⟩ := ev100 hs hm
  refine Ev_wpE (af := F61) rfl (by decide) ?_
  simp [F61, histC, objCells]
  refine kS_ev ev (by simp [histC]) rfl (by simp [histC]) ?_
  obtain ⟨t, add, hr⟩ := retA_sl (ub := 192) hv
  rw [hr]
  simp
  exact slE (t := t) (nl := nl) (k := (infosH g).length) (cs := (infosH g).flatMap intC) (fun r h => ⟨_, h⟩) rfl (by simp)

theorem slE_df {st : St} {n k l u : Nat} {t : Option (Nat × Nat)} {nl : Bool} {cs : List V} {P : V → Prop} (hP : ∀ r, SlR r nl k cs → P r) (hd : st.df = [(l, u)]) (ho : st.ob l = some ⟨u, .dfr⟩) (hr : st.ro ≤ u) (h : st.tm n = .sl t nl k cs) : kEndE [.t n] P .ret st := by
  obtain ⟨r, h1, h2⟩ := sl_end (st := { st with ob := fun k => if Nat.beq l k then none else st.ob k, df := [] }) rfl h
  exact ⟨r, endV_df hd ho hr h1, hP r h2⟩
def placeC (p : Int × Int) : List V := [.int .i64 p.1, .int .i64 p.2]
@[simp] theorem placeC_len (p : Int × Int) : (placeC p).length = 2 := rfl
def lostIn (i : Nat) (ops : List Op') : Nat → List (Int × Int)
  | 0 => []
  | k + 1 => lostIn i ops k ++ (match ops[k]? with | some o => if o.v.kind == 2 then [((i : Int), (k : Int))] else [] | none => [])
def lostTo (ts : List Txn') : Nat → List (Int × Int)
  | 0 => []
  | i + 1 => lostTo ts i ++ (match ts[i]? with | some t => lostIn i t.ops t.ops.length | none => [])
def lostAt (h : Hist') (i k : Nat) : List (Int × Int) := lostTo h.ts i ++ (match h.ts[i]? with | some t => lostIn i t.ops k | none => [])
def lostH (h : Hist') : List (Int × Int) := lostTo h.ts h.ts.length
theorem lostIn_len (i : Nat) (ops : List Op') : ∀ k, (lostIn i ops k).length ≤ k
  | 0 => Nat.le_refl _
  | k + 1 => by
    have := lostIn_len i ops k
    simp only [lostIn, List.length_append]
    split
    · split <;> simp <;> omega
    · simp; omega
set_option maxRecDepth 100000 in
theorem lostTo_len {ts : List Txn'} (h : ∀ t ∈ ts, t.ops.length ≤ 1000) : ∀ i, (lostTo ts i).length ≤ i * 1000
  | 0 => Nat.zero_le _
  | i + 1 => by
    have := lostTo_len h i
    simp only [lostTo, List.length_append]
    rw [show (i + 1) * 1000 = i * 1000 + 1000 by omega]
    split
    · rename_i t ht
      have h1 := lostIn_len i t.ops t.ops.length
      have h2 := h t (List.mem_of_getElem? ht)
      omega
    · simp only [List.length_nil]; omega
theorem lostAt_step {h : Hist'} {i k : Nat} (hi : i < h.ts.length) (hk : k < (h.ts[i]).ops.length) : lostAt h i (k + 1) = lostAt h i k ++ (if (h.ts[i]).ops[k].v.kind == 2 then [((i : Int), (k : Int))] else []) := by
  simp only [lostAt, List.getElem?_eq_getElem hi, lostIn, List.getElem?_eq_getElem hk, List.append_assoc]
theorem lostAt_next {h : Hist'} {i : Nat} (hi : i < h.ts.length) : lostAt h i (h.ts[i]).ops.length = lostAt h (i + 1) 0 := by
  simp only [lostAt, List.getElem?_eq_getElem hi, lostTo]
  cases h.ts[i + 1]? <;> simp [lostIn]
theorem lostAt_end (h : Hist') : lostAt h h.ts.length 0 = lostH h := by simp [lostAt, lostH]
theorem lostAt_zero (h : Hist') : lostAt h 0 0 = [] := by unfold lostAt; cases h.ts[0]? <;> rfl
set_option maxRecDepth 100000 in
theorem lostAt_len {h : Hist'} (hs : Small h) {i k : Nat} (hi : i < h.ts.length) (hk : k ≤ (h.ts[i]).ops.length) : (lostAt h i k).length ≤ 1001000 := by
  have h1 := lostTo_len hs.os i
  have h2 := hs.ts
  have h3 := lostIn_len i (h.ts[i]).ops k
  have h4 := hs.os _ (List.getElem_mem hi)
  simp only [lostAt, List.getElem?_eq_getElem hi, List.length_append]
  have : i * 1000 ≤ 1000 * 1000 := Nat.mul_le_mul_right _ (by omega)
  omega
def PlR (l : List (Int × Int)) (v : V) : Prop := ∃ nl, SlR v nl l.length (l.flatMap placeC)
theorem ev62 {g : Hist'} (hs : Small g) (hm : mayH g = true) : ∃ v, Ev E 62 [.agg (histC g)] v ∧ PlR (lostH g) v := by
  have e70 := ev70 hs
  rw [may_err hm] at e70
  have hts := hs.ts
  refine Ev_wpE (af := F62) rfl (by decide) ?_
  simp [F62, histC, objCells]
  refine kS_ev e70 (by simp [histC]) rfl (by simp [histC]) ?_
  simp [objCells]
  refine kS_callS (vs := [.agg (histC g)]) (by simp [histC]) rfl ?_
  obtain ⟨r, hr, e1, e2, e3, e4⟩ := ev102 (Yf := noYF) g _ _ 0 _ _
  refine ⟨r, hr, ?_⟩
  simp
  refine wpC_gen fun st hst => ?_
  obtain ⟨m, hmm, hmU, g10, p2, p6, pl⟩ : ∃ m, m % 64 = 0 ∧ m < st.nx ∧ st.tm 10 = .fn (.func 146) [] [.ptr (2 * m + 1) m 0] ∧ st.ob 2 = some ⟨0, .cells (histC g)⟩ ∧ (∃ u, st.tm 3 = .ptr 6 u 0 ∧ st.ob 6 = some ⟨u, .cells [.sl none true 0 []]⟩) ∧ st.ob (2 * m + 1) = some ⟨m, .cells (histC g)⟩ := by
    refine ⟨_, ?_, ?_, by rw [hst]; simp only [setN_tm, put, upd_same]; exact e1, ?_, ⟨320, ?_, ?_⟩, ?_⟩
    · decide
    · rw [hst, setN_nx, e4]; omega
    · rw [hst]; simp only [setN_ob]; rw [e2]; simp [histC]
    · rw [hst]; simp [put, upd_apply]
    · rw [hst]; simp only [setN_ob]; rw [e2]; simp
    · rw [hst]; simp only [setN_ob]; rw [e2]; simp
  obtain ⟨u6, g3, p6⟩ := p6
  have gd : st.df = [] := by rw [hst]; simp
  have gb : st.fb = 0 := by rw [hst]; simp
  have gr : st.ro = 0 := by rw [hst]; simp
  clear hst e1 e2 e3 e4 hr
  refine range_opsN g hts (fun t ht => by have := hs.os t ht; omega) rfl rfl rfl (by simpa using g10) pl (by omega) (by omega) gr
    (fun i k ob tk ub => ∃ Lv, ob 6 = some ⟨u6, .cells [Lv]⟩ ∧ Grow tk 0 ub placeC 2 (lostAt g i k) Lv) ?_ ?_ ?_ ?_ ?_
  · rintro i k ob ob' tk ub ub' ⟨Lv, h1, h2⟩ hub hfr
    exact ⟨Lv, (hfr 6 (fun m _ => by omega)).trans h1, h2.mono (fun _ _ _ h => h) hub⟩
  · rintro i hi ob tk ub ⟨Lv, h1, h2⟩
    exact ⟨Lv, h1, by rw [← lostAt_next hi]; exact h2⟩
  · rintro i hi k hk ob tk ub ⟨Lv, h1, h2⟩ w1 w3 hub
    have r1 : ¬ 2 * st.nx + 1 = 8 := by omega
    have r3 : ¬ 2 * st.nx + 1 = 10 := by omega
    have r5 : ¬ 2 * st.nx + 1 = 6 := by omega
    have q1 : ¬ 2 * st.nx + 3 = 8 := by omega
    have q3 : ¬ 2 * st.nx + 3 = 10 := by omega
    have q5 : ¬ 2 * st.nx + 3 = 6 := by omega
    have q7 : ¬ 2 * st.nx + 3 = 2 * st.nx + 1 := by omega
    have b8 : ¬ 8 = 2 * st.nx + 1 := by omega
    have b10 : ¬ 10 = 2 * st.nx + 1 := by omega
    have b6 : ¬ 6 = 2 * st.nx + 1 := by omega
    have hstep := lostAt_step hi hk
    have hll := lostAt_len hs hi (Nat.le_of_lt hk)
    obtain ⟨o, ho⟩ : ∃ o, (g.ts[i]).ops[k] = o := ⟨_, rfl⟩
    rw [ho] at hstep ⊢
    obtain ⟨tL, hLv⟩ := h2.form
    simp [setPs, upd_apply, opC, objCells, gb, splice, r1, r3, w1, b10]
    cases hl : (o.v.kind == 2)
    · rw [hl] at hstep
      simp only [Bool.false_eq_true, if_false, List.append_nil] at hstep
      simp [upd_apply, q1, q3, w3, b6, h1]
      exact ⟨by omega, by rw [hstep]; exact h2.mono (fun u _ _ h => by simpa [app_tk0] using h) (by omega)⟩
    · rw [hl] at hstep
      simp only [if_true] at hstep
      simp [g3, upd_apply, b6, h1, objCells, b8]
      refine kS_buildSl (cs := placeC (i, k)) (by simp [splice, placeC]) rfl rfl ?_
      simp
      refine kS_appendG (f := placeC) (lo := 0) (hi := ub) (l := lostAt g i k) (a := ((i : Int), (k : Int))) (v := Lv) (h2.mono (fun u _ _ h => by simp [app_tk0, app_tk, h]) (Nat.le_refl _)) (by simp) (by simp [slCells, placeC]) placeC_len (by decide) rfl (by omega) (by omega) (fun del hdel => ?_)
      have hne : lostAt g i (k + 1) ≠ [] := by rw [hstep]; simp
      have hlen : (lostAt g i k).length + 1 = (lostAt g i (k + 1)).length := by rw [hstep]; simp
      rw [← hstep, hlen]
      simp [g3, upd_apply, b6, h1, objCells, splice, r5, q5, q1, q3, w3]
      exact ⟨by omega, .inr ⟨hne, _, rfl, by simp [app_tk0, app_tk], Nat.zero_le _, by omega⟩⟩
  · exact ⟨_, p6, by rw [lostAt_zero]; exact Grow.nil _ _ _ _ _⟩
  · rintro ob tk ub ⟨Lv, h1, h2⟩ w3 hub
    rw [lostAt_end] at h2
    obtain ⟨tL, hLv⟩ := h2.form
    simp [g3, objCells, h1, hLv]
    exact slE_df (l := 2 * st.nx + 3) (u := st.nx + 1) (t := tL) (nl := (lostH g).isEmpty) (k := (lostH g).length) (cs := (lostH g).flatMap placeC) (fun r h => ⟨_, h⟩) (by simp [gd]) (by simp [w3]) (by simp [gr]) (by simp)
end Go.Pv.T

/- The reference's lost reads; who writes a key. -/
namespace Go.Pv.T
open Go Go.Pv

def GrowT {α : Type} (tk : Nat → Bool) (nx : Nat) (f : α → List V) (sz : Nat) (l : List α) (v : V) : Prop := ∃ u, v = .sl (some (u, sz)) false l.length (l.flatMap f) ∧ tk u = true ∧ u < nx
theorem GrowT.mono {α : Type} {tk tk' : Nat → Bool} {nx nx' : Nat} {f : α → List V} {sz : Nat} {l : List α} {v : V} (h : GrowT tk nx f sz l v) (ht : ∀ u, u < nx → tk u = true → tk' u = true) (hn : nx ≤ nx') : GrowT tk' nx' f sz l v := by
  obtain ⟨u, hv, h1, h2⟩ := h
  exact ⟨u, hv, ht u h2 h1, by omega⟩
theorem kS_appendT {E : Env} {Yf : YF} {st : St} {ub : Nat} {K : St → Nat → Prop} {d : Option Nat} {nm : Bool} {α : Type} {f : α → List V} {sz bytes hi : Nat} {l : List α} {a : α} {v : V} {s x : A} (hg : GrowT st.tk hi f sz l v) (hs : eval E st.tm s = v) (hx : slCells st.ob sz (eval E st.tm x) = some (f a)) (hf : ∀ a, (f a).length = sz) (h0 : 0 < sz)
    (hp : (f a).all V.pureLeaf = true) (hb : (l.length + 1) * bytes ≤ 140737488355328) (hb2 : l.length + 1 ≤ 140737488355328)
    (h : ∀ del : Option Nat, (∀ u, del = some u → u < hi) → kApp K st d ub { v := .sl (some (ub, sz)) false (l.length + 1) ((l ++ [a]).flatMap f), del := del, add := [ub] }) : wpStep E Yf ⟨d, .append false sz bytes s x, none, nm⟩ st ub K := by
  have hne : f a ≠ [] := fun e => by have := hf a; rw [e] at this; simp at this; omega
  have h1 : (f a).length / sz = 1 := by rw [hf]; exact Nat.div_self h0
  obtain ⟨u, rfl, ht, h3⟩ := hg
  refine kS_append_tok hs ht hx hne (by rw [flatMap_len hf]) h0 hp (by rw [h1]; exact hb) (by rw [h1]; exact hb2) ?_
  rw [h1]
  have := h (some u) (fun u' e => by cases e; exact h3)
  simpa using this
theorem ev66 {g : Hist'} (hs : Small g) : ∃ v, Ev E 66 [.agg (histC g)] v ∧ PlR (lostH g) v := by
  have hts := hs.ts
  refine Ev_wpE (af := F66) rfl (by decide) ?_
  simp [F66, histC]
  refine kS_buildSl (cs := []) rfl rfl rfl ?_
  simp
  refine wp_loopUp [(3, 5), (7, 42)] g.ts.length (fun i s => s.tm 4 = .int .i64 i ∧ s.ob 2 = some ⟨0, .cells (histC g)⟩ ∧ GrowT s.tk s.nx placeC 2 (lostAt g i 0) (s.tm 3)) rfl rfl ⟨by simp, by simp [histC], by rw [lostAt_zero]; exact ⟨128, by simp, by simp [app_tk], by simp⟩⟩ ?_
  rintro i s hi ⟨h4, o2, hG⟩ f
  have f1 : s.tm 1 = .ptr 2 0 0 := by rw [f.t 1 (by simp)]; simp
  have fd : s.df = [] := by rw [f.d]; simp
  clear f
  by_cases hlt : i < g.ts.length
  · have hw := wrapU hlt (by omega)
    simp [h4, f1, o2, objCells, histC, hlt]
    refine wp_loopUp [(3, 3), (5, 5), (14, 42)] (g.ts[i]).ops.length (fun k s' => s'.tm 5 = .int .i64 k ∧ s'.ob = s.ob ∧ GrowT s'.tk s'.nx placeC 2 (lostAt g i k) (s'.tm 3)) rfl rfl ⟨by simp, by simp, by simp; exact hG.mono (fun _ _ h => h) (by omega)⟩ ?_
    rintro k s' hk ⟨h5, hob, hG'⟩ f
    have e1 : s'.tm 1 = .ptr 2 0 0 := by rw [f.t 1 (by simp)]; simp [f1]
    have e4 : s'.tm 4 = .int .i64 i := by rw [f.t 4 (by simp)]; simp [h4]
    have ed : s'.df = [] := by rw [f.d]; simp [fd]
    clear f
    have o2' : s'.ob 2 = some ⟨0, .cells (histC g)⟩ := by rw [hob]; exact o2
    obtain ⟨t, ht⟩ : ∃ t, g.ts[i] = t := ⟨_, rfl⟩
    have hos := hs.os t (ht ▸ List.getElem_mem hlt)
    have hfo : (g.ts.flatMap txnC)[i * 3 + 2]? = some (slOf t.nl opC t.ops) := by
      rw [fld_at txnC_len g.ts hlt (by decide : 2 < 3), ht]; rfl
    by_cases hkt : k < (g.ts[i]).ops.length
    · have hstep := lostAt_step hlt hkt
      have hll := lostAt_len hs hlt (Nat.le_of_lt hkt)
      obtain ⟨o, ho⟩ : ∃ o, (g.ts[i]).ops[k] = o := ⟨_, rfl⟩
      rw [ho] at hstep
      subst ht
      have hw' := wrapU hkt (by omega)
      have hfk : ((g.ts[i]).ops.flatMap opC)[k * 4 + 2]? = some (.int .i64 o.v.kind) := by
        rw [fld_at opC_len (g.ts[i]).ops hkt (by decide : 2 < 4), ho]; rfl
      cases hl : (o.v.kind == 2)
      · rw [hl] at hstep
        simp only [Bool.false_eq_true, if_false, List.append_nil] at hstep
        simp [h5, e1, e4, objCells, histC, hlt, idx_slOf txnC_len, hfo, hkt, idx_slOf opC_len, hfk, hl, hw', hob, o2]
        rw [hstep]
        exact hG'.mono (fun _ _ h => h) (by omega)
      · rw [hl] at hstep
        simp only [if_true] at hstep
        simp [h5, e1, e4, o2', objCells, histC, hlt, idx_slOf txnC_len, hfo, hkt, idx_slOf opC_len, hfk, hl, splice]
        refine kS_buildSl (cs := placeC (i, k)) (by simp [splice, placeC]) rfl rfl ?_
        simp
        refine kS_appendT (f := placeC) (hi := s'.nx) (l := lostAt g i k) (a := ((i : Int), (k : Int))) (v := s'.tm 3) (hG'.mono (fun u _ h => by simp [app_tk, h]) (Nat.le_refl _)) (by simp) (by simp [slCells, placeC]) placeC_len (by decide) rfl (by omega) (by omega) (fun del hdel => ?_)
        have hlen : (lostAt g i k).length + 1 = (lostAt g i (k + 1)).length := by rw [hstep]; simp
        rw [← hstep, hlen]
        simp [h5, hw', hob]
        exact ⟨hkt, _, rfl, by simp [app_tk], by omega⟩
    · have : k = (g.ts[i]).ops.length := by omega
      subst this
      subst ht
      simp [h5, e1, e4, o2', objCells, histC, hlt, idx_slOf txnC_len, hfo, hw]
      rw [← lostAt_next hlt]
      exact hG'.mono (fun _ _ h => h) (by omega)
  · have : i = g.ts.length := by omega
    subst this
    rw [lostAt_end] at hG
    obtain ⟨u, hv, _, _⟩ := hG
    simp [h4, f1, o2, objCells, histC]
    exact slE (t := some (u, 2)) (nl := false) (k := (lostH g).length) (cs := (lostH g).flatMap placeC) (fun r h => ⟨_, h⟩) (by simp [fd]) (by simp [hv])

def wkB (k : Int) (o : Op') : Bool := o.w && o.key == k
def wrB (k : Int) (t : Txn') : Bool := t.f != 2 && t.ops.any (wkB k)
def KeyAt (k : Int) (ob : Nat → Option Obj') (l u : Nat) : Prop := l % 2 = 0 ∧ ob l = some ⟨u, .cells [.int .i64 k]⟩
theorem evo115 {k : Int} {ob : Nat → Option Obj'} {l u : Nat} (hk : KeyAt k ob l u) (o : Op') (tk : Nat → Bool) (base ub : Nat) : EvO E 115 [.agg (opC o), .ptr l u 0] ob tk base ub (.bool (wkB k o)) := by
  obtain ⟨h2, ho⟩ := hk
  refine EvO_wpK (af := S115) rfl ?_
  have hne : ¬ l = 2 * ub + 1 := by omega
  unfold wkB
  cases hw : o.w
  · simp [S115, opC, objCells, hw]
    exact endV_1 rfl (by simp) rfl
  · simp [S115, opC, objCells, hw, hne, ho]
    exact endV_1 rfl (by simp) rfl
theorem evo156 {p : Op' → Bool} {g : FuncId} {cap : V} {ob : Nat → Option Obj'} (hs : E.sh true g = false) (hcap : cap.strip.pureTop = false) (hp : ∀ (t : Op') (tk : Nat → Bool) (base ub : Nat), EvO E g [.agg (opC t), cap] ob tk base ub (.bool (p t)))
    (nl : Bool) (l : List Op') (hl : l.length ≤ 1000000000) (tk : Nat → Bool) (base ub : Nat) : EvO E 156 [slOf nl opC l, .fn (.func g) [] [cap]] ob tk base ub (.int .i64 (firstI p l)) := by
  refine EvO_wpK (af := S156) rfl ?_
  simp [S156]
  refine wp_loopUp [(4, 5), (8, 18)] l.length (fun i s => s.tm 8 = .int .i64 i ∧ s.ob = ob ∧ ∀ j (hj : j < l.length), j < i → p l[j] = false) rfl rfl ⟨by simp, by simp, fun _ _ h => by omega⟩ ?_
  rintro i s hi ⟨h8, ho, hb⟩ f
  have h0 : s.tm 0 = slOf nl opC l := by rw [f.t 0 (by simp)]; simp
  have h1 : s.tm 1 = .fn (.func g) [] [cap] := by rw [f.t 1 (by simp)]; simp
  have h7 : s.tm 7 = .int .i64 l.length := by rw [f.t 7 (by simp)]; simp
  have hd : s.df = [] := by rw [f.d]; simp
  clear f
  by_cases hlt : i < l.length
  · have hw := wrapU hlt hl
    simp [h0, h1, h7, h8, hlt, idx_slOf opC_len, load_slOf opC_len]
    refine kS_callVO (f := g) (first := []) (captured := [cap]) (by simp) hs (by simp [hcap]) (v := .bool (p l[i])) (by simpa [ho] using hp l[i] _ _ _) ?_
    cases hpi : p l[i]
    · simp [h8, hw]
      refine ⟨hlt, ho, ?_⟩
      intro j hj hji
      rcases Nat.lt_succ_iff_lt_or_eq.1 hji with h | rfl
      · exact hb j hj h
      · exact hpi
    · simp
      refine endV_1 (by simpa using hd) ?_ rfl
      simp
      rw [firstI_found hlt hpi hb]
  · have : i = l.length := by omega
    subst this
    simp [h7, h8]
    refine endV_1 (by simpa using hd) ?_ rfl
    simp [firstI_none (fun j hj => hb j hj hj)]
theorem evo114 {p : Op' → Bool} {g : FuncId} {ob : Nat → Option Obj'} {a b c : Nat} (hs : E.sh true g = false) (hp : ∀ (t : Op') (tk : Nat → Bool) (base ub : Nat), EvO E g [.agg (opC t), .ptr a b c] ob tk base ub (.bool (p t)))
    (nl : Bool) (l : List Op') (hl : l.length ≤ 1000000000) (tk : Nat → Bool) (base ub : Nat) : EvO E 114 [slOf nl opC l, .fn (.func g) [] [.ptr a b c]] ob tk base ub (.bool (l.any p)) := by
  refine EvO_wpK (af := S114) rfl ?_
  simp [S114]
  refine kS_callO (vs := [slOf nl opC l, .fn (.func g) [] [.ptr a b c]]) (by simp) rfl rfl (evo156 hs rfl hp nl l hl _ _ _) ?_
  simp
  exact endV_1 rfl (by simp [firstI_any]) rfl
theorem evo113 {k : Int} {ob : Nat → Option Obj'} {l u : Nat} (hk : KeyAt k ob l u) (t : Txn') (ht : t.ops.length ≤ 1000000) (tk : Nat → Bool) (base ub : Nat) : EvO E 113 [.agg (txnC t), .ptr l u 0] ob tk base ub (.bool (wrB k t)) := by
  have hne : ¬ l = 2 * ub + 1 := by have := hk.1; omega
  refine EvO_wpK (af := S113) rfl ?_
  unfold wrB
  cases hf : (t.f != 2)
  · simp [S113, txnC, objCells, hf]
    exact endV_1 rfl (by simp) rfl
  · simp [S113, txnC, objCells, hf]
    refine kS_callO (vs := [slOf t.nl opC t.ops, .fn (.func 115) [] [.ptr l u 0]]) (by simp) rfl rfl (evo114 (p := wkB k) rfl (fun t' tk base ub' => evo115 ?_ t' tk base ub') t.nl t.ops (by omega) _ _ _) ?_
    · obtain ⟨h2, ho⟩ := hk
      exact ⟨h2, by simp [hne, ho]⟩
    · simp
      exact endV_1 rfl (by simp) rfl
end Go.Pv.T

/- How many write one key at most. -/
namespace Go.Pv.T
open Go Go.Pv

def writersH (g : Hist') (k : Int) : List Int := numsTo (wrB k) g.ts g.ts.length
theorem ev72 {g : Hist'} (hs : Small g) (hm : mayH g = true) (k : Int) : ∃ v, Ev E 72 [.agg (histC g), .int .i64 k] v ∧ NumR (writersH g k) v := by
  have e70 := ev70 hs
  rw [may_err hm] at e70
  have hts := hs.ts
  refine Ev_wpE (af := F72) rfl (by decide) ?_
  simp [F72, histC, objCells]
  refine kS_ev e70 (by simp [histC]) rfl (by simp [histC]) ?_
  simp [objCells]
  refine wp_loopUp [(4, 4), (6, 8), (16, 28)] g.ts.length (fun i s => s.tm 16 = .int .i64 i ∧ s.ob 6 = some ⟨64, .cells [.int .i64 k]⟩ ∧ Grow s.tk 0 s.nx intC 1 (numsTo (wrB k) g.ts i) (s.tm 6)) rfl rfl ⟨by simp, by simp, by simp [numsTo]; exact Grow.nil _ _ _ _ _⟩ ?_
  rintro i s hi ⟨h16, o6, hG⟩ f
  have f5 : s.tm 5 = .fn (.func 113) [] [.ptr 6 64 0] := by rw [f.t 5 (by simp)]; simp
  have f14 : s.tm 14 = slOf g.tn txnC g.ts := by rw [f.t 14 (by simp)]; simp
  have f15 : s.tm 15 = .int .i64 g.ts.length := by rw [f.t 15 (by simp)]; simp
  have fd : s.df = [] := by rw [f.d]; simp
  have fb : s.fb = 0 := by rw [f.b]; simp
  have fr : s.ro = 0 := by rw [f.r]; simp
  clear f
  by_cases hlt : i < g.ts.length
  · have hw := wrapU hlt (by omega)
    have hsn := numsTo_succ (p := wrB k) hlt
    obtain ⟨t, ht⟩ : ∃ t, g.ts[i] = t := ⟨_, rfl⟩
    rw [ht] at hsn
    have hos := hs.os t (ht ▸ List.getElem_mem hlt)
    have hll := numsTo_len (wrB k) g.ts i
    simp [h16, f14, f15, hlt, idx_slOf txnC_len, load_slOf txnC_len, ht, txnC, objCells, fb, fr, splice, f5]
    refine kS_callVO (f := 113) (first := []) (captured := [.ptr 6 64 0]) (by simp) rfl (by simp; rfl) (evo113 (k := k) (l := 6) (u := 64) ⟨rfl, by simp [o6]⟩ t (by omega) _ _ _) ?_
    cases hi : wrB k t
    · rw [hi] at hsn
      simp only [Bool.false_eq_true, if_false, List.append_nil] at hsn
      simp [h16, hw, o6]
      exact ⟨hlt, by rw [hsn]; exact hG.mono (fun u _ _ h => by simpa [app_tk0] using h) (by omega)⟩
    · rw [hi] at hsn
      simp only [if_true] at hsn
      simp
      refine kS_buildSl (cs := [.int .i64 i]) (by simp [splice]) rfl rfl ?_
      simp
      refine kS_appendG (f := intC) (lo := 0) (hi := s.nx) (l := numsTo (wrB k) g.ts i) (a := (i : Int)) (v := s.tm 6) (hG.mono (fun u _ _ h => by simp [app_tk, h]) (Nat.le_refl _)) (by simp) (by simp [slCells, intC]) intC_len (by decide) rfl (by omega) (by omega) (fun del hdel => ?_)
      have hne : numsTo (wrB k) g.ts (i + 1) ≠ [] := by rw [hsn]; simp
      have hlen : (numsTo (wrB k) g.ts i).length + 1 = (numsTo (wrB k) g.ts (i + 1)).length := by rw [hsn]; simp
      rw [← hsn, hlen]
      simp [h16, hw, o6]
      exact ⟨hlt, .inr ⟨hne, _, rfl, by simp [app_tk], Nat.zero_le _, by omega⟩⟩
  · have : i = g.ts.length := by omega
    subst this
    obtain ⟨t, ht⟩ := hG.form
    simp [h16, f15]
    exact slE (t := t) (nl := (numsTo (wrB k) g.ts g.ts.length).isEmpty) (k := (writersH g k).length) (cs := (writersH g k).flatMap intC) (fun r h => ⟨_, h⟩) (by simp [fd]) (by simp [ht, writersH])
def mostTo (g : Hist') : Nat → Nat
  | 0 => 0
  | i + 1 => max (mostTo g i) (writersH g i).length
def mostH (g : Hist') : Nat := mostTo g g.ks.length
theorem mostTo_le {g : Hist'} (hs : Small g) : ∀ i, mostTo g i ≤ 1000
  | 0 => Nat.zero_le _
  | i + 1 => by
    have h1 := mostTo_le hs i
    have h2 := numsTo_len (wrB i) g.ts g.ts.length
    have h3 := hs.ts
    simp only [mostTo, writersH]
    omega
end Go.Pv.T

/- How many write one key at most: the reference's way. -/
namespace Go.Pv.T
open Go Go.Pv

def rawTo (k : Int) (ops : List Op') : Nat → Val' × Bool
  | 0 => (⟨0, 0⟩, false)
  | i + 1 => match ops[i]? with
    | some o => if wkB k o then (o.v, true) else rawTo k ops i
    | none => rawTo k ops i
theorem rawTo_succ {k : Int} {ops : List Op'} {i : Nat} (h : i < ops.length) : rawTo k ops (i + 1) = if wkB k ops[i] then (ops[i].v, true) else rawTo k ops i := by simp [rawTo, List.getElem?_eq_getElem h]
theorem rawTo_any (k : Int) (ops : List Op') : ∀ i, i ≤ ops.length → (rawTo k ops i).2 = (ops.take i).any (wkB k)
  | 0, _ => by simp [rawTo]
  | i + 1, h => by
    rw [rawTo_succ (by omega), List.take_succ_eq_append_getElem (by omega), List.any_append, ← rawTo_any k ops i (by omega)]
    cases hw : wkB k ops[i] <;> simp [hw]
theorem ev78 (t : Txn') (ht : t.ops.length ≤ 1000000) (k : Int) : Ev E 78 [.agg (txnC t), .int .i64 t.ops.length, .int .i64 k] (.tup [.agg (valC (rawTo k t.ops t.ops.length).1), .bool (rawTo k t.ops t.ops.length).2]) := by
  refine Ev_wpK (af := F78) rfl ?_
  simp [F78, txnC, objCells, splice]
  refine wp_loopUp [(9, 10), (12, 45)] t.ops.length (fun i s => s.tm 10 = .int .i64 i ∧ s.ob 6 = some ⟨0, .cells (txnC t)⟩ ∧ s.ob 12 = some ⟨64, .cells [.int .i64 0, .int .i64 0]⟩ ∧ s.ob 16 = some ⟨256, .cells (valC (rawTo k t.ops i).1)⟩ ∧ s.tm 9 = .bool (rawTo k t.ops i).2) rfl rfl
    ⟨by simp, by simp [txnC], by simp, by simp [rawTo, valC], by simp [rawTo]⟩ ?_
  rintro i s hi ⟨h10, o6, o12, o16, h9⟩ f
  have f1 : s.tm 1 = .int .i64 t.ops.length := by rw [f.t 1 (by simp)]; simp
  have f2 : s.tm 2 = .int .i64 k := by rw [f.t 2 (by simp)]; simp
  have f3 : s.tm 3 = .ptr 6 0 0 := by rw [f.t 3 (by simp)]; simp
  have f6 : s.tm 6 = .ptr 12 64 0 := by rw [f.t 6 (by simp)]; simp
  have f8 : s.tm 8 = .ptr 16 256 0 := by rw [f.t 8 (by simp)]; simp
  have fd : s.df = [] := by rw [f.d]; simp
  have fr : s.ro = 0 := by rw [f.r]; simp
  clear f
  by_cases hlt : i < t.ops.length
  · have hw := wrapU hlt (by omega)
    have hs := rawTo_succ (k := k) hlt
    obtain ⟨o, ho⟩ : ∃ o, t.ops[i] = o := ⟨_, rfl⟩
    rw [ho] at hs
    have a0 : (t.ops.flatMap opC)[i * 4]? = some (.bool o.w) := by
      have := fld_at opC_len t.ops hlt (by decide : 0 < 4)
      rw [Nat.add_zero, ho] at this
      rw [this]; rfl
    have a1 : (t.ops.flatMap opC)[i * 4 + 1]? = some (.int .i64 o.key) := by
      rw [fld_at opC_len t.ops hlt (by decide : 1 < 4), ho]; rfl
    have a2 : ∀ ob, loadV ob (some 2) (.eptr (t.ops.flatMap opC) (i * 4 + 2)) = some (.agg (valC o.v)) := fun ob => by
      have hle : i * 4 + 4 ≤ t.ops.length * 4 := by omega
      rw [loadV_e, pick1_some, if_pos (by rw [flatMap_len opC_len]; omega)]
      have := flatMap_at opC_len t.ops i hlt
      rw [ho] at this
      have e : ((t.ops.flatMap opC).drop (i * 4 + 2)).take 2 = ((((t.ops.flatMap opC).drop (i * 4)).take 4).drop 2) := by
        rw [List.drop_take, List.drop_drop]
      rw [e, this]
      rfl
    cases hwk : o.w
    · have hk : wkB k o = false := by unfold wkB; rw [hwk]; rfl
      rw [hk] at hs
      simp only [Bool.false_eq_true, if_false] at hs
      simp [h10, f1, f3, o6, objCells, txnC, hlt, idx_slOf opC_len, a0, hwk, hw, o12, o16, h9]
      exact ⟨by rw [hs], by rw [hs]⟩
    · cases hke : (o.key == k)
      · have hk : wkB k o = false := by unfold wkB; rw [hwk, hke]; rfl
        rw [hk] at hs
        simp only [Bool.false_eq_true, if_false] at hs
        simp [h10, f1, f2, f3, o6, objCells, txnC, hlt, idx_slOf opC_len, a0, a1, hwk, hke, hw, o12, o16, h9]
        exact ⟨by rw [hs], by rw [hs]⟩
      · have hk : wkB k o = true := by unfold wkB; rw [hwk, hke]; rfl
        rw [hk] at hs
        simp only [if_true] at hs
        simp [h10, f1, f2, f3, f8, o6, objCells, txnC, hlt, idx_slOf opC_len, a0, a1, a2, hwk, hke, hw, o12, o16, valC, fr, splice]
        rw [hs]
        simp
  · have : i = t.ops.length := by omega
    subst this
    simp [h10, f1, f8, o16, objCells, h9, f6, o12, valC, fr, splice]
    exact kEnd_of (by simp [fd]) (l := [.agg (valC (rawTo k t.ops t.ops.length).1), .bool (rawTo k t.ops t.ops.length).2]) (by simp [resOf, objCells, f6, valC]) rfl rfl
end Go.Pv.T

/- slices.Repeat, of one number. -/
namespace Go.Pv.T
open Go Go.Pv

section
variable {E : Env} {Yf : YF} {st : St} {ub : Nat} {K : St → Nat → Prop} {d : Option Nat} {nm : Bool}
end
theorem solid_osl {st : St} {L u n : Nat} {cs : List V} (ho : st.ob L = some ⟨u, .cells cs⟩) (hl : cs.length = n) (hro : st.ro ≤ u) (hp : cs.all V.pureLeaf = true) : solid st 6 (.osl L u 0 n 1) = some (.sl none false n cs) := by
  have hoc : objCells st.ob L u = some cs := by simp [objCells, ho]
  have hm : ∀ (k : Nat) (l : List V), l.all V.pureLeaf = true → l.mapM (solid st (k + 1)) = some l := by
    intro k l
    induction l with
    | nil => intro _; rfl
    | cons a l ih =>
      intro h
      simp only [List.all_cons, Bool.and_eq_true] at h
      rw [List.mapM_cons, ih h.2]
      have : solid st (k + 1) a = some a := by
        have := outLeaf_pure (st := st) (keep := false) (i := 0) h.1
        cases a with
        | sl t nl n cs => cases t with
          | none => rfl
          | some t => cases h.1
        | osl => cases h.1
        | _ => simp only [solid, h.1, if_true]
      rw [this]
      rfl
  show ((objCells st.ob L u).bind fun cs => if Nat.ble st.ro u = true ∧ 0 + n * 1 ≤ cs.length then (((cs.drop 0).take (n * 1)).mapM (solid st 5)).map fun cs' => V.sl none false n cs' else none) = _
  rw [hoc, Option.bind_some, if_pos ⟨Nat.ble_eq ▸ hro, by omega⟩, List.drop_zero, Nat.mul_one, List.take_of_length_le (by omega), hm 4 cs hp]
  rfl
theorem slOut_osl {st : St} {L u n : Nat} {cs : List V} (ho : st.ob L = some ⟨u, .cells cs⟩) (hl : cs.length = n) (hro : st.ro ≤ u) (hp : cs.all V.pureLeaf = true) : SlOut st (.osl L u 0 n 1) false n cs := by
  intro keep i
  have hoc : objCells st.ob L u = some cs := by simp [objCells, ho]
  have hs := solid_osl ho hl hro hp
  refine ⟨_, by simp only [outLeaf, hs, Option.bind_some, hoc, Option.map_some]; rfl, ?_⟩
  split
  · exact .inr ⟨_, rfl⟩
  · exact .inl rfl
end Go.Pv.T

/- slices.Repeat: the walk. -/
namespace Go.Pv.T
open Go Go.Pv

end Go.Pv.T

/- What is left without lost reads may be. -/
namespace Go.Pv.T
open Go Go.Pv


end Go.Pv.T

/- bound.Of. -/
namespace Go.Pv.T
open Go Go.Pv

theorem rcT_small {l : List Txn'} (h : ∀ t ∈ l, t.ops.length ≤ 1000) : rcT l ≤ l.length * 1000 := by
  induction l with
  | nil => simp [rcT, rc]
  | cons t l ih =>
    have h3 := ih (fun t ht => h t (List.mem_cons_of_mem _ ht))
    have h4 := h t (List.mem_cons_self ..)
    have h5 := rc_le t.ops
    have : rcT (t :: l) = rc t.ops + rcT l := by rw [rcT, List.flatMap_cons, rc_app]; rfl
    rw [this, List.length_cons, Nat.succ_mul]
    omega
structure Bnd (g : Hist') : Prop where
  i : (infosH g).length ≤ 1000
  l : (lostH g).length ≤ 1000000
  r : rcT g.ts ≤ 1000000
  m : mostH g ≤ 1000
  t : g.ts.length ≤ 1000
theorem bnd_of {g : Hist'} (hs : Small g) : Bnd g := by
  have ht := hs.ts
  refine ⟨?_, ?_, ?_, mostTo_le hs _, ht⟩
  · have := numsTo_len isInfo g.ts g.ts.length
    show (numsTo isInfo g.ts g.ts.length).length ≤ 1000
    omega
  · have := lostTo_len hs.os g.ts.length
    show (lostTo g.ts g.ts.length).length ≤ 1000000
    have : g.ts.length * 1000 ≤ 1000 * 1000 := Nat.mul_le_mul_right _ ht
    omega
  · have := rcT_small hs.os
    have : g.ts.length * 1000 ≤ 1000 * 1000 := Nat.mul_le_mul_right _ ht
    omega
theorem retA_tok {ub n : Nat} {cs : List V} : retA ub (.sl (some (0, 1)) false n cs) = some { v := .sl (some (ub, 1)) false n cs, add := [ub] } := by
  rw [retA, if_pos (by rfl)]; rfl
end Go.Pv.T

/- The reference's bound. -/
namespace Go.Pv.T
open Go Go.Pv

theorem IntsAt.mono {ob : Nat → Option Obj'} {nx nx' : Nat} {l : List Int} {v : V} (h : IntsAt ob nx l v) (hn : nx ≤ nx') : IntsAt ob nx' l v := by
  rcases h with h | ⟨hne, L, u, h1, h2, h3, h4⟩
  · exact .inl h
  · exact .inr ⟨hne, L, u, h1, h2, by omega, h4⟩
theorem IntsAt.frame {ob ob' : Nat → Option Obj'} {nx : Nat} {l : List Int} {v : V} (h : IntsAt ob nx l v) (hf : ∀ k, (∀ m, nx ≤ m → k ≠ 2 * m + 1) → ob' k = ob k) : IntsAt ob' nx l v := by
  rcases h with h | ⟨hne, L, u, h1, h2, h3, h4⟩
  · exact .inl h
  · exact .inr ⟨hne, L, u, h1, by rw [hf L (fun m hm => by omega)]; exact h2, h3, h4⟩
end Go.Pv.T

/- Both bounds are the same number. -/
namespace Go.Pv.T
open Go Go.Pv

end Go.Pv.T

/- Few of a history. -/
namespace Go.Pv.T
open Go Go.Pv

def fewS (n : Nat) (l : List (List UInt8)) : List (List UInt8) := (l.take n).map (·.take 100)
def fewT (t : Txn') : Txn' := { t with nl := false, ops := t.ops.take 25 }
def fewH (h : Hist') : Hist' := { sn := (fewS 25 h.ss).isEmpty, ss := fewS 25 h.ss, kn := (fewS 45 h.ks).isEmpty, ks := fewS 45 h.ks, tn := ((h.ts.take 45).map fewT).isEmpty, ts := (h.ts.take 45).map fewT }
theorem fewS_few (n : Nat) (l : List (List UInt8)) : fewS n (fewS n l) = fewS n l := by
  simp [fewS, ← List.map_take, List.map_map, List.take_take, Function.comp_def]
theorem fewT_few (t : Txn') : fewT (fewT t) = fewT t := by simp [fewT, List.take_take]
theorem fewH_few (h : Hist') : fewH (fewH h) = fewH h := by
  have e : ((fewH h).ts.take 45).map fewT = (fewH h).ts := by
    show (((h.ts.take 45).map fewT).take 45).map fewT = (h.ts.take 45).map fewT
    rw [← List.map_take, List.take_take, List.map_map]
    exact List.map_congr_left fun t _ => fewT_few t
  have e1 : fewS 25 (fewH h).ss = (fewH h).ss := fewS_few 25 h.ss
  have e2 : fewS 45 (fewH h).ks = (fewH h).ks := fewS_few 45 h.ks
  show Hist'.mk _ _ _ _ _ _ = _
  rw [e1, e2, e]
  rfl
theorem small_few (h : Hist') : Small (fewH h) := by
  refine ⟨?_, ?_, ?_, ?_, ?_, ?_⟩
  · show (fewS 25 h.ss).length ≤ 1000
    simp [fewS]; omega
  · intro s hs
    obtain ⟨a, _, rfl⟩ := List.mem_map.1 (show s ∈ fewS 25 h.ss from hs)
    simp; omega
  · show (fewS 45 h.ks).length ≤ 1000
    simp [fewS]; omega
  · intro s hs
    obtain ⟨a, _, rfl⟩ := List.mem_map.1 (show s ∈ fewS 45 h.ks from hs)
    simp; omega
  · show ((h.ts.take 45).map fewT).length ≤ 1000
    simp; omega
  · intro t ht
    obtain ⟨a, _, rfl⟩ := List.mem_map.1 (show t ∈ (h.ts.take 45).map fewT from ht)
    simp [fewT]; omega
theorem fewS_succ {n i : Nat} {l : List (List UInt8)} (hi : i < l.length) (hn : i < n) : fewS (i + 1) l = fewS i l ++ [(l[i]).take 100] := by
  rw [fewS, List.take_succ_eq_append_getElem hi, List.map_append]; rfl
theorem fewS_end {n : Nat} {l : List (List UInt8)} {i : Nat} (hi : i ≤ l.length) (hn : i ≤ n) (h : ¬ (i < l.length ∧ i < n)) : fewS i l = fewS n l := by
  unfold fewS
  congr 1
  by_cases h1 : i < l.length
  · have : i = n := by omega
    rw [this]
  · rw [List.take_of_length_le (by omega), List.take_of_length_le (by omega)]
end Go.Pv.T

/- Few of a history: the walk. -/
namespace Go.Pv.T
open Go Go.Pv

def tlC : C → C
  | .seq _ b => b
  | c => c
def hdC : C → C
  | .seq a _ => a
  | c => c
def few1C : C := tlC (tlC F14.body)
def few2C : C := tlC few1C
def few3C : C := tlC few2C
def few4C : C := tlC few3C
theorem min_len (n m : Nat) : minmaxV false [.int .i64 (n : Int), .int .i64 (m : Int)] = some (.int .i64 ((min n m : Nat) : Int)) := by
  simp only [minmaxV, minmaxL]
  by_cases h : n ≤ m
  · rw [Nat.min_eq_left h]; simp [minmax2]; omega
  · rw [Nat.min_eq_right (Nat.le_of_not_le h)]; simp [minmax2]; omega
theorem take_min100 (c : List UInt8) : c.take (min c.length 100) = c.take 100 := by
  rcases Nat.le_total c.length 100 with h' | h'
  · rw [Nat.min_eq_left h', List.take_of_length_le (Nat.le_refl _), List.take_of_length_le h']
  · rw [Nat.min_eq_right h']
theorem fewS_len (n : Nat) (l : List (List UInt8)) : (fewS n l).length ≤ n := by simp [fewS]; omega
theorem slStr_to {l : List UInt8} {kk : IntKind} {k : Nat} (h : k ≤ l.length) : slStrV none (some (.int kk (k : Int))) (.str l) = some (.str (l.take k)) := by
  simp [slStrV, bounds, h]
theorem slSl_to {cs : List V} {kk : IntKind} {t : Option (Nat × Nat)} {nl : Bool} {sz n k : Nat} (h : k ≤ n) (hc : cs.length = n * sz) : slSlV sz none (some (.int kk (k : Int))) (.sl t nl n cs) = some (.sl none nl k (cs.take (k * sz))) := by
  simp [slSlV, bounds, h, hc]
structure FewS (h : Hist') (s : St) (a b c N1 N2 : Nat) (Sv Kv Tv : V) : Prop where
  t1 : s.tm 1 = .ptr 2 0 0
  t2 : s.tm 2 = .ptr 4 64 0
  t3 : s.tm 3 = .ptr 6 192 0
  d : s.df = []
  ro : s.ro = 0
  fb : s.fb = 0
  o2 : s.ob 2 = some ⟨0, .cells (histC h)⟩
  o4 : s.ob 4 = some ⟨64, .cells [.sl none true 0 [], .sl none true 0 [], .sl none true 0 []]⟩
  o6 : s.ob 6 = some ⟨192, .cells [Sv, Kv, Tv]⟩
  gS : Grow s.tk 0 N1 strC 1 (fewS a h.ss) Sv
  gK : Grow s.tk N1 N2 strC 1 (fewS b h.ks) Kv
  gT : Grow s.tk N2 s.nx txnC 3 ((h.ts.take c).map fewT) Tv
  n1 : N1 ≤ N2
  n2 : N2 ≤ s.nx
theorem few1_eq : few1C = .seq (hdC few1C) few2C := rfl
set_option maxRecDepth 100000 in
theorem few1 {h : Hist'} {s0 : St} {Q : Ex → St → Prop} (hs : FewS h s0 0 0 0 s0.nx s0.nx (.sl none true 0 []) (.sl none true 0 []) (.sl none true 0 []))
    (hrest : ∀ s Sv, FewS h s 25 0 0 s.nx s.nx Sv (.sl none true 0 []) (.sl none true 0 []) → wpC E noYF few2C s Q) : wpC E noYF few1C s0 Q := by
  rw [few1_eq]
  obtain ⟨f1, f2, f3, fd, fr, fb, o2, o4, o6, gS, gK, gT, n1, n2⟩ := hs
  simp [hdC, few1C, tlC, F14]
  refine wp_loopUp [(4, 4), (9, 37)] 25 (fun i s => s.tm 4 = .int .i64 i ∧ i ≤ h.ss.length ∧ ∃ Sv, FewS h s i 0 0 s.nx s.nx Sv (.sl none true 0 []) (.sl none true 0 [])) rfl rfl ?_ ?_
  · refine ⟨by simp, by simp, .sl none true 0 [], ⟨by simp [f1], by simp [f2], by simp [f3], by simp [fd], by simp [fr], by simp [fb], by simp [o2], by simp [o4], by simp [o6], .inl ⟨rfl, rfl⟩, .inl ⟨rfl, rfl⟩, .inl ⟨rfl, rfl⟩, Nat.le_refl _, Nat.le_refl _⟩⟩
  rintro i s hi ⟨h4, hle, Sv, f1, f2, f3, fd, fr, fb, o2, o4, o6, gS, gK, gT, n1, n2⟩ f
  clear f
  by_cases hlt : i < h.ss.length
  · by_cases hl5 : i < 25
    · have hw := wrapU hl5 (by omega)
      have hl5' : (i : Int) < 25 := by omega
      obtain ⟨c, hc⟩ : ∃ c, h.ss[i] = c := ⟨_, rfl⟩
      have hsi := str_at h.ss hlt
      have hsn := fewS_succ hlt hl5
      rw [hc] at hsi hsn
      have hmn := min_len c.length 100
      have hst := slStr_to (l := c) (kk := .i64) (Nat.min_le_left c.length 100)
      have htk := take_min100 c
      rw [htk] at hst
      rw [show ((100 : Nat) : Int) = 100 from rfl] at hmn
      simp [hmn, hst, h4, f1, o2, objCells, histC, hlt, hl5', f3, o6, idx_slOf strC_len, hsi]
      refine kD_buildSl (cs := [.str (c.take 100)]) (by simp [splice]) rfl rfl ?_
      simp
      refine kD_appendG2 (f := strC) (lo := 0) (hi := s.nx) (l := fewS i h.ss) (a := c.take 100) (v := Sv) (gS.mono (fun u _ _ h => by simp [app_tk, h]) (Nat.le_refl _)) (by simp) (by simp [slCells, strC]) strC_len (by decide) rfl (by have := fewS_len i h.ss; omega) (by have := fewS_len i h.ss; omega) (fun del hdel => ?_)
      have hne : fewS (i + 1) h.ss ≠ [] := by rw [hsn]; simp
      have hlen : (fewS i h.ss).length + 1 = (fewS (i + 1) h.ss).length := by rw [hsn]; simp
      rw [← hsn, hlen]
      simp [f3, o6, objCells, fr, splice, h4, hw]
      refine ⟨by simp [drawOk, indep, disj, fpOf, rdOb, rdTk, lOf, uOf, Delta.wo, Delta.wt], ?_⟩
      refine ⟨hl5, by omega, .sl (some (s.nx + 64 + 64 + 64 + 64 + 64 + 64 + 64 + 64 + 64 + 64 + 64 + 64 + 64 + 64 + 64 + 64 + 64 + 64 + 64 + 64 + 64 + 64 + 64 + 64 + 64, 1)) false (fewS (i + 1) h.ss).length ((fewS (i + 1) h.ss).flatMap strC), ⟨by simp [f1], by simp [f2], by simp [f3], by simp [fd], by simp [fr], by simp [fb], by simp [o2, histC], by simp [o4], by simp, .inr ⟨hne, _, rfl, by simp [app_tk], Nat.zero_le _, by simp⟩, .inl ⟨rfl, rfl⟩, .inl ⟨rfl, rfl⟩, Nat.le_refl _, Nat.le_refl _⟩⟩
    · have hl5' : ¬ (i : Int) < 25 := by omega
      simp [h4, f1, o2, objCells, histC, hlt, hl5']
      refine hrest _ Sv ⟨by simp [f1], by simp [f2], by simp [f3], by simp [fd], by simp [fr], by simp [fb], by simp [o2, histC], by simp [o4], by simp [o6], ?_, .inl ⟨rfl, rfl⟩, .inl ⟨rfl, rfl⟩, Nat.le_refl _, Nat.le_refl _⟩
      rw [← fewS_end hle hi (by omega)]
      simp
      exact gS.mono (fun _ _ _ h => h) (by omega)
  · simp [h4, f1, o2, objCells, histC, hlt]
    refine hrest _ Sv ⟨by simp [f1], by simp [f2], by simp [f3], by simp [fd], by simp [fr], by simp [fb], by simp [o2, histC], by simp [o4], by simp [o6], ?_, .inl ⟨rfl, rfl⟩, .inl ⟨rfl, rfl⟩, Nat.le_refl _, Nat.le_refl _⟩
    rw [← fewS_end hle hi (by omega)]
    simp
    exact gS.mono (fun _ _ _ h => h) (by omega)
end Go.Pv.T

/- Few of a history: the keys. -/
namespace Go.Pv.T
open Go Go.Pv

theorem few2_eq : few2C = .seq (hdC few2C) few3C := rfl
set_option maxRecDepth 100000 in
theorem few2 {h : Hist'} {s0 : St} {Q : Ex → St → Prop} {S0 : V} {N1 : Nat} (hs : FewS h s0 25 0 0 N1 s0.nx S0 (.sl none true 0 []) (.sl none true 0 []))
    (hrest : ∀ s Kv, FewS h s 25 45 0 N1 s.nx S0 Kv (.sl none true 0 []) → wpC E noYF few3C s Q) : wpC E noYF few2C s0 Q := by
  rw [few2_eq]
  obtain ⟨f1, f2, f3, fd, fr, fb, o2, o4, o6, gS, gK, gT, n1, n2⟩ := hs
  simp [hdC, few2C, few1C, tlC, F14]
  refine wp_loopUp [(5, 5), (38, 66)] 45 (fun i s => s.tm 5 = .int .i64 i ∧ i ≤ h.ks.length ∧ ∃ Kv, FewS h s 25 i 0 N1 s.nx S0 Kv (.sl none true 0 [])) rfl rfl ?_ ?_
  · refine ⟨by simp, by simp, .sl none true 0 [], ⟨by simp [f1], by simp [f2], by simp [f3], by simp [fd], by simp [fr], by simp [fb], by simp [o2], by simp [o4], by simp [o6], ?_, .inl ⟨rfl, rfl⟩, .inl ⟨rfl, rfl⟩, by simp; omega, Nat.le_refl _⟩⟩
    simp
    exact gS
  rintro i s hi ⟨h4, hle, Kv, f1, f2, f3, fd, fr, fb, o2, o4, o6, gS, gK, gT, n1, n2⟩ f
  clear f
  by_cases hlt : i < h.ks.length
  · by_cases hl5 : i < 45
    · have hw := wrapU hl5 (by omega)
      have hl5' : (i : Int) < 45 := by omega
      obtain ⟨c, hc⟩ : ∃ c, h.ks[i] = c := ⟨_, rfl⟩
      have hsi := str_at h.ks hlt
      have hsn := fewS_succ hlt hl5
      rw [hc] at hsi hsn
      have hmn := min_len c.length 100
      have hst := slStr_to (l := c) (kk := .i64) (Nat.min_le_left c.length 100)
      have htk := take_min100 c
      rw [htk] at hst
      rw [show ((100 : Nat) : Int) = 100 from rfl] at hmn
      simp [hmn, hst, h4, f1, o2, objCells, histC, hlt, hl5', f3, o6, idx_slOf strC_len, hsi]
      refine kD_buildSl (cs := [.str (c.take 100)]) (by simp [splice]) rfl rfl ?_
      simp
      refine kD_appendG2 (f := strC) (lo := N1) (hi := s.nx) (l := fewS i h.ks) (a := c.take 100) (v := Kv) (gK.mono (fun u _ _ h => by simp [app_tk, h]) (Nat.le_refl _)) (by simp) (by simp [slCells, strC]) strC_len (by decide) rfl (by have := fewS_len i h.ks; omega) (by have := fewS_len i h.ks; omega) (fun del hdel => ?_)
      have hne : fewS (i + 1) h.ks ≠ [] := by rw [hsn]; simp
      have hlen : (fewS i h.ks).length + 1 = (fewS (i + 1) h.ks).length := by rw [hsn]; simp
      have hdN : ∀ u, u < N1 → ¬ del = some u := fun u hu e => by have := (gK.tok_lt _ (hdel u e)).1; omega
      rw [← hsn, hlen]
      simp [f3, o6, objCells, fr, splice, h4, hw]
      refine ⟨by simp [drawOk, indep, disj, fpOf, rdOb, rdTk, lOf, uOf, Delta.wo, Delta.wt], ?_⟩
      refine ⟨hl5, by omega, .sl (some (s.nx + 64 + 64 + 64 + 64 + 64 + 64 + 64 + 64 + 64 + 64 + 64 + 64 + 64 + 64 + 64 + 64 + 64 + 64 + 64 + 64 + 64 + 64 + 64 + 64 + 64, 1)) false (fewS (i + 1) h.ks).length ((fewS (i + 1) h.ks).flatMap strC), ⟨by simp [f1], by simp [f2], by simp [f3], by simp [fd], by simp [fr], by simp [fb], by simp [o2, histC], by simp [o4], by simp, gS.mono (fun u _ hu ht => by simp [app_tk, ht, hdN u hu]) (Nat.le_refl _), .inr ⟨hne, _, rfl, by simp [app_tk], by omega, by simp⟩, .inl ⟨rfl, rfl⟩, by first | omega | (simp; omega), Nat.le_refl _⟩⟩
    · have hl5' : ¬ (i : Int) < 45 := by omega
      simp [h4, f1, o2, objCells, histC, hlt, hl5']
      refine hrest _ Kv ⟨by simp [f1], by simp [f2], by simp [f3], by simp [fd], by simp [fr], by simp [fb], by simp [o2, histC], by simp [o4], by simp [o6], ?_, ?_, .inl ⟨rfl, rfl⟩, by simp; omega, Nat.le_refl _⟩
      · simp
        exact gS
      rw [← fewS_end hle hi (by omega)]
      simp
      exact gK.mono (fun _ _ _ h => h) (by omega)
  · simp [h4, f1, o2, objCells, histC, hlt]
    refine hrest _ Kv ⟨by simp [f1], by simp [f2], by simp [f3], by simp [fd], by simp [fr], by simp [fb], by simp [o2, histC], by simp [o4], by simp [o6], ?_, ?_, .inl ⟨rfl, rfl⟩, by simp; omega, Nat.le_refl _⟩
    · simp
      exact gS
    rw [← fewS_end hle hi (by omega)]
    simp
    exact gK.mono (fun _ _ _ h => h) (by omega)
end Go.Pv.T

/- Few of a history: the transactions. -/
namespace Go.Pv.T
open Go Go.Pv

theorem few3_eq : few3C = .seq (hdC few3C) few4C := rfl
theorem few_end {h : Hist'} {i : Nat} (hi : i ≤ h.ts.length) (hn : i ≤ 45) (hx : ¬ (i < h.ts.length ∧ i < 45)) : (h.ts.take i).map fewT = (h.ts.take 45).map fewT := by
  congr 1
  by_cases h1 : i < h.ts.length
  · have : i = 45 := by omega
    rw [this]
  · rw [List.take_of_length_le (by omega), List.take_of_length_le (by omega)]
theorem take_ops (l : List Op') (k : Nat) : (l.flatMap opC).take (k * 4) = (l.take k).flatMap opC := by
  induction l generalizing k with
  | nil => simp
  | cons a l ih =>
    cases k with
    | zero => simp
    | succ k =>
      rw [List.flatMap_cons, List.take_succ_cons, List.flatMap_cons, Nat.succ_mul, ← ih k]
      show (V.bool a.w :: V.int .i64 a.key :: V.int .i64 a.v.kind :: V.int .i64 a.v.n :: l.flatMap opC).take (k * 4 + 4) = _
      simp [opC]
theorem kS_appendL2 {E : Env} {Yf : YF} {st : St} {ub : Nat} {K : St → Nat → Prop} {d : Option Nat} {nm : Bool} {α : Type} {f : α → List V} {sz bytes u : Nat} {l1 l2 : List α} {s x : A} (hs : eval E st.tm s = .sl (some (u, sz)) false l1.length (l1.flatMap f)) (hu : st.tk u = true) (hle : u ≤ ub) (hx : slCells st.ob sz (eval E st.tm x) = some (l2.flatMap f)) (hf : ∀ a, (f a).length = sz) (h0 : 0 < sz)
    (hp : (l2.flatMap f).all V.pureLeaf = true) (hb : (l1.length + l2.length) * bytes ≤ 140737488355328) (hb2 : l1.length + l2.length ≤ 140737488355328)
    (h : ∀ (u' : Nat) (del : Option Nat) (add : List Nat), u' ≤ ub → (∀ v, del = some v → v = u) → (if u' ∈ add then true else if u' ∈ del.toList then false else st.tk u') = true → kApp K st d ub { v := .sl (some (u', sz)) false (l1 ++ l2).length ((l1 ++ l2).flatMap f), del := del, add := add }) : wpStep E Yf ⟨d, .append false sz bytes s x, none, nm⟩ st ub K := by
  cases l2 with
  | nil =>
    rw [wpStep_of _ rfl rfl]
    simp only [aop, hs, hx, Option.bind_some, List.flatMap_nil, if_true]
    rw [if_pos (by rw [flatMap_len hf]), wpD_one]
    have := h u none [] hle (fun v e => by cases e) (by simpa using hu)
    simpa using this
  | cons a l =>
    have h1 : ((a :: l).flatMap f).length / sz = (a :: l).length := by rw [flatMap_len hf]; exact Nat.mul_div_cancel _ h0
    have hne : (a :: l).flatMap f ≠ [] := fun e => by have := congrArg List.length e; rw [flatMap_len hf] at this; have := Nat.mul_pos (show 0 < (a :: l).length by simp) h0; simp_all
    refine kS_append_tok hs hu hx hne (by rw [flatMap_len hf]) h0 hp (by rw [h1]; exact hb) (by rw [h1]; exact hb2) ?_
    rw [h1, ← List.length_append, ← List.flatMap_append]
    exact h ub (some u) [ub] (Nat.le_refl _) (fun v e => by cases e; rfl) (by simp)
set_option maxRecDepth 100000 in
theorem few3 {h : Hist'} {s0 : St} {Q : Ex → St → Prop} {S0 K0 : V} {N1 N2 : Nat} (hs : FewS h s0 25 45 0 N1 N2 S0 K0 (.sl none true 0 []))
    (hrest : ∀ s Tv, FewS h s 25 45 45 N1 N2 S0 K0 Tv → wpC E noYF few4C s Q) : wpC E noYF few3C s0 Q := by
  rw [few3_eq]
  obtain ⟨f1, f2, f3, fd, fr, fb, o2, o4, o6, gS, gK, gT, n1, n2⟩ := hs
  simp [hdC, few3C, few2C, few1C, tlC, F14]
  refine wp_loopUp [(6, 7), (67, 98)] 45 (fun i s => s.tm 6 = .int .i64 i ∧ i ≤ h.ts.length ∧ ∃ Tv, FewS h s 25 45 i N1 N2 S0 K0 Tv) rfl rfl ?_ ?_
  · refine ⟨by simp, by simp, .sl none true 0 [], ⟨by simp [f1], by simp [f2], by simp [f3], by simp [fd], by simp [fr], by simp [fb], by simp [o2], by simp [o4], by simp [o6], ?_, ?_, .inl ⟨rfl, rfl⟩, n1, by simp; omega⟩⟩
    · simp
      exact gS
    · simp
      exact gK
  rintro i s hi ⟨h4, hle, Tv, f1, f2, f3, fd, fr, fb, o2, o4, o6, gS, gK, gT, n1, n2⟩ f
  clear f
  by_cases hlt : i < h.ts.length
  · by_cases hl5 : i < 45
    · have hw := wrapU hl5 (by omega)
      have hl5' : (i : Int) < 45 := by omega
      obtain ⟨t, ht⟩ : ∃ t, h.ts[i] = t := ⟨_, rfl⟩
      have hmn := min_len t.ops.length 25
      rw [show ((25 : Nat) : Int) = 25 from rfl] at hmn
      have hld := load_slOf txnC_len s.ob h.ts hlt
      rw [ht] at hld
      simp [h4, f1, o2, objCells, histC, hlt, hl5', idx_slOf txnC_len, load_slOf txnC_len, ht, txnC, fr, fb, splice]
      refine kS_buildSl (cs := []) rfl rfl rfl ?_
      have hss := slSl_to (cs := t.ops.flatMap opC) (kk := .i64) (t := none) (nl := t.nl) (sz := 4) (n := t.ops.length) (Nat.min_le_left t.ops.length 25) (by rw [flatMap_len opC_len])
      rw [take_ops] at hss
      have hto : t.ops.take (min t.ops.length 25) = t.ops.take 25 := by
        rcases Nat.le_total t.ops.length 25 with h' | h'
        · rw [Nat.min_eq_left h', List.take_of_length_le (Nat.le_refl _), List.take_of_length_le h']
        · rw [Nat.min_eq_right h']
      rw [hto] at hss
      have hmm : min t.ops.length 25 = (t.ops.take 25).length := by rw [List.length_take, Nat.min_comm]
      rw [hmm] at hss hmn
      replace hss : slSlV 4 none (some (.int .i64 ((t.ops.take 25).length : Int))) (slOf t.nl opC t.ops) = _ := hss
      generalize hL : t.ops.take 25 = L at *
      simp [objCells, hmn, hss]
      have hLl : L.length ≤ 25 := by rw [← hL, List.length_take]; omega
      have hop : (L.flatMap opC).all V.pureLeaf = true := by
        rw [List.all_eq_true]
        intro y hy
        obtain ⟨a, _, ha⟩ := List.mem_flatMap.1 hy
        simp [opC] at ha
        rcases ha with rfl | rfl | rfl | rfl <;> rfl
      refine kS_appendL2 (f := opC) (l1 := []) (l2 := L) (by simp; try rfl) (by simp [app_tk]) (by omega) (by simp [slCells, -List.length_flatMap, flatMap_len opC_len]) opC_len (by decide) hop (by simp; omega) (by simp; omega) ?_
      intro u2 del2 add2 hu2 hd2 htk2
      have hdS : ∀ u, u < s.nx → ¬ del2 = some u := fun u hu e => by have := hd2 u e; omega
      simp [objCells, fr, splice, f3, o6]
      refine kS_buildSl (cs := [.int .i64 t.s, .int .i64 t.f, .sl (some (u2, 4)) false L.length (L.flatMap opC)]) (by simp [splice]) rfl (by simp [-List.length_flatMap]) ?_
      simp
      have hl45 : ((h.ts.take i).map fewT).length ≤ 45 := by rw [List.length_map, List.length_take]; omega
      have hfT : txnC (fewT t) = [.int .i64 t.s, .int .i64 t.f, .sl none false L.length (L.flatMap opC)] := by simp [txnC, fewT, slOf, hL]
      obtain ⟨tT, hTv⟩ := gT.form
      refine kS_appendG (f := txnC) (lo := N2) (hi := s.nx) (l := (h.ts.take i).map fewT) (a := fewT t) (v := Tv) ?_ (by simp) (by simp [slCells, hfT]) txnC_len (by decide) (by simp [hfT, -List.length_flatMap]) (by omega) (by omega) (fun del hdel => ?_)
      · exact gT.mono (fun u _ hu ht => by simp [app_tk, ht, hdS u hu]) (Nat.le_refl _)
      have hdN : ∀ u, u < N2 → ¬ del = some u := fun u hu e => by have := hdel u e; omega
      have hsn : (h.ts.take (i + 1)).map fewT = (h.ts.take i).map fewT ++ [fewT t] := by rw [List.take_succ_eq_append_getElem hlt, ht]; simp
      have hne : (h.ts.take (i + 1)).map fewT ≠ [] := by rw [hsn]; simp
      have hlen : ((h.ts.take i).map fewT).length + 1 = ((h.ts.take (i + 1)).map fewT).length := by rw [hsn]; simp
      rw [← hsn, hlen]
      generalize hM : (h.ts.take (i + 1)).map fewT = M at *
      simp [f3, o6, objCells, fr, splice, h4, hw]
      refine ⟨hl5, by omega, _, ⟨by simp [f1], by simp [f2], by simp [f3], by simp [fd], by simp [fr], by simp [fb], by simp [o2, histC], by simp [o4], by simp; try rfl, gS.mono (fun u _ hu ht => by simp [app_tk, ht, hdS u (by omega), hdN u (by omega)]) (Nat.le_refl _), gK.mono (fun u _ hu ht => by simp [app_tk, ht, hdS u (by omega), hdN u (by omega)]) (Nat.le_refl _), ?_, n1, by first | omega | (simp; omega)⟩⟩
      rw [hM]
      exact .inr ⟨hne, _, rfl, by simp [app_tk], by omega, by first | omega | simp⟩
    · have hl5' : ¬ (i : Int) < 45 := by omega
      simp [h4, f1, o2, objCells, histC, hlt, hl5']
      refine hrest _ Tv ⟨by simp [f1], by simp [f2], by simp [f3], by simp [fd], by simp [fr], by simp [fb], by simp [o2, histC], by simp [o4], by simp [o6], ?_, ?_, ?_, n1, by simp; omega⟩
      · simp
        exact gS
      · simp
        exact gK
      rw [← few_end hle hi (fun hx => by omega)]
      simp [-List.map_take]
      exact gT.mono (fun _ _ _ h => h) (by omega)
  · simp [h4, f1, o2, objCells, histC, hlt]
    refine hrest _ Tv ⟨by simp [f1], by simp [f2], by simp [f3], by simp [fd], by simp [fr], by simp [fb], by simp [o2, histC], by simp [o4], by simp [o6], ?_, ?_, ?_, n1, by simp; omega⟩
    · simp
      exact gS
    · simp
      exact gK
    rw [← few_end hle hi (fun hx => by omega)]
    simp [-List.map_take]
    exact gT.mono (fun _ _ _ h => h) (by omega)
end Go.Pv.T

/- Few of a history: whole. -/
namespace Go.Pv.T
open Go Go.Pv

theorem kE1 {st : St} {p l u : Nat} {x y z : V} {g : Hist'} (hd : st.df = []) (hp : st.tm p = .ptr l u 0) (ho : st.ob l = some ⟨u, .cells [x, y, z]⟩)
    (hx : SlOut st x g.sn g.ss.length (g.ss.flatMap strC)) (hy : SlOut st y g.kn g.ks.length (g.ks.flatMap strC)) (hz : SlOut st z g.tn g.ts.length (g.ts.flatMap txnC)) : kEndE [.cell p (some 3)] (fun r => HistR r g) .ret st := endH1 hd hp ho hx hy hz
set_option maxRecDepth 100000 in
theorem few4 {h : Hist'} {s : St} {N1 N2 : Nat} {S0 K0 T0 : V} (hs : FewS h s 25 45 45 N1 N2 S0 K0 T0) : wpC E noYF few4C s (kEndE [.cell 2 (some 3)] fun r => HistR r (fewH h)) := by
  obtain ⟨f1, f2, f3, fd, fr, fb, o2, o4, o6, gS, gK, gT, n1, n2⟩ := hs
  obtain ⟨T, hTd⟩ : ∃ T, (h.ts.take 45).map fewT = T := ⟨_, rfl⟩
  obtain ⟨S, hSd⟩ : ∃ S, fewS 25 h.ss = S := ⟨_, rfl⟩
  obtain ⟨K, hKd⟩ : ∃ K, fewS 45 h.ks = K := ⟨_, rfl⟩
  have hg : fewH h = ⟨S.isEmpty, S, K.isEmpty, K, T.isEmpty, T⟩ := by rw [← hTd, ← hSd, ← hKd]; rfl
  rw [hTd] at gT
  rw [hSd] at gS
  rw [hKd] at gK
  rw [hg]
  obtain ⟨tS, hS⟩ := gS.form
  obtain ⟨tK, hK⟩ := gK.form
  obtain ⟨tT, hT⟩ := gT.form
  generalize hP : (kEndE [.cell 2 (some 3)] fun r => HistR r ⟨S.isEmpty, S, K.isEmpty, K, T.isEmpty, T⟩) = P
  simp [few4C, few3C, few2C, few1C, tlC, F14, f3, f2, o6, o4, objCells, fr, splice, hS, hK, hT]
  subst hP
  refine kE1 (l := 4) (u := 64) (x := .sl tS S.isEmpty S.length (S.flatMap strC)) (y := .sl tK K.isEmpty K.length (K.flatMap strC)) (z := .sl tT T.isEmpty T.length (T.flatMap txnC)) (by simp [fd]) (by simp [f2]) (by simp) (slOut_sl _ tS _ _ _) (slOut_sl _ tK _ _ _) (slOut_sl _ tT _ _ _)
theorem ev14 (h : Hist') : ∃ r, Ev E 14 [.agg (histC h)] r ∧ HistR r (fewH h) := by
  refine Ev_wpE (af := F14) rfl (by decide) ?_
  show wpC E noYF F14.body _ (kEndE [.cell 2 (some 3)] fun r => HistR r (fewH h))
  generalize hP : (kEndE [.cell 2 (some 3)] fun r => HistR r (fewH h)) = P
  have e : F14.body = .seq (hdC F14.body) (.seq (hdC (tlC F14.body)) few1C) := rfl
  rw [e]
  simp [hdC, tlC, F14, histC, objCells, splice]
  refine few1 (h := h) ⟨by simp, by simp, by simp, by simp, by simp, by simp, by simp [histC], by simp, by simp, .inl ⟨rfl, rfl⟩, .inl ⟨rfl, rfl⟩, .inl ⟨rfl, rfl⟩, Nat.le_refl _, Nat.le_refl _⟩ ?_
  intro s1 Sv h1
  refine few2 h1 ?_
  intro s2 Kv h2
  refine few3 h2 ?_
  intro s3 Tv h3
  rw [← hP]
  exact few4 h3
end Go.Pv.T

/- Going backward through ops. -/
namespace Go.Pv.T
open Go Go.Pv

theorem run217 {Yf : YF} (nl : Bool) (ops : List Op') (hm : ops.length ≤ 1000000) {l u lh uh : Nat} {ob0 : Nat → Option Obj'} {tk0 : Nat → Bool} {ro base ub0 : Nat} (J : Nat → (Nat → Option Obj') → (Nat → Bool) → Nat → Prop) (P : V × (Nat → Option Obj') × (Nat → Bool) × Nat → Prop)
    (hfr : ∀ k ob ob' tk ub ub', J k ob tk ub → ub ≤ ub' → Fr ub ob ob' → J k ob' tk ub') (hcap : ∀ k ob tk ub, J k ob tk ub → ob lh = some ⟨uh, .cells [slOf nl opC ops]⟩) (hru0 : ro ≤ ub0)
    (hstep : ∀ k (_ : k < ops.length) ob tk ub, J k ob tk ub → ro ≤ ub → ∃ r, EvY Yf l u [.int .i64 (ops.length - 1 - k : Nat), .agg (opC (ops.getD (ops.length - 1 - k) ⟨false, 0, 0, 0⟩))] ob tk ro ub r ∧ ro ≤ r.2.2.2 ∧
      ((r.1 = .bool true ∧ J (k + 1) r.2.1 r.2.2.1 r.2.2.2) ∨ (r.1 = .bool false ∧ ∀ ob' ub', r.2.2.2 ≤ ub' → Fr r.2.2.2 r.2.1 ob' → P (.tup [], ob', r.2.2.1, ub'))))
    (hend : ∀ ob tk ub, J ops.length ob tk ub → P (.tup [], ob, tk, ub)) (h0 : J 0 ob0 tk0 ub0) : ∃ r, EvS E Yf.y 217 [.yld l u, .ptr lh uh 0] ob0 tk0 ro base ub0 r ∧ P r := by
  refine EvS_wp (af := S217) rfl (by decide) ?_
  show wpC E Yf S217.body _ (kEndS S217.res P)
  have hh := hcap 0 ob0 tk0 ub0 h0
  have w1 : IntKind.i64.wrap ((ops.length : Int) - 1) = (ops.length : Int) - 1 := wrap64' (by omega) (by omega)
  simp [S217, objCells, hh, w1]
  refine wp_loopUp [(3, 3), (7, 18)] ops.length (fun k s => s.tm 3 = .int .i64 ((ops.length : Int) - 1 - k) ∧ ro ≤ s.nx ∧ J k s.ob s.tk s.nx) rfl rfl ⟨by simp, by simp; omega, hfr _ _ _ _ _ _ h0 (by simp; omega) (Fr.refl _ _)⟩ ?_
  rintro k s hk ⟨h3, hnx, hJ⟩ f
  have f0 : s.tm 0 = .yld l u := by rw [f.t 0 (by simp)]; simp
  have f1 : s.tm 1 = .ptr lh uh 0 := by rw [f.t 1 (by simp)]; simp
  have fd : s.df = [] := by rw [f.d]; simp
  have fr : s.ro = ro := by rw [f.r]; simp
  clear f
  have hc := hcap _ _ _ _ hJ
  by_cases hlt : k < ops.length
  · obtain ⟨j, hj⟩ : ∃ j, j = ops.length - 1 - k := ⟨_, rfl⟩
    have hjl : j < ops.length := by omega
    have e : (ops.length : Int) - 1 - k = (j : Int) := by omega
    rw [e] at h3
    have w2 : IntKind.i64.wrap ((j : Int) - 1) = (ops.length : Int) - 1 - (k + 1) := by rw [wrap64' (by omega) (by omega)]; omega
    have hgd : ops.getD j ⟨false, 0, 0, 0⟩ = ops[j] := by rw [List.getD_eq_getElem?_getD, List.getElem?_eq_getElem hjl]; rfl
    simp [h3, f0, f1, objCells, hc, hjl, idx_slOf opC_len, load_slOf opC_len]
    refine step_gen fun s' hs' => ?_
    have e11 : s'.tm 11 = .yld l u := by rw [hs']; simp
    have e12 : s'.tm 12 = .int .i64 j := by rw [hs']; simp
    have e16 : s'.tm 16 = .agg (opC ops[j]) := by rw [hs']; simp
    have e3 : s'.tm 3 = .int .i64 j := by rw [hs']; simp [h3]
    have ed : s'.df = [] := by rw [hs']; simp [fd]
    have er : s'.ro = ro := by rw [hs']; simp [fr]
    have et : s'.tk = s.tk := by rw [hs']; simp
    have eo : s'.ob = s.ob := by rw [hs']; simp
    clear hs'
    obtain ⟨r, hr, hru, hcase⟩ := hstep k hlt s'.ob s.tk (s.nx + 64 + 64 + 64 + 64 + 64 + 64 + 64 + 64) (hfr _ _ _ _ _ _ hJ (by omega) (by rw [eo]; exact Fr.refl _ _)) (by omega)
    rw [← hj, hgd] at hr
    refine wpS_yield (l := l) (u := u) (by simpa using e11) ⟨r, by simpa [e12, e16, et, er] using hr, ?_⟩
    rcases hcase with ⟨hr1, hJ2⟩ | ⟨hr1, hP⟩
    · simp [hr1, put, upd_apply, e3, w2]
      exact ⟨hlt, by omega, hfr _ _ _ _ _ _ hJ2 (by omega) (Fr.refl _ _)⟩
    · simp [hr1, put]
      refine ⟨(.tup [], r.2.1, r.2.2.1, r.2.2.2 + 64), ?_, hP _ _ (by omega) (Fr.refl _ _)⟩
      simp [endS, ed]
  · have : k = ops.length := by omega
    subst this
    obtain ⟨X, hX⟩ : ∃ x : Int, x = (ops.length : Int) - 1 - ops.length := ⟨_, rfl⟩
    rw [← hX] at h3
    have c1 : ¬ 0 ≤ X := by omega
    simp [h3, c1]
    refine ⟨(.tup [], s.ob, s.tk, s.nx + 64 + 64), ?_, hend _ _ _ (hfr _ _ _ _ _ _ hJ (by omega) (Fr.refl _ _))⟩
    simp [endS, fd]
end Go.Pv.T

/- The last write of a key: going backward. -/
namespace Go.Pv.T
open Go Go.Pv

def AS130 : C := .region [⟨some 7,.alloc [(.bool false), (.int .i64 0), (.int .i64 0), (.int .i64 0)],none,false⟩,⟨none, .store 4 (.t 7) (.t 11),none,false⟩]
def BD130 : C := .block 1 (.seq (.region [⟨some 12,.fieldAddr 0 (.t 7),none,false⟩,⟨some 13,.load none (.t 12),none,false⟩,⟨some 14,.mov (.t 13),none,false⟩,⟨some 15,.fieldAddr 1 (.t 7), (some (14, true)), false⟩,⟨some 16,.load none (.t 15), (some (14, true)), false⟩,⟨some 17,.load none (.t 3), (some (14, true)), false⟩,⟨some 18,.bin .eql (.t 16) (.t 17), (some (14, true)), false⟩,⟨some 19,.pick (.t 14) (.t 18) (.c (.bool false)),none,false⟩])
  (.cond (.t 19) (.seq (.region [⟨some 20,.fieldAddr 2 (.t 7),none,false⟩,⟨some 21,.load (some 2) (.t 20),none,false⟩,⟨none, .store 2 (.t 4) (.t 21),none,false⟩,⟨none, .store 1 (.t 5) (.c (.bool true)),none,false⟩]) (.ret)) (.skip)))

theorem range130 (nl : Bool) (ops : List Op') (hm : ops.length ≤ 1000000) (kv : Int) {st : St} {lh uh : Nat} (U : Nat) (hU : st.nx = U) (hU0 : 64 ≤ U) (h9 : st.tm 9 = .fn (.func 217) [] [.ptr lh uh 0]) (hl : ∃ m, lh = 2 * m + 1 ∧ m < U)
    (h3 : st.tm 3 = .ptr 6 0 0) (h4 : st.tm 4 = .ptr 8 64 0) (h5 : st.tm 5 = .ptr 10 128 0) (hro : st.ro = 0) (hfb : st.fb = 0) (o6 : st.ob 6 = some ⟨0, .cells [.int .i64 kv]⟩) (o8 : st.ob 8 = some ⟨64, .cells [.int .i64 0, .int .i64 0]⟩) (o10 : st.ob 10 = some ⟨128, .cells [.bool false]⟩)
    (oh : st.ob lh = some ⟨uh, .cells [slOf nl opC ops]⟩) {Q : Ex → St → Prop}
    (hQ : ∀ (e : Ex) (ob : Nat → Option Obj') (tk : Nat → Bool) (ub : Nat) (v : Val') (b : Bool), ob 8 = some ⟨64, .cells (valC v)⟩ → ob 10 = some ⟨128, .cells [.bool b]⟩ → ob (2 * U + 3) = some ⟨U + 1, .dfr⟩ → U + 64 ≤ ub →
      rawTo kv ops ops.length = (v, b) → (e = .nrm ∧ v = ⟨0, 0⟩ ∧ b = false ∨ e = .ret) → Q e { st with ob := ob, tk := tk, nx := ub, df := (2 * U + 3, U + 1) :: st.df }) :
    wpC E noYF (.rangeFunc (.t 9) [10, 11] AS130 BD130) st Q := by
  obtain ⟨m, rfl, hmU⟩ := hl
  subst hU
  refine wpC_rangeFunc (g := 217) (first := []) (captured := [.ptr (2 * m + 1) uh 0]) (by simpa using h9) ?_
  have e1 : ¬ 2 * m + 1 = 2 * st.nx + 1 := by omega
  have e2 : ¬ 2 * m + 1 = 2 * st.nx + 3 := by omega
  have e1' : ¬ 2 * m = 2 * st.nx := by omega
  have e2' : ¬ 2 * m = 2 * st.nx + 2 := by omega
  have := run217 (Yf := roundF E noYF AS130 BD130 st [10, 11] (2 * st.nx + 1) st.nx) nl ops hm (l := 2 * st.nx + 1) (u := st.nx) (lh := 2 * m + 1) (uh := uh)
    (ob0 := upd (upd st.ob (2 * st.nx + 3) (some ⟨st.nx + 1, .dfr⟩)) (2 * st.nx + 1) (some ⟨st.nx, .loop .ready none⟩)) (tk0 := st.tk) (ro := st.ro) (base := (st.fb + 1023) * 1024) (ub0 := st.nx + 64)
    (fun k ob tk ub => rawTo kv ops ops.length = rawTo kv ops (ops.length - k) ∧ ob (2 * st.nx + 1) = some ⟨st.nx, .loop .ready none⟩ ∧ ob (2 * st.nx + 3) = some ⟨st.nx + 1, .dfr⟩ ∧ ob 6 = some ⟨0, .cells [.int .i64 kv]⟩ ∧ ob 8 = some ⟨64, .cells [.int .i64 0, .int .i64 0]⟩ ∧ ob 10 = some ⟨128, .cells [.bool false]⟩ ∧ ob (2 * m + 1) = some ⟨uh, .cells [slOf nl opC ops]⟩ ∧ st.nx + 64 ≤ ub)
    (fun r => ∃ s pend, r.2.1 (2 * st.nx + 1) = some ⟨st.nx, .loop s pend⟩ ∧ s ≠ .busy ∧ st.ro ≤ st.nx ∧ Q (pend.getD .nrm) { st with ob := fun k => if Nat.beq (2 * st.nx + 1) k then none else r.2.1 k, tk := r.2.2.1, nx := r.2.2.2, df := (2 * st.nx + 3, st.nx + 1) :: st.df })
    ?_ ?_ (by omega) ?_ ?_ ?_
  · obtain ⟨r, hr, hP⟩ := this
    exact ⟨r, hr, hP⟩
  · rintro k ob ob' tk ub ub' ⟨g1, g2, g3, g4, g5, g6, g7, g8⟩ hub hfr
    have f : ∀ key, (∀ m, ub ≤ m → key ≠ 2 * m + 1) → ob' key = ob key := hfr
    exact ⟨g1, by rw [f _ (fun m hm => by omega)]; exact g2, by rw [f _ (fun m hm => by omega)]; exact g3, by rw [f _ (fun m hm => by omega)]; exact g4, by rw [f _ (fun m hm => by omega)]; exact g5, by rw [f _ (fun m hm => by omega)]; exact g6, by rw [f _ (fun m hm => by omega)]; exact g7, by omega⟩
  · rintro k ob tk ub ⟨g1, g2, g3, g4, g5, g6, g7, g8⟩
    exact g7
  · rintro k hk ob tk ub ⟨g1, g2, g3, g4, g5, g6, g7, g8⟩ hru
    obtain ⟨j, hj⟩ : ∃ j, j = ops.length - 1 - k := ⟨_, rfl⟩
    have hjl : j < ops.length := by omega
    have hgd : ops.getD j ⟨false, 0, 0, 0⟩ = ops[j] := by rw [List.getD_eq_getElem?_getD, List.getElem?_eq_getElem hjl]; rfl
    have hraw := rawTo_succ (k := kv) hjl
    rw [← hj, hgd]
    obtain ⟨o, ho⟩ : ∃ o, ops[j] = o := ⟨_, rfl⟩
    rw [ho] at hraw ⊢
    rw [show ops.length - k = j + 1 by omega] at g1
    rw [hraw] at g1
    refine EvY_round (as := AS130) (bd := BD130) (xs := [.int .i64 (j : Nat), .agg (opC o)]) rfl (by omega) g2 (by decide) (by decide) ?_
    simp [AS130, setPs, objCells, hfb, opC, hro, splice]
    refine ⟨by rw [if_neg (by omega), if_neg (by omega)]; exact g2, wpC_gen fun s' hs' => ?_⟩
    have f3 : s'.tm 3 = .ptr 6 0 0 := by rw [hs']; simp [upd_apply, h3]
    have f4 : s'.tm 4 = .ptr 8 64 0 := by rw [hs']; simp [upd_apply, h4]
    have f5 : s'.tm 5 = .ptr 10 128 0 := by rw [hs']; simp [upd_apply, h5]
    have f7 : s'.tm 7 = .ptr 14 ub 0 := by rw [hs']; simp
    have n6 : ¬ 6 = 2 * st.nx + 1 := by omega
    have n8 : ¬ 8 = 2 * st.nx + 1 := by omega
    have n10 : ¬ 10 = 2 * st.nx + 1 := by omega
    have n14 : ¬ 14 = 2 * st.nx + 1 := by omega
    have n3 : ¬ 2 * st.nx + 3 = 2 * st.nx + 1 := by omega
    have n314 : ¬ 2 * st.nx + 3 = 14 := by omega
    have n114 : ¬ 2 * m + 1 = 14 := by omega
    have p6 : s'.ob 6 = some ⟨0, .cells [.int .i64 kv]⟩ := by rw [hs']; simp [upd_apply, n6, g4]
    have p8 : s'.ob 8 = some ⟨64, .cells [.int .i64 0, .int .i64 0]⟩ := by rw [hs']; simp [upd_apply, n8, g5]
    have p10 : s'.ob 10 = some ⟨128, .cells [.bool false]⟩ := by rw [hs']; simp [upd_apply, n10, g6]
    have p14 : s'.ob 14 = some ⟨ub, .cells (opC o)⟩ := by rw [hs']; simp [upd_apply, n14, opC]
    have p3 : s'.ob (2 * st.nx + 3) = some ⟨st.nx + 1, .dfr⟩ := by rw [hs']; simp [upd_apply, n314, g3]
    have p1 : s'.ob (2 * st.nx + 1) = some ⟨st.nx, .loop .busy none⟩ := by rw [hs']; simp
    have ph : s'.ob (2 * m + 1) = some ⟨uh, .cells [slOf nl opC ops]⟩ := by rw [hs']; simp [upd_apply, e1', n114, g7]
    have fr : s'.ro = 0 := by rw [hs']
    have fn : ub ≤ s'.nx := by rw [hs']; simp; omega
    clear hs'
    have m18 : ¬ 2 * st.nx + 1 = 8 := by omega
    have m110 : ¬ 2 * st.nx + 1 = 10 := by omega
    have m38 : ¬ 2 * st.nx + 3 = 8 := by omega
    have m310 : ¬ 2 * st.nx + 3 = 10 := by omega
    have skip : wkB kv o = false → rawTo kv ops ops.length = rawTo kv ops (ops.length - (k + 1)) := fun hw => by
      rw [hw] at g1
      rw [g1, show ops.length - (k + 1) = j by omega]
      rfl
    have done : wkB kv o = false → (skip' : True) → rawTo kv ops ops.length = rawTo kv ops (ops.length - (k + 1)) ∧ upd s'.ob (2 * st.nx + 1) (some ⟨st.nx, .loop .ready none⟩) (2 * st.nx + 3) = some ⟨st.nx + 1, .dfr⟩ := fun hw _ => ⟨skip hw, by rw [upd_apply, if_neg n3]; exact p3⟩
    cases hw1 : o.w
    · have hw := skip (by unfold wkB; rw [hw1]; rfl)
      simp [BD130, f7, p14, objCells, opC, hw1, p1, roundAns]
      exact ⟨hw, by rw [upd_apply, if_neg n3]; exact p3, by rw [upd_apply, if_neg n6]; exact p6, by rw [upd_apply, if_neg n8]; exact p8, by rw [upd_apply, if_neg n10]; exact p10, by rw [upd_apply, if_neg e1]; exact ph, by omega⟩
    cases hk1 : (o.key == kv)
    · have hw := skip (by unfold wkB; rw [hw1, hk1]; rfl)
      simp [BD130, f7, p14, objCells, opC, hw1, f3, p6, hk1, p1, roundAns]
      exact ⟨hw, by rw [upd_apply, if_neg n3]; exact p3, by rw [upd_apply, if_neg n6]; exact p6, by rw [upd_apply, if_neg n8]; exact p8, by rw [upd_apply, if_neg n10]; exact p10, by rw [upd_apply, if_neg e1]; exact ph, by omega⟩
    · have hwt : wkB kv o = true := by unfold wkB; rw [hw1, hk1]; rfl
      rw [hwt] at g1
      simp only [if_true] at g1
      simp [BD130, f7, p14, objCells, opC, hw1, f3, p6, hk1, f4, f5, p8, p10, fr, splice, m18, m110, p1, roundAns]
      intro ob' ub' hle hfr
      have fk : ∀ key, (∀ m, s'.nx + 64 + 64 + 64 + 64 + 64 + 64 + 64 + 64 + 64 + 64 + 64 + 64 ≤ m → key ≠ 2 * m + 1) → ob' key = _ := hfr
      have n1' : ∀ {k : Nat}, k ≠ 2 * st.nx + 1 → (if 2 * st.nx + 1 = k then none else ob' k) = ob' k := fun hk => if_neg fun e => hk e.symm
      refine ⟨.done, some .ret, ?_, by simp, ?_⟩
      · rw [fk _ (fun m hm => by omega)]
        simp
      · have := hQ .ret (fun k => if 2 * st.nx + 1 = k then none else ob' k) s'.tk ub' o.v true (by rw [n1' n8, fk _ (fun m hm => by omega)]; simp [upd_apply, n8, valC]) (by rw [n1' n10, fk _ (fun m hm => by omega)]; simp [upd_apply, n10])
          (by rw [n1' n3, fk _ (fun m hm => by omega)]; simp [upd_apply, m38, m310, p3]) (by omega) g1 (Or.inr rfl)
        rw [hro, hfb] at this
        simpa [app_tk0] using this
  · rintro ob tk ub ⟨g1, g2, g3, g4, g5, g6, g7, g8⟩
    refine ⟨.ready, none, g2, by simp, by omega, ?_⟩
    rw [Nat.sub_self] at g1
    exact hQ .nrm _ _ _ ⟨0, 0⟩ false ((away ob (by omega)).trans g5) ((away ob (by omega)).trans g6) ((away ob (by omega)).trans g3) g8 g1 (Or.inl ⟨rfl, rfl, rfl⟩)
  · have n13 : ¬ 2 * st.nx + 3 = 2 * st.nx + 1 := by omega
    have a6 : ¬ 6 = 2 * st.nx + 1 := by omega
    have b6 : ¬ 6 = 2 * st.nx + 3 := by omega
    have a8 : ¬ 8 = 2 * st.nx + 1 := by omega
    have b8 : ¬ 8 = 2 * st.nx + 3 := by omega
    have a10 : ¬ 10 = 2 * st.nx + 1 := by omega
    have b10 : ¬ 10 = 2 * st.nx + 3 := by omega
    exact ⟨by rw [Nat.sub_zero], by simp, by simp [upd_apply], by simp [upd_apply, a6, b6, o6], by simp [upd_apply, a8, b8, o8], by simp [upd_apply, a10, b10, o10], by simp [upd_apply, e1', e2', oh], by omega⟩
end Go.Pv.T

/- Fresh numbers: the reference's way. -/
namespace Go.Pv.T
open Go Go.Pv


end Go.Pv.T

/- Fresh numbers: least that is not there; the reference's walk. -/
namespace Go.Pv.T
open Go Go.Pv

theorem may_bad {g : Hist'} (hm : mayH g = false) : errH g = 4 := by unfold errH; rw [hm]; rfl
end Go.Pv.T

/- Slices that are sorted where they lie: cells of an array. -/
namespace Go.Pv.T
open Go Go.Pv Go.Sort

def arr {α : Type} (f : α → List V) (d : Array α) : List V := d.toList.flatMap f
section
variable {α : Type} [Inhabited α] {f : α → List V} {sz : Nat} {d : Array α}
theorem arr_len (hf : ∀ a, (f a).length = sz) (d : Array α) : (arr f d).length = d.size * sz := by
  unfold arr; rw [flatMap_len hf, Array.length_toList]
theorem arr_at (hf : ∀ a, (f a).length = sz) {i : Nat} (hi : i < d.size) : ((arr f d).drop (i * sz)).take sz = f d[i]! := by
  unfold arr
  rw [flatMap_at hf d.toList i (by simpa using hi), Array.getElem_toList, getElem!_pos d i hi]
theorem flat_set (hf : ∀ a, (f a).length = sz) (a : α) : ∀ (l : List α) (i : Nat), i < l.length → splice (l.flatMap f) (i * sz) (f a) = (l.set i a).flatMap f
  | [], _, h => by simp at h
  | x :: l, 0, _ => by simp [splice, hf]
  | x :: l, i + 1, h => by
    have ih := flat_set hf a l i (by simpa using h)
    have e : (i + 1) * sz = (f x).length + i * sz := by rw [hf, Nat.succ_mul, Nat.add_comm]
    unfold splice at ih ⊢
    rw [List.set_cons_succ, List.flatMap_cons, List.flatMap_cons, ← ih, e, List.take_length_add_append, Nat.add_assoc, List.drop_length_add_append]
    simp
theorem arr_set (hf : ∀ a, (f a).length = sz) {i : Nat} (hi : i < d.size) (a : α) : splice (arr f d) (i * sz) (f a) = arr f (d.setIfInBounds i a) := by
  unfold arr
  rw [flat_set hf a d.toList i (by simpa using hi), Array.toList_setIfInBounds]
theorem idxA {l u n : Nat} {kk : IntKind} {x : Int} (h0 : 0 ≤ x) (h1 : x < n) : idxSlV sz (.osl l u 0 n sz) (.int kk x) = some (.ptr l u (x.toNat * sz)) := by
  simp [idxSlV, h0, h1]
end
theorem swp_size {α : Type} [Inhabited α] (d : Array α) (i j : Nat) : (swp d i j).size = d.size := by simp [swp]
theorem ldI {ob : Nat → Option Obj'} {l u : Nat} {d : Array Int} {x : Nat} (ho : ob l = some ⟨u, .cells (arr intC d)⟩) (hx : x < d.size) : loadV ob none (.ptr l u (x * 1)) = some (.int .i64 d[x]!) := by
  have h := arr_at (sz := 1) intC_len hx
  simp only [loadV, objCells, ho, if_true, Option.bind_some, pick1]
  have := congrArg List.head? h
  simpa [List.head?_take, List.head?_drop, intC] using this
theorem stI {d : Array Int} {x : Nat} (hx : x < d.size) (z : Int) : splice (arr intC d) x [.int .i64 z] = arr intC (d.setIfInBounds x z) := by
  have := arr_set (sz := 1) intC_len hx z
  rwa [Nat.mul_one] at this
@[simp] theorem arrI_len (d : Array Int) : (arr intC d).length = d.size := by rw [arr_len (sz := 1) intC_len, Nat.mul_one]
end Go.Pv.T

/- Insertion sort, where the cells lie. -/
namespace Go.Pv.T
open Go Go.Pv Go.Sort

theorem ev205 (x : Int) : Ev E 205 [.int .i64 x] (.bool false) := by
  refine Ev_wpK (af := F205) rfl ?_
  simp [F205]
  exact endV_1 rfl (by simp) rfl
theorem ev163 (x y : Int) : Ev E 163 [.int .i64 x, .int .i64 y] (.bool (ltInt x y)) := by
  have e := ev205 x
  refine Ev_wpK (af := F163) rfl ?_
  simp [F163]
  refine kS_ev e (by simp) rfl (by simp) ?_
  simp
  exact endV_1 rfl (by simp [ltInt]) rfl

def At (l u : Nat) (cs : List V) (ob : Nat → Option Obj') (tk : Nat → Bool) (ub : Nat) (ob' : Nat → Option Obj') (tk' : Nat → Bool) (ub' : Nat) : Prop :=
  ob' l = some ⟨u, .cells cs⟩ ∧ (∀ key, key ≠ l → (∀ m, ub ≤ m → key ≠ 2 * m + 1) → ob' key = ob key) ∧ tk' = tk ∧ ub ≤ ub'
theorem endS_nil {st : St} {P : V × (Nat → Option Obj') × (Nat → Bool) × Nat → Prop} {e : Ex} (he : e = .nrm ∨ e = .ret) (hd : st.df = []) (h : P (.tup [], st.ob, st.tk, st.nx)) : kEndS [] P e st := by
  refine ⟨_, ?_, h⟩
  rcases he with rfl | rfl <;> simp [endS, hd]
theorem wrapN {x : Int} (h1 : -1000000000 ≤ x) (h2 : x ≤ 1000000000) : IntKind.i64.wrap x = x := wrap64' (by omega) (by omega)

theorem sv157 {Yf : YF} {l u a b : Nat} {d : Array Int} (hd : d.size ≤ 1000000) (hb : b ≤ d.size) (hab : a ≤ b) {ob : Nat → Option Obj'} {tk : Nat → Bool} {ro base ub : Nat} (ho : ob l = some ⟨u, .cells (arr intC d)⟩) (hro : ro ≤ u) :
    ∃ r, EvS E Yf.y 157 [.osl l u 0 d.size 1, .int .i64 a, .int .i64 b] ob tk ro base ub r ∧ At l u (arr intC (insertionSort ltInt d a b)) ob tk ub r.2.1 r.2.2.1 r.2.2.2 := by
  refine EvS_wp (af := S157) rfl (by decide) ?_
  show wpC E Yf S157.body _ (kEndS S157.res _)
  have w1 : IntKind.i64.wrap ((a : Int) + 1) = (a : Int) + 1 := wrapN (by omega) (by omega)
  simp [S157, w1]
  refine wp_loopUp [(6, 7), (10, 48)] (b - a) (fun k s => s.tm 6 = .int .i64 ((a : Int) + 1 + k) ∧ ∃ d1 : Array Int, insOuter ltInt a b (a + 1 + k) d1 = insertionSort ltInt d a b ∧ d1.size = d.size ∧ At l u (arr intC d1) ob tk ub s.ob s.tk s.nx) rfl rfl
    ⟨by simp, d, rfl, rfl, by simp [ho], by simp, by simp, by simp; omega⟩ ?_
  rintro k s hk ⟨h6, d1, e1, z1, a1, a2, a3, a4⟩ f
  have f0 : s.tm 0 = .osl l u 0 d.size 1 := by rw [f.t 0 (by simp)]; simp
  have f1 : s.tm 1 = .int .i64 a := by rw [f.t 1 (by simp)]; simp
  have f2 : s.tm 2 = .int .i64 b := by rw [f.t 2 (by simp)]; simp
  have fd : s.df = [] := by rw [f.d]; simp
  have fr : s.ro = ro := by rw [f.r]; simp
  clear f
  by_cases hlt : a + 1 + k < b
  · have c1 : (a : Int) + 1 + k < b := by omega
    have hout : insOuter ltInt a b (a + 1 + k) d1 = insOuter ltInt a b (a + 1 + (k + 1)) (insInner ltInt a (a + 1 + k) d1) := by
      conv => lhs; rw [insOuter, if_pos hlt]
      rfl
    have w2 : IntKind.i64.wrap ((a : Int) + 1 + k + 1) = (a : Int) + 1 + (k + 1) := by rw [wrapN (by omega) (by omega)]; omega
    simp [h6, f2, c1]
    refine wp_loopUp [(7, 7), (16, 48)] (a + 1 + k) (fun j s' => s'.tm 7 = .int .i64 ((a + 1 + k - j : Nat) : Int) ∧ ∃ d2 : Array Int, insInner ltInt a (a + 1 + k - j) d2 = insInner ltInt a (a + 1 + k) d1 ∧ d2.size = d.size ∧ At l u (arr intC d2) ob tk ub s'.ob s'.tk s'.nx) rfl rfl
      ⟨by simp, d1, rfl, z1, by simp [a1], by simpa using a2, by simp [a3], by simp; omega⟩ ?_
    rintro j s1 hj ⟨h7, d2, e2, z2, b1, b2, b3, b4⟩ f
    have g0 : s1.tm 0 = .osl l u 0 d.size 1 := by rw [f.t 0 (by simp)]; simp [f0]
    have g1 : s1.tm 1 = .int .i64 a := by rw [f.t 1 (by simp)]; simp [f1]
    have g6 : s1.tm 6 = .int .i64 ((a : Int) + 1 + k) := by rw [f.t 6 (by simp)]; simp [h6]
    have gd : s1.df = [] := by rw [f.d]; simp [fd]
    have gr : s1.ro = ro := by rw [f.r]; simp [fr]
    clear f
    by_cases hgt : a < a + 1 + k - j
    · obtain ⟨m, hm⟩ : ∃ m, a + 1 + k - j = m + 1 := ⟨a + 1 + k - j - 1, by omega⟩
      rw [hm] at h7 e2 hgt
      have i1 : idxSlV 1 (.osl l u 0 d.size 1) (.int .i64 ((m + 1 : Nat) : Int)) = some (.ptr l u ((m + 1) * 1)) := idxA (by omega) (by omega)
      have i0 : idxSlV 1 (.osl l u 0 d.size 1) (.int .i64 ((m : Nat) : Int)) = some (.ptr l u (m * 1)) := idxA (by omega) (by omega)
      have w3 : IntKind.i64.wrap (((m + 1 : Nat) : Int) - 1) = (m : Nat) := by rw [wrapN (by omega) (by omega)]; omega
      have l1 := ldI b1 (x := m + 1) (by omega)
      have l0 := ldI b1 (x := m) (by omega)
      have c2 : (a : Int) < ((m + 1 : Nat) : Int) := by omega
      generalize hM1 : ((m + 1 : Nat) : Int) = M1 at *
      generalize hM0 : ((m : Nat) : Int) = M0 at *
      simp only [Nat.mul_one] at i1 i0 l1 l0
      simp [h7, g0, g1, c2, i1, i0, w3, l1, l0]
      have st1 := stI (d := d2) (x := m + 1) (by omega) d2[m]!
      have st2 := stI (d := d2.setIfInBounds (m + 1) d2[m]!) (x := m) (by simp; omega) d2[m + 1]!
      have hsw : (d2.setIfInBounds (m + 1) d2[m]!).setIfInBounds m d2[m + 1]! = swp d2 (m + 1) m := rfl
      rw [hsw] at st2
      have hz1 : m + 1 + 1 ≤ d2.size := by omega
      have hz2 : m + 1 ≤ d2.size := by omega
      have hro' : ro ≤ u := hro
      refine kS_ev (ev163 d2[m + 1]! d2[m]!) (by simp) rfl (by simp) ?_
      simp
      cases hl : ltInt d2[m + 1]! d2[m]!
      · have e3 : insInner ltInt a (m + 1) d2 = d2 := by rw [insInner]; simp [hl]
        rw [e3] at e2
        simp [g6, w2]
        refine ⟨by omega, d2, ?_, z2, by simpa [At] using ⟨b1, b2, b3, by omega⟩⟩
        rw [← e1, hout, ← e2]
      · have e3 : insInner ltInt a (m + 1) d2 = insInner ltInt a m (swp d2 (m + 1) m) := by rw [insInner]; simp [hl, hgt]
        have hj1 : a + 1 + k - (j + 1) = m := by omega
        simp [h7, g0, i1, i0, w3, l1, l0, objCells, b1, st1, st2, hz1, hz2, hro', gr]
        refine ⟨by omega, by rw [hj1, hM0], swp d2 (m + 1) m, by rw [hj1, ← e3, e2], by rw [swp_size]; exact z2, ?_⟩
        simp [At, app_tk0, b3]
        refine ⟨fun key h1 h2 => ?_, by omega⟩
        simp only [if_neg h1]
        exact b2 key h1 h2
    · have e3 : insInner ltInt a (a + 1 + k - j) d2 = d2 := by
        cases hc : a + 1 + k - j with
        | zero => rfl
        | succ m => rw [insInner]; simp; omega
      rw [e3] at e2
      have c3 : ¬ (a : Int) < ((a + 1 + k - j : Nat) : Int) := by omega
      generalize ((a + 1 + k - j : Nat) : Int) = J at *
      simp [h7, g0, g1, c3, g6, w2]
      refine ⟨by omega, d2, ?_, z2, by simpa [At] using ⟨b1, b2, b3, by omega⟩⟩
      rw [← e1, hout, ← e2]
  · have c1 : ¬ (a : Int) + 1 + k < b := by omega
    have e3 : insOuter ltInt a b (a + 1 + k) d1 = d1 := by rw [insOuter, if_neg hlt]
    rw [e3] at e1
    subst e1
    simp [h6, f2, c1]
    exact endS_nil (Or.inl rfl) (by simp [fd]) (by simpa [At] using ⟨a1, a2, a3, by omega⟩)
end Go.Pv.T

/- Heap sort, where the cells lie. -/
namespace Go.Pv.T
open Go Go.Pv Go.Sort

theorem idxN {l u n x : Nat} {kk : IntKind} {X : Int} (hX : X = (x : Nat)) (hx : x < n) : idxSlV 1 (.osl l u 0 n 1) (.int kk X) = some (.ptr l u x) := by
  subst hX
  have := idxA (sz := 1) (l := l) (u := u) (n := n) (kk := kk) (x := (x : Int)) (by omega) (by omega)
  simpa using this
theorem ldN {ob : Nat → Option Obj'} {l u : Nat} {d : Array Int} {x : Nat} (ho : ob l = some ⟨u, .cells (arr intC d)⟩) (hx : x < d.size) : loadV ob none (.ptr l u x) = some (.int .i64 d[x]!) := by
  have := ldI ho hx
  rwa [Nat.mul_one] at this
theorem At.swap {l u : Nat} {d2 : Array Int} {cs : List V} {ob : Nat → Option Obj'} {tk : Nat → Bool} {ub : Nat} {ob1 : Nat → Option Obj'} {tk1 : Nat → Bool} {ub1 : Nat} {ob2 : Nat → Option Obj'} {tk2 : Nat → Bool} {ub2 : Nat} (h : At l u (arr intC d2) ob tk ub ob1 tk1 ub1)
    (h1 : ob2 l = some ⟨u, .cells cs⟩) (h2 : ∀ key, key ≠ l → ob2 key = ob1 key) (h3 : tk2 = tk1) (h4 : ub1 ≤ ub2) : At l u cs ob tk ub ob2 tk2 ub2 :=
  ⟨h1, fun key a b => (h2 key a).trans (h.2.1 key a b), h3.trans h.2.2.1, Nat.le_trans h.2.2.2 h4⟩

theorem sv200 {Yf : YF} {l u lo hi first : Nat} {d : Array Int} (hd : d.size ≤ 1000000) (hf : first + hi ≤ d.size) (hlo : lo ≤ d.size) {ob : Nat → Option Obj'} {tk : Nat → Bool} {ro base ub : Nat} (ho : ob l = some ⟨u, .cells (arr intC d)⟩) (hro : ro ≤ u) :
    ∃ r, EvS E Yf.y 200 [.osl l u 0 d.size 1, .int .i64 lo, .int .i64 hi, .int .i64 first] ob tk ro base ub r ∧ At l u (arr intC (siftDown ltInt hi first lo d)) ob tk ub r.2.1 r.2.2.1 r.2.2.2 := by
  refine EvS_wp (af := S200) rfl (by decide) ?_
  show wpC E Yf S200.body _ (kEndS S200.res _)
  simp [S200]
  obtain ⟨I, hI⟩ : ∃ I : Nat → St → Prop, I = fun n s => ∃ root : Nat, n = hi - root ∧ root ≤ d.size ∧ s.tm 8 = .int .i64 root ∧ ∃ d1 : Array Int, siftDown ltInt hi first root d1 = siftDown ltInt hi first lo d ∧ d1.size = d.size ∧ At l u (arr intC d1) ob tk ub s.ob s.tk s.nx := ⟨_, rfl⟩
  refine wp_loopF (n := hi - lo) [(8, 9), (11, 75)] I rfl rfl (by rw [hI]; exact ⟨lo, rfl, hlo, by simp, d, rfl, rfl, by simp [At, ho]; omega⟩) ?_
  intro n s hIs f
  rw [hI] at hIs
  obtain ⟨root, rfl, hrs, h8, d1, e1, z1, hat⟩ := hIs
  have f0 : s.tm 0 = .osl l u 0 d.size 1 := by rw [f.t 0 (by simp)]; simp
  have f2 : s.tm 2 = .int .i64 hi := by rw [f.t 2 (by simp)]; simp
  have f3 : s.tm 3 = .int .i64 first := by rw [f.t 3 (by simp)]; simp
  have fd : s.df = [] := by rw [f.d]; simp
  have fr : s.ro = ro := by rw [f.r]; simp
  clear f
  obtain ⟨R, hR⟩ : ∃ x : Int, x = (root : Nat) := ⟨_, rfl⟩
  obtain ⟨R2, hR2⟩ : ∃ x : Int, x = 2 * R := ⟨_, rfl⟩
  obtain ⟨C, hC⟩ : ∃ x : Int, x = R2 + 1 := ⟨_, rfl⟩
  obtain ⟨C1, hC1⟩ : ∃ x : Int, x = C + 1 := ⟨_, rfl⟩
  obtain ⟨F, hF⟩ : ∃ x : Int, x = (first : Nat) := ⟨_, rfl⟩
  obtain ⟨H, hH⟩ : ∃ x : Int, x = (hi : Nat) := ⟨_, rfl⟩
  obtain ⟨FR, hFR⟩ : ∃ x : Int, x = F + R := ⟨_, rfl⟩
  obtain ⟨FC, hFC⟩ : ∃ x : Int, x = F + C := ⟨_, rfl⟩
  obtain ⟨FC1, hFC1⟩ : ∃ x : Int, x = FC + 1 := ⟨_, rfl⟩
  have w1 : IntKind.i64.wrap (2 * R) = R2 := by rw [wrapN (by omega) (by omega)]; exact hR2.symm
  have w2 : IntKind.i64.wrap (R2 + 1) = C := by rw [wrapN (by omega) (by omega)]; exact hC.symm
  have w3 : IntKind.i64.wrap (C + 1) = C1 := by rw [wrapN (by omega) (by omega)]; exact hC1.symm
  have w4 : IntKind.i64.wrap (F + R) = FR := by rw [wrapN (by omega) (by omega)]; exact hFR.symm
  have w5 : IntKind.i64.wrap (F + C) = FC := by rw [wrapN (by omega) (by omega)]; exact hFC.symm
  have w6 : IntKind.i64.wrap (FC + 1) = FC1 := by rw [wrapN (by omega) (by omega)]; exact hFC1.symm
  have w7 : IntKind.i64.wrap (F + C1) = FC1 := by rw [wrapN (by omega) (by omega)]; omega
  rw [← hR] at h8
  rw [← hH] at f2
  rw [← hF] at f3
  by_cases hc : hi ≤ 2 * root + 1
  · have c1 : H ≤ C := by omega
    have e3 : siftDown ltInt hi first root d1 = d1 := by rw [siftDown]; simp; omega
    rw [e3] at e1
    subst e1
    simp [h8, w1, w2, f2, c1]
    exact endS_nil (Or.inl rfl) (by simp [fd]) (hat.swap (by simp [hat.1]) (by simp) (by simp) (by simp; omega))
  have c1 : ¬ H ≤ C := by omega
  have i0 := idxN (l := l) (u := u) (n := d.size) (kk := .i64) (X := FR) (x := first + root) (by omega) (by omega)
  have i1 := idxN (l := l) (u := u) (n := d.size) (kk := .i64) (X := FC) (x := first + (2 * root + 1)) (by omega) (by omega)
  have l0 := ldN hat.1 (x := first + root) (by omega)
  have l1 := ldN hat.1 (x := first + (2 * root + 1)) (by omega)
  have c0 : ¬ hi ≤ 2 * root + 1 := hc
  simp [h8, w1, w2, f2, c1]
  by_cases hr : 2 * root + 1 + 1 < hi
  · have c2 : C1 < H := by omega
    have i2 := idxN (l := l) (u := u) (n := d.size) (kk := .i64) (X := FC1) (x := first + (2 * root + 2)) (by omega) (by omega)
    have l2 := ldN hat.1 (x := first + (2 * root + 2)) (by omega)
    simp [w3, f2, c2, f0, f3, w5, w6, i1, l1, i2, l2]
    refine kS_ev (ev163 d1[first + (2 * root + 1)]! d1[first + (2 * root + 2)]!) (by simp) rfl (by simp) ?_
    have hi3 : first + (2 * root + 1) + 1 = first + (2 * root + 2) := rfl
    cases hl : ltInt d1[first + (2 * root + 1)]! d1[first + (2 * root + 2)]!
    · simp
      simp [h8, w4, f0, f3, i0, l0, i1, l1, w5]
      refine kS_ev (ev163 d1[first + root]! d1[first + (2 * root + 1)]!) (by simp) rfl (by simp) ?_
      cases hl2 : ltInt d1[first + root]! d1[first + (2 * root + 1)]!
      · have e3 : siftDown ltInt hi first root d1 = d1 := by rw [siftDown]; simp [c0, hr, hi3, hl, hl2]
        rw [e3] at e1
        subst e1
        simp
        exact endS_nil (Or.inr rfl) (by simp [fd]) (hat.swap (by simp [hat.1]) (by simp) (by simp) (by simp; omega))
      · have e3 : siftDown ltInt hi first root d1 = siftDown ltInt hi first (2 * root + 1) (swp d1 (first + root) (first + (2 * root + 1))) := by rw [siftDown]; simp [c0, hr, hi3, hl, hl2]
        have st1 := stI (d := d1) (x := first + root) (by omega) d1[first + (2 * root + 1)]!
        have st2 := stI (d := d1.setIfInBounds (first + root) d1[first + (2 * root + 1)]!) (x := first + (2 * root + 1)) (by rw [Array.size_setIfInBounds]; omega) d1[first + root]!
        have hsw : (d1.setIfInBounds (first + root) d1[first + (2 * root + 1)]!).setIfInBounds (first + (2 * root + 1)) d1[first + root]! = swp d1 (first + root) (first + (2 * root + 1)) := rfl
        rw [hsw] at st2
        have hz1 : first + root + 1 ≤ d1.size := by omega
        have hz2 : first + (2 * root + 1) + 1 ≤ d1.size := by omega
        simp [h8, w4, f0, f3, i0, l0, i1, l1, w5, objCells, hat.1, fr, hro, st1, st2, hz1, hz2]
        exact ⟨hi - (2 * root + 1), by omega, by rw [hI]; exact ⟨2 * root + 1, rfl, by omega, by simp; omega, swp d1 (first + root) (first + (2 * root + 1)), by rw [← e3, e1], by rw [swp_size]; exact z1, hat.swap (by simp) (fun key hk => by simp [hk]) (by simp [app_tk0]) (by simp; omega)⟩⟩
    · simp [w3]
      simp [h8, w4, f0, f3, i0, l0, i2, l2, w7]
      refine kS_ev (ev163 d1[first + root]! d1[first + (2 * root + 2)]!) (by simp) rfl (by simp) ?_
      cases hl2 : ltInt d1[first + root]! d1[first + (2 * root + 2)]!
      · have e3 : siftDown ltInt hi first root d1 = d1 := by rw [siftDown]; simp [c0, hr, hi3, hl, hl2]
        rw [e3] at e1
        subst e1
        simp
        exact endS_nil (Or.inr rfl) (by simp [fd]) (hat.swap (by simp [hat.1]) (by simp) (by simp) (by simp; omega))
      · have e3 : siftDown ltInt hi first root d1 = siftDown ltInt hi first (2 * root + 2) (swp d1 (first + root) (first + (2 * root + 2))) := by rw [siftDown]; simp [c0, hr, hi3, hl, hl2]
        have st1 := stI (d := d1) (x := first + root) (by omega) d1[first + (2 * root + 2)]!
        have st2 := stI (d := d1.setIfInBounds (first + root) d1[first + (2 * root + 2)]!) (x := first + (2 * root + 2)) (by rw [Array.size_setIfInBounds]; omega) d1[first + root]!
        have hsw : (d1.setIfInBounds (first + root) d1[first + (2 * root + 2)]!).setIfInBounds (first + (2 * root + 2)) d1[first + root]! = swp d1 (first + root) (first + (2 * root + 2)) := rfl
        rw [hsw] at st2
        have hz1 : first + root + 1 ≤ d1.size := by omega
        have hz2 : first + (2 * root + 2) + 1 ≤ d1.size := by omega
        simp [h8, w4, f0, f3, i0, l0, i2, l2, w7, objCells, hat.1, fr, hro, st1, st2, hz1, hz2]
        exact ⟨hi - (2 * root + 2), by omega, by rw [hI]; exact ⟨2 * root + 2, rfl, by omega, by simp; omega, swp d1 (first + root) (first + (2 * root + 2)), by rw [← e3, e1], by rw [swp_size]; exact z1, hat.swap (by simp) (fun key hk => by simp [hk]) (by simp [app_tk0]) (by simp; omega)⟩⟩
  · have c2 : ¬ C1 < H := by omega
    simp [w3, f2, c2]
    simp [h8, w4, f0, f3, i0, l0, i1, l1, w5]
    refine kS_ev (ev163 d1[first + root]! d1[first + (2 * root + 1)]!) (by simp) rfl (by simp) ?_
    cases hl2 : ltInt d1[first + root]! d1[first + (2 * root + 1)]!
    · have e3 : siftDown ltInt hi first root d1 = d1 := by rw [siftDown]; simp [c0, hr, hl2]
      rw [e3] at e1
      subst e1
      simp
      exact endS_nil (Or.inr rfl) (by simp [fd]) (hat.swap (by simp [hat.1]) (by simp) (by simp) (by simp; omega))
    · have e3 : siftDown ltInt hi first root d1 = siftDown ltInt hi first (2 * root + 1) (swp d1 (first + root) (first + (2 * root + 1))) := by rw [siftDown]; simp [c0, hr, hl2]
      have st1 := stI (d := d1) (x := first + root) (by omega) d1[first + (2 * root + 1)]!
      have st2 := stI (d := d1.setIfInBounds (first + root) d1[first + (2 * root + 1)]!) (x := first + (2 * root + 1)) (by rw [Array.size_setIfInBounds]; omega) d1[first + root]!
      have hsw : (d1.setIfInBounds (first + root) d1[first + (2 * root + 1)]!).setIfInBounds (first + (2 * root + 1)) d1[first + root]! = swp d1 (first + root) (first + (2 * root + 1)) := rfl
      rw [hsw] at st2
      have hz1 : first + root + 1 ≤ d1.size := by omega
      have hz2 : first + (2 * root + 1) + 1 ≤ d1.size := by omega
      simp [h8, w4, f0, f3, i0, l0, i1, l1, w5, objCells, hat.1, fr, hro, st1, st2, hz1, hz2]
      exact ⟨hi - (2 * root + 1), by omega, by rw [hI]; exact ⟨2 * root + 1, rfl, by omega, by simp; omega, swp d1 (first + root) (first + (2 * root + 1)), by rw [← e3, e1], by rw [swp_size]; exact z1, hat.swap (by simp) (fun key hk => by simp [hk]) (by simp [app_tk0]) (by simp; omega)⟩⟩
end Go.Pv.T

/- Calls that share; heap sort. -/
namespace Go.Pv.T
open Go Go.Pv Go.Sort

def retS (st : St) (d : Option Nat) (v : V) (ob : Nat → Option Obj') (tk : Nat → Bool) : St := { st with tm := put st.tm d v, ob := ob, tk := tk }
section
variable {st : St} {d : Option Nat} {v : V} {ob : Nat → Option Obj'} {tk : Nat → Bool}
@[simp] theorem retS_tm (e n : Nat) : (retS st (some e) v ob tk).tm n = if n = e then v else st.tm n := by simp [retS, put, upd_apply]
@[simp] theorem retS_tm0 (n : Nat) : (retS st none v ob tk).tm n = st.tm n := rfl
@[simp] theorem retS_ob : (retS st d v ob tk).ob = ob := rfl
@[simp] theorem retS_tk : (retS st d v ob tk).tk = tk := rfl
@[simp] theorem retS_ro : (retS st d v ob tk).ro = st.ro := rfl
@[simp] theorem retS_nx : (retS st d v ob tk).nx = st.nx := rfl
@[simp] theorem retS_fb : (retS st d v ob tk).fb = st.fb := rfl
@[simp] theorem retS_df : (retS st d v ob tk).df = st.df := rfl
end
@[simp] theorem nilCheckV_ptr (l u o : Nat) : nilCheckV (.ptr l u o) = some (.ptr l u o) := rfl
theorem kS_callP {Yf : YF} {f : FuncId} {xs : List A} {st : St} {ub : Nat} {K : St → Nat → Prop} {d : Option Nat} {nm : Bool} {vs : List V} {P : V × (Nat → Option Obj') × (Nat → Bool) × Nat → Prop} (hx : xs.map (eval E st.tm) = vs) (hs : E.sh nm f = true)
    (he : ∃ r, EvS E Yf.y f vs st.ob st.tk st.ro ((st.fb + d.getD 0 + 1) * 1024) ub r ∧ P r) (h : ∀ v ob' tk' ub', P (v, ob', tk', ub') → K (retS st d v ob' tk') ub') : wpStep E Yf ⟨d, .call f xs, none, nm⟩ st ub K := by
  obtain ⟨r, hr, hP⟩ := he
  exact kS_callS hx hs ⟨r, hr, h r.1 r.2.1 r.2.2.1 r.2.2.2 hP⟩
theorem endS_2 {st : St} {x y : Nat} {P : V × (Nat → Option Obj') × (Nat → Bool) × Nat → Prop} (hd : st.df = []) (h : P (.tup [st.tm x, st.tm y], st.ob, st.tk, st.nx)) : kEndS [.t x, .t y] P .ret st := ⟨_, by simp [endS, hd, resOf], h⟩
theorem endS_1 {st : St} {x : Nat} {P : V × (Nat → Option Obj') × (Nat → Bool) × Nat → Prop} (hd : st.df = []) (h : P (st.tm x, st.ob, st.tk, st.nx)) : kEndS [.t x] P .ret st := ⟨_, by simp [endS, hd, resOf], h⟩
theorem At.refl {l u : Nat} {cs : List V} {ob : Nat → Option Obj'} {tk : Nat → Bool} {ub : Nat} (h : ob l = some ⟨u, .cells cs⟩) : At l u cs ob tk ub ob tk ub := ⟨h, fun _ _ _ => rfl, rfl, Nat.le_refl _⟩
theorem At.trans {l u : Nat} {cs cs' : List V} {ob ob1 ob2 : Nat → Option Obj'} {tk tk1 tk2 : Nat → Bool} {ub ub1 ub1' ub2 : Nat} (h : At l u cs ob tk ub ob1 tk1 ub1) (h' : At l u cs' ob1 tk1 ub1' ob2 tk2 ub2) (hu : ub1 ≤ ub1') : At l u cs' ob tk ub ob2 tk2 ub2 :=
  ⟨h'.1, fun key a b => (h'.2.1 key a (fun m hm => b m (by have := h.2.2.2; omega))).trans (h.2.1 key a b), h'.2.2.1.trans h.2.2.1, by have := h.2.2.2; have := h'.2.2.2; omega⟩
theorem At.same {l u : Nat} {cs : List V} {ob ob1 ob2 : Nat → Option Obj'} {tk tk1 tk2 : Nat → Bool} {ub ub1 ub2 : Nat} (h : At l u cs ob tk ub ob1 tk1 ub1) (h1 : ob2 = ob1) (h2 : tk2 = tk1) (hu : ub1 ≤ ub2) : At l u cs ob tk ub ob2 tk2 ub2 := by
  subst h1 h2
  exact ⟨h.1, h.2.1, h.2.2.1, Nat.le_trans h.2.2.2 hu⟩
theorem siftDown_size (lt : Int → Int → Bool) (hi first root : Nat) (d : Array Int) : (siftDown lt hi first root d).size = d.size := by
  fun_induction siftDown lt hi first root d <;> simp_all [swp_size]

theorem sv158 {Yf : YF} {l u a b : Nat} {d : Array Int} (hd : d.size ≤ 1000000) (hb : b ≤ d.size) (hab : a ≤ b) {ob : Nat → Option Obj'} {tk : Nat → Bool} {ro base ub : Nat} (ho : ob l = some ⟨u, .cells (arr intC d)⟩) (hro : ro ≤ u) :
    ∃ r, EvS E Yf.y 158 [.osl l u 0 d.size 1, .int .i64 a, .int .i64 b] ob tk ro base ub r ∧ At l u (arr intC (heapSort ltInt d a b)) ob tk ub r.2.1 r.2.2.1 r.2.2.2 := by
  refine EvS_wp (af := S158) rfl (by decide) ?_
  show wpC E Yf S158.body _ (kEndS S158.res _)
  obtain ⟨A, hA⟩ : ∃ x : Int, x = (a : Nat) := ⟨_, rfl⟩
  obtain ⟨B, hB⟩ : ∃ x : Int, x = (b : Nat) := ⟨_, rfl⟩
  obtain ⟨H, hH⟩ : ∃ x : Int, x = B - A := ⟨_, rfl⟩
  obtain ⟨H1, hH1⟩ : ∃ x : Int, x = H - 1 := ⟨_, rfl⟩
  have w1 : IntKind.i64.wrap (B - A) = H := by rw [wrapN (by omega) (by omega)]; exact hH.symm
  have w2 : IntKind.i64.wrap (H - 1) = H1 := by rw [wrapN (by omega) (by omega)]; exact hH1.symm
  have w3 : IntKind.i64.wrap (H1.tdiv 2) = (((b - a - 1) / 2 + 1 : Nat) : Int) - 1 := by
    rcases Nat.eq_zero_or_pos (b - a) with h | h
    · have : H1 = -1 := by omega
      rw [this, h]; rfl
    · have : H1 = ((b - a - 1 : Nat) : Int) := by omega
      have e : H1.tdiv 2 = (((b - a - 1) / 2 : Nat) : Int) := by rw [this]; exact (Int.ofNat_tdiv _ 2).symm
      rw [e, wrapN (by omega) (by omega)]
      omega
  rw [← hA, ← hB]
  obtain ⟨K0, hK0⟩ : ∃ k, k = (b - a - 1) / 2 + 1 := ⟨_, rfl⟩
  rw [← hK0] at w3
  obtain ⟨J0, hJ0⟩ : ∃ x : Int, x = (K0 : Int) - 1 := ⟨_, rfl⟩
  rw [← hJ0] at w3
  simp [S158, w1, w2, w3]
  obtain ⟨I, hI⟩ : ∃ I : Nat → St → Prop, I = fun n s => s.tm 9 = .int .i64 ((n : Int) - 1) ∧ n ≤ K0 ∧ ∃ d1 : Array Int, heapBuild ltInt (b - a) a n d1 = heapBuild ltInt (b - a) a K0 d ∧ d1.size = d.size ∧ At l u (arr intC d1) ob tk ub s.ob s.tk s.nx := ⟨_, rfl⟩
  refine wp_loopF (n := K0) [(9, 9), (18, 26)] I rfl rfl (by rw [hI]; exact ⟨by simp [hJ0], Nat.le_refl _, d, rfl, rfl, (At.refl ho).same (by simp) (by simp) (by simp; omega)⟩) ?_
  intro n s hIs f
  rw [hI] at hIs
  obtain ⟨h9, hnK, d1, e1, z1, hat⟩ := hIs
  have f0 : s.tm 0 = .osl l u 0 d.size 1 := by rw [f.t 0 (by simp)]; simp
  have f6 : s.tm 6 = .int .i64 A := by rw [f.t 6 (by simp)]; simp
  have f7 : s.tm 7 = .int .i64 0 := by rw [f.t 7 (by simp)]; simp
  have f8 : s.tm 8 = .int .i64 H := by rw [f.t 8 (by simp)]; simp
  have fd : s.df = [] := by rw [f.d]; simp
  have fr : s.ro = ro := by rw [f.r]; simp
  clear f
  cases n with
  | succ m =>
    obtain ⟨J, hJ⟩ : ∃ x : Int, x = ((m + 1 : Nat) : Int) - 1 := ⟨_, rfl⟩
    rw [← hJ] at h9
    have c1 : 0 ≤ J := by omega
    have w4 : IntKind.i64.wrap (J - 1) = (m : Int) - 1 := by rw [wrapN (by omega) (by omega)]; omega
    simp [h9, c1, f0, f8, f6]
    refine kS_callP (vs := [.osl l u 0 d1.size 1, .int .i64 (m : Nat), .int .i64 ((b - a : Nat) : Int), .int .i64 (a : Nat)]) (by simp [z1]; omega) rfl (sv200 (l := l) (u := u) (d := d1) (by omega) (by omega) (by omega) (by simp [hat.1]) (by simp [fr, hro])) ?_
    rintro v ob' tk' ub' hat2
    simp [h9, w4]
    refine ⟨m, by omega, ?_⟩
    rw [hI]
    exact ⟨by simp, by omega, siftDown ltInt (b - a) a m d1, by rw [← e1]; rfl, by rw [siftDown_size]; exact z1, (hat.trans hat2 (by omega)).same rfl rfl (by simp; omega)⟩
  | zero =>
    have e3 : d1 = heapBuild ltInt (b - a) a K0 d := by rw [← e1]; rfl
    have w5 : IntKind.i64.wrap (H - 1) = ((b - a : Nat) : Int) - 1 := by rw [wrapN (by omega) (by omega)]; omega
    simp [h9, f8, w5]
    obtain ⟨I2, hI2⟩ : ∃ I : Nat → St → Prop, I = fun n s => s.tm 10 = .int .i64 ((n : Int) - 1) ∧ n ≤ b - a ∧ ∃ d2 : Array Int, heapPop ltInt a n d2 = heapSort ltInt d a b ∧ d2.size = d.size ∧ At l u (arr intC d2) ob tk ub s.ob s.tk s.nx := ⟨_, rfl⟩
    refine wp_loopF (n := b - a) [(10, 10), (29, 55)] I2 rfl rfl (by rw [hI2]; exact ⟨by simp, Nat.le_refl _, d1, by rw [e3, hK0]; rfl, z1, hat.same rfl rfl (by simp; omega)⟩) ?_
    intro n s1 hIs f
    rw [hI2] at hIs
    obtain ⟨h10, hnB, d2, e2, z2, hat1⟩ := hIs
    have g0 : s1.tm 0 = .osl l u 0 d.size 1 := by rw [f.t 0 (by simp)]; simp [f0]
    have g6 : s1.tm 6 = .int .i64 A := by rw [f.t 6 (by simp)]; simp [f6]
    have g7 : s1.tm 7 = .int .i64 0 := by rw [f.t 7 (by simp)]; simp [f7]
    have gd : s1.df = [] := by rw [f.d]; simp [fd]
    have gr : s1.ro = ro := by rw [f.r]; simp [fr]
    clear f
    cases n with
    | succ m =>
      obtain ⟨J, hJ⟩ : ∃ x : Int, x = ((m + 1 : Nat) : Int) - 1 := ⟨_, rfl⟩
      rw [← hJ] at h10
      obtain ⟨AJ, hAJ⟩ : ∃ x : Int, x = A + J := ⟨_, rfl⟩
      have c1 : 0 ≤ J := by omega
      have w4 : IntKind.i64.wrap (J - 1) = (m : Int) - 1 := by rw [wrapN (by omega) (by omega)]; omega
      have w6 : IntKind.i64.wrap (A + J) = AJ := by rw [wrapN (by omega) (by omega)]; exact hAJ.symm
      have i0 := idxN (l := l) (u := u) (n := d.size) (kk := .i64) (X := A) (x := a) (by omega) (by omega)
      have i1 := idxN (l := l) (u := u) (n := d.size) (kk := .i64) (X := AJ) (x := a + m) (by omega) (by omega)
      have l0 := ldN hat1.1 (x := a) (by omega)
      have l1 := ldN hat1.1 (x := a + m) (by omega)
      have st1 := stI (d := d2) (x := a) (by omega) d2[a + m]!
      have st2 := stI (d := d2.setIfInBounds a d2[a + m]!) (x := a + m) (by rw [Array.size_setIfInBounds]; omega) d2[a]!
      have hsw : (d2.setIfInBounds a d2[a + m]!).setIfInBounds (a + m) d2[a]! = swp d2 a (a + m) := rfl
      rw [hsw] at st2
      have hz1 : a + 1 ≤ d2.size := by omega
      have hz2 : a + m + 1 ≤ d2.size := by omega
      have hzs : (swp d2 a (a + m)).size = d2.size := swp_size _ _ _
      simp [h10, c1, g0, g6, w6, i0, i1, l0, l1, objCells, hat1.1, gr, hro, st1, st2, hz1, hz2, g7]
      have hat2 : ∀ (ob2 : Nat → Option Obj') (tk2 : Nat → Bool) (ub2 : Nat), ob2 l = some ⟨u, .cells (arr intC (swp d2 a (a + m)))⟩ → (∀ key, key ≠ l → ob2 key = s1.ob key) → tk2 = s1.tk → s1.nx ≤ ub2 → At l u (arr intC (swp d2 a (a + m))) ob tk ub ob2 tk2 ub2 := fun _ _ _ q1 q2 q3 q4 => hat1.swap q1 q2 q3 q4
      refine kS_callP (vs := [.osl l u 0 (swp d2 a (a + m)).size 1, .int .i64 (0 : Nat), .int .i64 (m : Nat), .int .i64 (a : Nat)]) (by simp [hzs, z2]; omega) rfl (sv200 (l := l) (u := u) (d := swp d2 a (a + m)) (by omega) (by omega) (by omega) (by simp) (by simp [gr, hro])) ?_
      rintro v ob' tk' ub' hat3
      have hat4 := (hat2 _ _ _ (by simp) (fun key hk => by simp [hk]) (by simp [app_tk0]) (by omega)).trans hat3 (Nat.le_refl _)
      simp [h10, w4]
      refine ⟨m, by omega, ?_⟩
      rw [hI2]
      exact ⟨by simp, by omega, siftDown ltInt m a 0 (swp d2 a (a + m)), by rw [← e2]; rfl, by rw [siftDown_size, swp_size]; exact z2, hat4.same rfl rfl (by simp; omega)⟩
    | zero =>
      have e4 : d2 = heapSort ltInt d a b := by rw [← e2]; rfl
      subst e4
      simp [h10]
      exact endS_nil (Or.inl rfl) (by simp [gd]) (hat1.same rfl rfl (by simp; omega))
end Go.Pv.T

/- Turning round; pivots. -/
namespace Go.Pv.T
open Go Go.Pv Go.Sort

theorem sv161 {Yf : YF} {l u a b : Nat} {d : Array Int} (hd : d.size ≤ 1000000) (hb : b ≤ d.size) (hab : a < b) {ob : Nat → Option Obj'} {tk : Nat → Bool} {ro base ub : Nat} (ho : ob l = some ⟨u, .cells (arr intC d)⟩) (hro : ro ≤ u) :
    ∃ r, EvS E Yf.y 161 [.osl l u 0 d.size 1, .int .i64 a, .int .i64 b] ob tk ro base ub r ∧ At l u (arr intC (reverseRange d a b)) ob tk ub r.2.1 r.2.2.1 r.2.2.2 := by
  refine EvS_wp (af := S161) rfl (by decide) ?_
  show wpC E Yf S161.body _ (kEndS S161.res _)
  have w1 : IntKind.i64.wrap ((b : Int) - 1) = ((b - 1 : Nat) : Int) := by rw [wrapN (by omega) (by omega)]; omega
  simp [S161, w1]
  obtain ⟨I, hI⟩ : ∃ I : Nat → St → Prop, I = fun n s => ∃ i j : Nat, n = j - i ∧ i ≤ b ∧ j < b ∧ s.tm 6 = .int .i64 i ∧ s.tm 7 = .int .i64 j ∧ ∃ d1 : Array Int, reverseLoop i j d1 = reverseRange d a b ∧ d1.size = d.size ∧ At l u (arr intC d1) ob tk ub s.ob s.tk s.nx := ⟨_, rfl⟩
  refine wp_loopF (n := b - 1 - a) [(6, 7), (11, 31)] I rfl rfl (by rw [hI]; exact ⟨a, b - 1, rfl, by omega, by omega, by simp, by simp, d, rfl, rfl, (At.refl ho).same rfl rfl (by simp; omega)⟩) ?_
  intro n s hIs f
  rw [hI] at hIs
  obtain ⟨i, j, rfl, hi, hj, h6, h7, d1, e1, z1, hat⟩ := hIs
  have f0 : s.tm 0 = .osl l u 0 d.size 1 := by rw [f.t 0 (by simp)]; simp
  have fd : s.df = [] := by rw [f.d]; simp
  have fr : s.ro = ro := by rw [f.r]; simp
  clear f
  obtain ⟨X, hX⟩ : ∃ x : Int, x = (i : Nat) := ⟨_, rfl⟩
  obtain ⟨Z, hZ⟩ : ∃ x : Int, x = (j : Nat) := ⟨_, rfl⟩
  rw [← hX] at h6
  rw [← hZ] at h7
  by_cases hij : i < j
  · have c1 : X < Z := by omega
    have w2 : IntKind.i64.wrap (X + 1) = ((i + 1 : Nat) : Int) := by rw [wrapN (by omega) (by omega)]; omega
    have w3 : IntKind.i64.wrap (Z - 1) = ((j - 1 : Nat) : Int) := by rw [wrapN (by omega) (by omega)]; omega
    have i0 := idxN (l := l) (u := u) (n := d.size) (kk := .i64) (X := X) (x := i) (by omega) (by omega)
    have i1 := idxN (l := l) (u := u) (n := d.size) (kk := .i64) (X := Z) (x := j) (by omega) (by omega)
    have l0 := ldN hat.1 (x := i) (by omega)
    have l1 := ldN hat.1 (x := j) (by omega)
    have st1 := stI (d := d1) (x := i) (by omega) d1[j]!
    have st2 := stI (d := d1.setIfInBounds i d1[j]!) (x := j) (by rw [Array.size_setIfInBounds]; omega) d1[i]!
    have hsw : (d1.setIfInBounds i d1[j]!).setIfInBounds j d1[i]! = swp d1 i j := rfl
    rw [hsw] at st2
    have hz1 : i + 1 ≤ d1.size := by omega
    have hz2 : j + 1 ≤ d1.size := by omega
    have e3 : reverseLoop i j d1 = reverseLoop (i + 1) (j - 1) (swp d1 i j) := by rw [reverseLoop, if_pos hij]
    generalize hN1 : ((i + 1 : Nat) : Int) = N1 at *
    generalize hN2 : ((j - 1 : Nat) : Int) = N2 at *
    simp [h6, h7, c1, f0, i0, i1, l0, l1, objCells, hat.1, fr, hro, st1, st2, hz1, hz2, w2, w3]
    exact ⟨j - 1 - (i + 1), by omega, by rw [hI]; exact ⟨i + 1, j - 1, rfl, by omega, by omega, by simp [hN1], by simp [hN2], swp d1 i j, by rw [← e3, e1], by rw [swp_size]; exact z1, hat.swap (by simp) (fun key hk => by simp [hk]) (by simp [app_tk0]) (by simp; omega)⟩⟩
  · have c1 : ¬ X < Z := by omega
    have e3 : reverseLoop i j d1 = d1 := by rw [reverseLoop, if_neg hij]
    rw [e3] at e1
    subst e1
    simp [h6, h7, c1]
    exact endS_nil (Or.inl rfl) (by simp [fd]) (hat.same rfl rfl (by simp; omega))

def Cn (w uw : Nat) (ob : Nat → Option Obj') (tk : Nat → Bool) (ub : Nat) (ob' : Nat → Option Obj') (tk' : Nat → Bool) (ub' : Nat) : Prop :=
  (∃ c, ob' w = some ⟨uw, .cells [.int .i64 c]⟩) ∧ (∀ key, key ≠ w → ob' key = ob key) ∧ tk' = tk ∧ ub ≤ ub'
theorem Cn.trans {w uw : Nat} {ob ob1 ob2 : Nat → Option Obj'} {tk tk1 tk2 : Nat → Bool} {ub ub1 ub1' ub2 : Nat} (h : Cn w uw ob tk ub ob1 tk1 ub1) (h' : Cn w uw ob1 tk1 ub1' ob2 tk2 ub2) (hu : ub1 ≤ ub1') : Cn w uw ob tk ub ob2 tk2 ub2 :=
  ⟨h'.1, fun key a => (h'.2.1 key a).trans (h.2.1 key a), h'.2.2.1.trans h.2.2.1, by have := h.2.2.2; have := h'.2.2.2; omega⟩

theorem sv240 {Yf : YF} {l u w uw a b : Nat} {d : Array Int} {c : Int} (ha : a < d.size) (hb : b < d.size) {ob : Nat → Option Obj'} {tk : Nat → Bool} {ro base ub : Nat} (ho : ob l = some ⟨u, .cells (arr intC d)⟩) (hw : ob w = some ⟨uw, .cells [.int .i64 c]⟩) (hro : ro ≤ uw) :
    ∃ r, EvS E Yf.y 240 [.osl l u 0 d.size 1, .int .i64 a, .int .i64 b, .ptr w uw 0] ob tk ro base ub r ∧ (∃ x y : Nat, r.1 = .tup [.int .i64 x, .int .i64 y] ∧ (x = a ∧ y = b ∨ x = b ∧ y = a)) ∧ Cn w uw ob tk ub r.2.1 r.2.2.1 r.2.2.2 := by
  refine EvS_wp (af := S240) rfl (by decide) ?_
  show wpC E Yf S240.body _ (kEndS S240.res _)
  have i0 := idxN (l := l) (u := u) (n := d.size) (kk := .i64) (X := (a : Int)) (x := a) rfl (by omega)
  have i1 := idxN (l := l) (u := u) (n := d.size) (kk := .i64) (X := (b : Int)) (x := b) rfl (by omega)
  have l0 := ldN ho (x := a) (by omega)
  have l1 := ldN ho (x := b) (by omega)
  simp [S240, i0, i1, l0, l1]
  refine kS_ev (ev163 d[b]! d[a]!) (by simp) rfl (by simp) ?_
  simp
  cases hl : ltInt d[b]! d[a]!
  · simp
    exact endS_2 (by simp) ⟨⟨a, b, by simp, Or.inl ⟨rfl, rfl⟩⟩, ⟨c, hw⟩, fun _ _ => rfl, rfl, by simp; omega⟩
  · simp [objCells, hw, hro, splice]
    exact endS_2 (by simp) ⟨⟨b, a, by simp, Or.inr ⟨rfl, rfl⟩⟩, ⟨IntKind.i64.wrap (c + 1), by simp⟩, fun key hk => by simp [hk], by simp [app_tk0], by simp; omega⟩
end Go.Pv.T
