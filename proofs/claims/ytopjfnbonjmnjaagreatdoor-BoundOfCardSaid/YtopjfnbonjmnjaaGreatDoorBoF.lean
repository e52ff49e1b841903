/- The reference's names, and tables. -/
import Derived.Test.YtopjfnbonjmnjaaGreatDoorBoE
import Derived.Laws.Bits64
namespace Go.Pv.T
open Go Go.Pv

theorem idx_sl {α : Type} {f : α → List V} {k : Nat} (hf : ∀ a, (f a).length = k) (t : Option (Nat × Nat)) (nl : Bool) (l : List α) (kk : IntKind) {i : Nat} (h : i < l.length) : idxSlV k (.sl t nl l.length (l.flatMap f)) (.int kk i) = some (.eptr (l.flatMap f) (i * k)) := by
  simp only [idxSlV_sl, flatMap_len hf]
  rw [if_pos (by simp; omega)]
  rfl
theorem idx_sl0 {α : Type} {f : α → List V} {k : Nat} (hf : ∀ a, (f a).length = k) (t : Option (Nat × Nat)) (nl : Bool) (l : List α) (kk : IntKind) (h : 0 < l.length) : idxSlV k (.sl t nl l.length (l.flatMap f)) (.int kk 0) = some (.eptr (l.flatMap f) 0) := by
  have := idx_sl hf t nl l kk h
  simpa using this
theorem int_at (l : List Int) {i : Nat} (h : i < l.length) : (l.flatMap intC)[i]? = some (.int .i64 l[i]) := by
  have := fld_at (f := intC) intC_len l h (by decide : 0 < 1)
  rw [Nat.mul_one, Nat.add_zero] at this
  rw [this]
  rfl
theorem str_at (l : List (List UInt8)) {i : Nat} (h : i < l.length) : (l.flatMap strC)[i]? = some (.str l[i]) := by
  have := fld_at (f := strC) strC_len l h (by decide : 0 < 1)
  rw [Nat.mul_one, Nat.add_zero] at this
  rw [this]
  rfl
theorem wrapU {i N : Nat} (h : i < N) (hN : N ≤ 1000000000) : IntKind.i64.wrap ((i : Int) + 1) = (i : Int) + 1 := wrap64' (by omega) (by omega)
theorem dne_t {a b : Int} (h : a < b ∨ b < a) : (a != b) = true := by simp; omega
theorem dne_f {a b : Int} (h : a = b) : (a != b) = false := by simp [h]

def headDig : List Int → Bool
  | [] => false
  | c :: _ => digitB c
def nmOk (l : List Int) : Bool := decide (1 ≤ l.length) && decide (l.length ≤ 20) && !(headDig l) && l.all partB
/-- Is it a name? -/
def nameB (s : List UInt8) : Bool := !resB s && Lib.validD s && nmOk (runesI s)
/-- Is it ahead? -/
def lessB (a b : List UInt8) : Bool := decide (cmpL (runesI a) (runesI b) < 0)
def okAt (t : List (List UInt8)) (j : Nat) : Bool := nameB (t.getD j []) && (j == 0 || lessB (t.getD (j - 1) []) (t.getD j []))
/-- Is it a table? -/
def tabB (t : List (List UInt8)) : Bool := (List.range t.length).all (okAt t)
theorem headD_get {l : List Int} (h : 0 < l.length) : headDig l = digitB l[0] := by
  cases l with
  | nil => simp at h
  | cons a l => rfl
theorem all_at {α : Type} {p : α → Bool} {l : List α} (h : ∀ j (hj : j < l.length), p l[j] = true) : l.all p = true := by
  rw [List.all_eq_true]
  intro x hx
  obtain ⟨j, hj, rfl⟩ := List.getElem_of_mem hx
  exact h j hj
theorem all_not {α : Type} {p : α → Bool} {l : List α} {j : Nat} (hj : j < l.length) (h : p l[j] = false) : l.all p = false := by
  rw [List.all_eq_false]
  exact ⟨_, List.getElem_mem hj, by rw [h]; decide⟩

theorem part_cases (c : Int) : (partB c = false ∧ (c < 48 ∨ (57 < c ∧ c < 65) ∨ (90 < c ∧ c < 95) ∨ c = 96 ∨ (122 < c ∧ c < 128))) ∨ (partB c = true ∧ ((48 ≤ c ∧ c ≤ 57) ∨ (65 ≤ c ∧ c ≤ 90) ∨ c = 95 ∨ (97 ≤ c ∧ c ≤ 122) ∨ 127 < c)) := by
  simp [partB, digitB]
  omega
def L126 : C := .seq (.seq (.region [
             ⟨(some 37), .mov (.t 4), none, false⟩,
             ⟨(some 38), .mov (.t 3), none, false⟩,
             ⟨(some 39), .lenSl (.t 38), none, false⟩,
             ⟨(some 40), .bin .lss (.t 37) (.t 39), none, false⟩])
           (.cond (.t 40) (.skip)
            (.exit 0)))
          (.seq (.block 1 (.seq (.region [
               ⟨(some 43), .mov (.t 3), none, false⟩,
               ⟨(some 44), .mov (.t 4), none, false⟩,
               ⟨(some 45), .idxSl 1 (.t 43) (.t 44), none, false⟩,
               ⟨(some 46), .load none (.t 45), none, false⟩,
               ⟨(some 5), .mov (.t 46), none, false⟩])
             (.seq (.region [
                ⟨(some 47), .mov (.t 5), none, false⟩,
                ⟨(some 48), .bin .lss (.t 47) (.c (.int .i64 128)), none, false⟩,
                ⟨(some 49), .mov (.t 48), none, false⟩,
                ⟨(some 50), .mov (.t 5), (some (49, true)), false⟩,
                ⟨(some 51), .bin .neq (.t 50) (.c (.int .i64 95)), (some (49, true)), false⟩,
                ⟨(some 52), .pick (.t 49) (.t 51) (.c (.bool false)), none, false⟩,
                ⟨(some 53), .mov (.t 52), none, false⟩,
                ⟨(some 54), .mov (.t 5), (some (53, true)), false⟩,
                ⟨(some 55), .bin .lss (.t 54) (.c (.int .i64 48)), (some (53, true)), false⟩,
                ⟨(some 56), .mov (.t 55), (some (53, true)), false⟩,
                ⟨(some 57), .mov (.t 5), (some (56, false)), false⟩,
                ⟨(some 58), .bin .gtr (.t 57) (.c (.int .i64 57)), (some (56, false)), false⟩,
                ⟨(some 59), .pick (.t 56) (.c (.bool true)) (.t 58), (some (53, true)), false⟩,
                ⟨(some 60), .pick (.t 53) (.t 59) (.c (.bool false)), none, false⟩,
                ⟨(some 61), .mov (.t 60), none, false⟩,
                ⟨(some 62), .mov (.t 5), (some (61, true)), false⟩,
                ⟨(some 63), .bin .lss (.t 62) (.c (.int .i64 65)), (some (61, true)), false⟩,
                ⟨(some 64), .mov (.t 63), (some (61, true)), false⟩,
                ⟨(some 65), .mov (.t 5), (some (64, false)), false⟩,
                ⟨(some 66), .bin .gtr (.t 65) (.c (.int .i64 90)), (some (64, false)), false⟩,
                ⟨(some 67), .pick (.t 64) (.c (.bool true)) (.t 66), (some (61, true)), false⟩,
                ⟨(some 68), .pick (.t 61) (.t 67) (.c (.bool false)), none, false⟩,
                ⟨(some 69), .mov (.t 68), none, false⟩,
                ⟨(some 70), .mov (.t 5), (some (69, true)), false⟩,
                ⟨(some 71), .bin .lss (.t 70) (.c (.int .i64 97)), (some (69, true)), false⟩,
                ⟨(some 72), .mov (.t 71), (some (69, true)), false⟩,
                ⟨(some 73), .mov (.t 5), (some (72, false)), false⟩,
                ⟨(some 74), .bin .gtr (.t 73) (.c (.int .i64 122)), (some (72, false)), false⟩,
                ⟨(some 75), .pick (.t 72) (.c (.bool true)) (.t 74), (some (69, true)), false⟩,
                ⟨(some 76), .pick (.t 69) (.t 75) (.c (.bool false)), none, false⟩])
              (.cond (.t 76) (.seq (.region [
                  ⟨(some 2), .mov (.c (.bool false)), none, false⟩])
                (.ret))
               (.skip)))))
           (.region [
             ⟨(some 41), .mov (.t 4), none, false⟩,
             ⟨(some 42), .bin .add (.t 41) (.c (.int .i64 1)), none, false⟩,
             ⟨(some 4), .mov (.t 42), none, false⟩]))
theorem ev126 (s : List UInt8) (hs : s.length ≤ 1000000) : Ev E 126 [.str s] (.bool (nameB s)) := by
  refine Ev_wpK (af := F126) rfl ?_
  simp [F126]
  refine kS_ev (ev172 s hs) (by simp) rfl rfl ?_
  have hl := runesI_len s
  unfold nameB nmOk
  generalize hr : runesI s = l at *
  simp [retA, toksRes, V.toks, V.tok, inRes, inTop, inLeaf]
  by_cases a1 : (l.length : Int) < 1
  · simp [a1]
    exact endV_1 rfl (by simp; omega) rfl
  by_cases a2 : 20 < (l.length : Int)
  · simp [a1, a2]
    exact endV_1 rfl (by simp; omega) rfl
  have h0 : 0 < l.length := by omega
  have hh := headD_get h0
  simp [a1, a2]
  refine kS_ev (ev173 s) (by simp) rfl rfl ?_
  cases b1 : resB s
  case true =>
    simp
    exact endV_1 rfl (by simp) rfl
  simp
  refine kS_ev (ev174 s hs) (by simp) rfl rfl ?_
  cases b2 : Lib.validD s
  case false =>
    simp
    exact endV_1 rfl (by simp) rfl
  have goon : ∀ {st : St}, st.df = [] → st.tm 4 = .int .i64 0 → st.tm 3 = .sl (some (128, 1)) false l.length (l.flatMap intC) → headDig l = false →
      wpC E noYF (.loop L126) st (kBlk 0 (kSeq E noYF (.seq (.region [⟨(some 2), .mov (.c (.bool true)), none, false⟩]) (.ret)) (kEnd [.t 2] (.bool (!false && true && (decide (1 ≤ l.length) && decide (l.length ≤ 20) && !(headDig l) && l.all partB)))))) := by
    intro st hd h4 h3 hg
    refine wp_loopUp [(2, 2), (4, 5), (37, 76)] l.length (fun i s => s.tm 4 = .int .i64 i ∧ ∀ j (hj : j < l.length), j < i → partB l[j] = true) rfl rfl ⟨by simp [h4], fun j _ h => by omega⟩ ?_
    rintro i s hi ⟨h4, hb⟩ f
    have f3 : s.tm 3 = .sl (some (128, 1)) false l.length (l.flatMap intC) := by rw [f.t 3 (by simp)]; simp [h3]
    by_cases hlt : i < l.length
    · have hw := wrapU hlt (by omega)
      obtain ⟨c, hc⟩ : ∃ c, l[i] = c := ⟨_, rfl⟩
      have hi0 := int_at l hlt
      rw [hc] at hi0
      rcases part_cases c with ⟨hp, q⟩ | ⟨hp, q⟩
      · rcases q with q | q | q | q | q
        all_goals
          simp (disch := omega) [L126, h4, f3, hlt, idx_sl intC_len, hi0, dlt_t, dlt_f, dne_t]
          exact endV_1 (by simp [f.d, hd]) (by simp [all_not hlt (hc ▸ hp)]) rfl
      · rcases q with q | q | q | q | q
        all_goals
          simp (disch := omega) [L126, h4, f3, hlt, idx_sl intC_len, hi0, dlt_t, dlt_f, dne_t, dne_f, hw]
          intro j hj hji
          rcases Nat.lt_succ_iff_lt_or_eq.1 hji with h | rfl
          · exact hb j hj h
          · exact hc ▸ hp
    · have : i = l.length := by omega
      subst this
      simp [L126, h4, f3]
      exact endV_1 (by simp [f.d, hd]) (by simp [hg, all_at (fun j hj => hb j hj hj)]; omega) rfl
  obtain ⟨c, hc⟩ : ∃ c, l[0] = c := ⟨_, rfl⟩
  have hi0 := int_at l h0
  rw [hc] at hh hi0
  by_cases d1 : 48 ≤ c
  · by_cases d2 : c ≤ 57
    · simp [idx_sl0 intC_len _ _ l _ h0, hi0, d1, d2]
      exact endV_1 rfl (by simp [hh, digitB, d1, d2]) rfl
    simp [idx_sl0 intC_len _ _ l _ h0, hi0, d1, d2]
    exact goon rfl (by simp) (by simp) (by simp [hh, digitB, d2])
  simp [idx_sl0 intC_len _ _ l _ h0, hi0, d1]
  exact goon rfl (by simp) (by simp) (by simp [hh, digitB, d1])
end Go.Pv.T

/- Order and tables, the reference's; names, the program's. -/
namespace Go.Pv.T
open Go Go.Pv

theorem cmpI_lt (a b : Int) : (cmpI a b < 0) = (a < b) := by
  unfold cmpI
  split
  · simp [*]
  · split <;> simp [*]
theorem cmpI_z {a b : Int} : cmpI a b = 0 ↔ a = b := by
  unfold cmpI
  split
  · simp; omega
  · split
    · simp; omega
    · simp; omega
theorem ev127 (a b : List UInt8) (ha : a.length ≤ 1000000) (hb : b.length ≤ 1000000) : Ev E 127 [.str a, .str b] (.bool (lessB a b)) := by
  refine Ev_wpK (af := F127) rfl ?_
  simp [F127]
  refine kS_ev (ev172 a ha) (by simp) rfl rfl ?_
  have hxl := runesI_len a
  have hyl := runesI_len b
  unfold lessB
  simp [retA, toksRes, V.toks, V.tok, inRes, inTop, inLeaf]
  refine kS_ev (ev172 b hb) (by simp) rfl rfl ?_
  generalize runesI a = x at *
  generalize runesI b = y at *
  simp [retA, toksRes, V.toks, V.tok, inRes, inTop, inLeaf]
  refine wp_loopUp [(4, 4), (7, 7), (12, 41)] x.length (fun i s => s.tm 7 = .int .i64 i ∧ i ≤ y.length ∧ cmpL (x.drop i) (y.drop i) = cmpL x y) rfl rfl ⟨by simp, by simp, by simp⟩ ?_
  rintro i s hi ⟨h7, hiy, hc⟩ f
  have f5 : s.tm 5 = .sl (some (128, 1)) false x.length (x.flatMap intC) := by rw [f.t 5 (by simp)]; simp
  have f6 : s.tm 6 = .sl (some (256, 1)) false y.length (y.flatMap intC) := by rw [f.t 6 (by simp)]; simp
  have fd : s.df = [] := by rw [f.d]; simp
  clear f
  by_cases hlt : i < x.length
  · by_cases hly : i < y.length
    · have hw := wrapU hlt (by omega)
      rw [List.drop_eq_getElem_cons hlt, List.drop_eq_getElem_cons hly, cmpL] at hc
      obtain ⟨c, hxc⟩ : ∃ c, x[i] = c := ⟨_, rfl⟩
      obtain ⟨d, hyd⟩ : ∃ d, y[i] = d := ⟨_, rfl⟩
      have hx0 := int_at x hlt
      have hy0 := int_at y hly
      rw [hxc] at hc hx0
      rw [hyd] at hc hy0
      by_cases he : c = d
      · rw [if_pos (cmpI_z.2 he)] at hc
        simp [h7, f5, f6, hlt, hly, idx_sl intC_len, hx0, hy0, he, hw]
        exact ⟨by omega, hc⟩
      · rw [if_neg (fun h => he (cmpI_z.1 h))] at hc
        have he' : (c != d) = true := by simpa using he
        simp [h7, f5, f6, hlt, hly, idx_sl intC_len, hx0, hy0, he']
        exact endV_1 (by simp [fd]) (by simp [← hc, cmpI_lt]) rfl
    · have e : y.drop i = [] := List.drop_of_length_le (by omega)
      rw [List.drop_eq_getElem_cons hlt, e, cmpL] at hc
      have hnl : ¬ x.length < y.length := by omega
      simp [h7, f5, f6, hlt, hly]
      exact endV_1 (by simp [fd]) (by simp [← hc, hnl]) rfl
  · have : i = x.length := by omega
    subst this
    rw [List.drop_length] at hc
    simp [h7, f5, f6]
    by_cases hly : x.length < y.length
    · rw [List.drop_eq_getElem_cons hly, cmpL] at hc
      exact endV_1 (by simp [fd]) (by simp [← hc, hly]) rfl
    · rw [List.drop_of_length_le (by omega : y.length ≤ x.length), cmpL] at hc
      exact endV_1 (by simp [fd]) (by simp [← hc, hly]) rfl

theorem tabB_t {t : List (List UInt8)} (h : ∀ j, j < t.length → okAt t j = true) : tabB t = true := List.all_eq_true.2 fun j hj => h j (List.mem_range.1 hj)
theorem tabB_f {t : List (List UInt8)} {j : Nat} (hj : j < t.length) (h : okAt t j = false) : tabB t = false := List.all_eq_false.2 ⟨j, List.mem_range.2 hj, by rw [h]; decide⟩
theorem getD_lt {α : Type} {l : List α} {i : Nat} {d : α} (h : i < l.length) : l.getD i d = l[i] := by simp [List.getD, h]
theorem wrapP {i : Nat} (h : 0 < i) (hN : i ≤ 1000000000) : IntKind.i64.wrap ((i : Int) - 1) = ((i - 1 : Nat) : Int) := by
  rw [wrap64' (by omega) (by omega)]; omega

theorem ev81 (nl : Bool) (t : List (List UInt8)) (hn : t.length ≤ 1000000) (hl : ∀ s ∈ t, s.length ≤ 1000000) : Ev E 81 [slOf nl strC t] (.bool (tabB t)) := by
  refine Ev_wpK (af := F81) rfl ?_
  simp [F81]
  refine wp_loopUp [(2, 4), (5, 32)] t.length (fun i s => s.tm 3 = .int .i64 i ∧ ∀ j, j < t.length → j < i → okAt t j = true) rfl rfl ⟨by simp, fun j _ h => by omega⟩ ?_
  rintro i s hi ⟨h3, hb⟩ f
  have f0 : s.tm 0 = slOf nl strC t := by rw [f.t 0 (by simp)]; simp
  have fd : s.df = [] := by rw [f.d]; simp
  clear f
  by_cases hlt : i < t.length
  · have hw := wrapU hlt (by omega)
    have hok : okAt t i = (nameB t[i] && (i == 0 || lessB (t.getD (i - 1) []) t[i])) := by unfold okAt; rw [getD_lt hlt]
    have hsi := hl _ (List.getElem_mem hlt)
    obtain ⟨c, hc⟩ : ∃ c, t[i] = c := ⟨_, rfl⟩
    have ht0 := str_at t hlt
    rw [hc] at hok ht0 hsi
    have step : okAt t i = true → ∀ j, j < t.length → j < i + 1 → okAt t j = true := fun h j hj hji => by
      rcases Nat.lt_succ_iff_lt_or_eq.1 hji with h' | rfl
      · exact hb j hj h'
      · exact h
    simp [h3, f0, hlt, idx_slOf strC_len, ht0]
    refine kD_ev (ev126 c hsi) (by simp) rfl rfl ?_
    cases hnm : nameB c
    · rw [hnm] at hok
      simp
      exact endV_1 (by simp [fd]) (by simp [tabB_f hlt hok]) rfl
    · rw [hnm] at hok
      by_cases h0 : i = 0
      · subst h0
        simp [h3]
        exact ⟨hlt, by decide, fun j hj h => by subst h; exact step (by simp [hok]) 0 hj (by omega)⟩
      · have h0' : 0 < i := by omega
        have hwp := wrapP h0' (by omega)
        have hlp : i - 1 < t.length := by omega
        have hsp := hl _ (List.getElem_mem hlp)
        have ht1 := str_at t hlp
        rw [getD_lt hlp] at hok
        obtain ⟨e, he⟩ : ∃ e, t[i - 1] = e := ⟨_, rfl⟩
        rw [he] at hok ht1 hsp
        simp [h3, f0, h0', hwp, hlp, idx_slOf strC_len, ht1, hlt, ht0]
        refine kD_ev (ev127 e c hsp hsi) (by simp) rfl rfl ?_
        cases hls : lessB e c
        · simp
          exact endV_1 (by simp [fd]) (by simp [tabB_f hlt (by simp [hok, hls, h0])]) rfl
        · simp [h3, hw]
          exact ⟨hlt, step (by simp [hok, hls])⟩
  · have : i = t.length := by omega
    subst this
    simp [h3, f0]
    exact endV_1 (by simp [fd]) (by simp [tabB_t (fun j hj => hb j hj hj)]) rfl
end Go.Pv.T

/- Is a text UTF-8? The library's way. -/
namespace Go.Pv.T
open Go Go.Pv

theorem u64_or {a b : Nat} (ha : a < 2 ^ 64) (hb : b < 2 ^ 64) : binV .or (.int .u64 (a : Int)) (.int .u64 (b : Int)) = some (.int .u64 ((a ||| b : Nat) : Int)) := by
  have h : a ||| b < 2 ^ 64 := Nat.or_lt_two_pow ha hb
  simp only [binV, intBin, if_true]
  have e : (BitVec.ofInt IntKind.u64.bits (a : Int) ||| BitVec.ofInt IntKind.u64.bits (b : Int)).toNat = a ||| b := by
    rw [BitVec.toNat_or, BitVec.ofInt_natCast, BitVec.ofInt_natCast, BitVec.toNat_ofNat, BitVec.toNat_ofNat]
    rw [show IntKind.u64.bits = 64 from rfl, Nat.mod_eq_of_lt ha, Nat.mod_eq_of_lt hb]
  rw [e, IntKind.wrap_u64]
  congr 2
  omega
theorem u64_and {a b : Nat} {m : Int} (hm : m = (b : Int)) (ha : a < 2 ^ 64) (hb : b < 2 ^ 64) : binV .and (.int .u64 (a : Int)) (.int .u64 m) = some (.int .u64 ((a &&& b : Nat) : Int)) := by
  subst hm
  have h : a &&& b < 2 ^ 64 := Nat.and_lt_two_pow _ hb
  simp only [binV, intBin, if_true]
  have e : (BitVec.ofInt IntKind.u64.bits (a : Int) &&& BitVec.ofInt IntKind.u64.bits (b : Int)).toNat = a &&& b := by
    rw [BitVec.toNat_and, BitVec.ofInt_natCast, BitVec.ofInt_natCast, BitVec.toNat_ofNat, BitVec.toNat_ofNat]
    rw [show IntKind.u64.bits = 64 from rfl, Nat.mod_eq_of_lt ha, Nat.mod_eq_of_lt hb]
  rw [e, IntKind.wrap_u64]
  congr 2
  omega
theorem u64_shl {a k : Nat} {m : Int} (hm : m = (k : Int)) (hk : k ≤ 64) (h : a * 2 ^ k < 2 ^ 64) : binV .shl (.int .u64 (a : Int)) (.int .u64 m) = some (.int .u64 ((a * 2 ^ k : Nat) : Int)) := by
  subst hm
  simp only [binV, shiftBin]
  rw [if_neg (by omega)]
  simp only [Int.toNat_natCast, show IntKind.u64.bits = 64 from rfl, Nat.min_eq_left hk]
  rw [IntKind.wrap_u64]
  congr 2
  have : ((a : Int) * 2 ^ k) = ((a * 2 ^ k : Nat) : Int) := by simp
  rw [this]
  omega
theorem slStr_from {l : List UInt8} {kk : IntKind} {k : Nat} {x : Int} (hx : x = (k : Int)) (h : k ≤ l.length) : slStrV (some (.int kk x)) none (.str l) = some (.str (l.drop k)) := by
  subst hx
  simp [slStrV, bounds, h]
/-- The first eight bytes as a number. -/
def wd (l : List UInt8) : Nat := Lib.leNat (l.take 8)
theorem or_add (a b k : Nat) (h : a < 2 ^ k) : a ||| b * 2 ^ k = a + b * 2 ^ k := by
  have := Nat.shiftLeft_add_eq_or_of_lt h b
  rw [Nat.shiftLeft_eq] at this
  rw [Nat.or_comm, ← this, Nat.add_comm]
theorem wd_8 (a b c d e f g h : UInt8) (t : List UInt8) : wd (a :: b :: c :: d :: e :: f :: g :: h :: t) =
    a.toNat + b.toNat * 2 ^ 8 + c.toNat * 2 ^ 16 + d.toNat * 2 ^ 24 + e.toNat * 2 ^ 32 + f.toNat * 2 ^ 40 + g.toNat * 2 ^ 48 + h.toNat * 2 ^ 56 := by
  simp only [wd, List.take, Lib.leNat]
  omega
theorem shl_ex (x : UInt8) (k : Nat) {m : Int} (hm : m = (k : Int)) (hk : k ≤ 56) : ∃ B : Nat, B = x.toNat * 2 ^ k ∧ binV .shl (.int .u64 (x.toNat : Int)) (.int .u64 m) = some (.int .u64 (B : Int)) := by
  have hx := x.toNat_lt
  have h1 : x.toNat * 2 ^ k < 2 ^ 64 := by
    calc x.toNat * 2 ^ k < 2 ^ 8 * 2 ^ k := Nat.mul_lt_mul_of_pos_right hx (Nat.two_pow_pos k)
      _ = 2 ^ (8 + k) := (Nat.pow_add ..).symm
      _ ≤ 2 ^ 64 := Nat.pow_le_pow_right (by decide) (by omega)
  exact ⟨_, rfl, u64_shl hm (by omega) h1⟩
theorem or_ex {O B : Nat} (k c : Nat) (h : O < 2 ^ k) (hB : B = c * 2 ^ k) (hc : c < 2 ^ 8) (hk : k ≤ 56) : ∃ O' : Nat, O' = O + B ∧ O' < 2 ^ (k + 8) ∧ binV .or (.int .u64 (O : Int)) (.int .u64 (B : Int)) = some (.int .u64 (O' : Int)) := by
  have h2 : B + 2 ^ k ≤ 2 ^ (k + 8) := by
    rw [hB, Nat.pow_add, Nat.mul_comm (2 ^ k), ← Nat.succ_mul]
    exact Nat.mul_le_mul_right _ hc
  have h3 : 2 ^ (k + 8) ≤ 2 ^ 64 := Nat.pow_le_pow_right (by decide) (by omega)
  refine ⟨O + B, rfl, by omega, ?_⟩
  rw [u64_or (by omega) (by omega), hB, or_add _ _ _ h]
theorem ev252 (l : List UInt8) (hl : 8 ≤ l.length) : Ev E 252 [.str l] (.int .u64 (wd l)) := by
  match l, hl with
  | a :: b :: c :: d :: e :: f :: g :: h :: t, _ =>
    rw [wd_8]
    have l0 := a.toNat_lt
    have l1 := b.toNat_lt
    have l2 := c.toNat_lt
    have l3 := d.toNat_lt
    have l4 := e.toNat_lt
    have l5 := f.toNat_lt
    have l6 := g.toNat_lt
    have l7 := h.toNat_lt
    refine Ev_wpK (af := F252) rfl ?_
    have cv : ∀ x : UInt8, convV .u64 (.int .u8 (x.toNat : Int)) = some (.int .u64 (x.toNat : Int)) := fun x => by
      have := x.toNat_lt
      simp only [convV, IntKind.wrap_u64]
      congr 2
      omega
    have iv : ∀ (s : List UInt8) (i : Nat) (x : UInt8) (y : Int), y = (i : Int) → s[i]? = some x → idxStrV (.str s) (.int .i64 y) = some (.int .u8 (x.toNat : Int)) := by
      intro s i x y hy hx
      subst hy
      simp [idxStrV, hx]
    have i0 := iv (a :: b :: c :: d :: e :: f :: g :: h :: t) 0 a 0 rfl rfl
    have i1 := iv (a :: b :: c :: d :: e :: f :: g :: h :: t) 1 b 1 rfl rfl
    have i2 := iv (a :: b :: c :: d :: e :: f :: g :: h :: t) 2 c 2 rfl rfl
    have i3 := iv (a :: b :: c :: d :: e :: f :: g :: h :: t) 3 d 3 rfl rfl
    have i4 := iv (a :: b :: c :: d :: e :: f :: g :: h :: t) 4 e 4 rfl rfl
    have i5 := iv (a :: b :: c :: d :: e :: f :: g :: h :: t) 5 f 5 rfl rfl
    have i6 := iv (a :: b :: c :: d :: e :: f :: g :: h :: t) 6 g 6 rfl rfl
    have i7 := iv (a :: b :: c :: d :: e :: f :: g :: h :: t) 7 h 7 rfl rfl
    obtain ⟨B1, hB1, s1⟩ := shl_ex b 8 (m := 8) rfl (by decide)
    obtain ⟨B2, hB2, s2⟩ := shl_ex c 16 (m := 16) rfl (by decide)
    obtain ⟨B3, hB3, s3⟩ := shl_ex d 24 (m := 24) rfl (by decide)
    obtain ⟨B4, hB4, s4⟩ := shl_ex e 32 (m := 32) rfl (by decide)
    obtain ⟨B5, hB5, s5⟩ := shl_ex f 40 (m := 40) rfl (by decide)
    obtain ⟨B6, hB6, s6⟩ := shl_ex g 48 (m := 48) rfl (by decide)
    obtain ⟨B7, hB7, s7⟩ := shl_ex h 56 (m := 56) rfl (by decide)
    obtain ⟨O1, hO1, q1, o1⟩ := or_ex (O := a.toNat) 8 _ l0 hB1 l1 (by decide)
    obtain ⟨O2, hO2, q2, o2⟩ := or_ex (O := O1) 16 _ q1 hB2 l2 (by decide)
    obtain ⟨O3, hO3, q3, o3⟩ := or_ex (O := O2) 24 _ q2 hB3 l3 (by decide)
    obtain ⟨O4, hO4, q4, o4⟩ := or_ex (O := O3) 32 _ q3 hB4 l4 (by decide)
    obtain ⟨O5, hO5, q5, o5⟩ := or_ex (O := O4) 40 _ q4 hB5 l5 (by decide)
    obtain ⟨O6, hO6, q6, o6⟩ := or_ex (O := O5) 48 _ q5 hB6 l6 (by decide)
    obtain ⟨O7, hO7, q7, o7⟩ := or_ex (O := O6) 56 _ q6 hB7 l7 (by decide)
    have tot : O7 = a.toNat + b.toNat * 2 ^ 8 + c.toNat * 2 ^ 16 + d.toNat * 2 ^ 24 + e.toNat * 2 ^ 32 + f.toNat * 2 ^ 40 + g.toNat * 2 ^ 48 + h.toNat * 2 ^ 56 := by omega
    rw [← tot]
    clear tot hB1 hB2 hB3 hB4 hB5 hB6 hB7 hO7 q7 hO6 q6 hO5 q5 hO4 q4 hO3 q3 hO2 q2 hO1 q1
    simp [F252, cv, i0, i1, i2, i3, i4, i5, i6, i7, s1, o1, s2, o2, s3, o3, s4, o4, s5, o5, s6, o6, s7, o7]
    exact endV_1 rfl (by simp) rfl
end Go.Pv.T

/- utf8.ValidString. -/
namespace Go.Pv.T
open Go Go.Pv

theorem eval_g1 (tm : Nat → V) : eval E tm (.g 1) = .eptr utf8first 0 := rfl
theorem eval_g2 (tm : Nat → V) : eval E tm (.g 2) = .eptr accR 0 := rfl
theorem first_at (b : Nat) (h : b < 256) : utf8first[b]? = some (.int .u8 (Lib.firstT b : Nat)) := by
  unfold utf8first
  rw [List.getElem?_map, List.getElem?_range h]
  rfl
theorem acc_at (y : Nat) (h : y < 16) : (accR.drop (y * 2)).take 2 = [.int .u8 (Lib.accLo y : Nat), .int .u8 (Lib.accHi y : Nat)] := by
  have : y = 0 ∨ y = 1 ∨ y = 2 ∨ y = 3 ∨ y = 4 ∨ y = 5 ∨ y = 6 ∨ y = 7 ∨ y = 8 ∨ y = 9 ∨ y = 10 ∨ y = 11 ∨ y = 12 ∨ y = 13 ∨ y = 14 ∨ y = 15 := by omega
  rcases this with h | h | h | h | h | h | h | h | h | h | h | h | h | h | h | h <;> subst h <;> rfl
theorem and7 : ∀ x : Fin 256, IntKind.u8.wrap ((BitVec.ofInt IntKind.u8.bits ((x.val : Nat) : Int) &&& BitVec.ofInt IntKind.u8.bits 7).toNat : Int) = ((x.val % 8 : Nat) : Int) := by decide +kernel
theorem u8_and7 (x : Nat) (h : x < 256) : binV .and (.int .u8 (x : Int)) (.int .u8 7) = some (.int .u8 ((x % 8 : Nat) : Int)) := by
  simp only [binV, intBin, if_true]
  have := and7 ⟨x, h⟩
  simp only at this
  rw [this]
theorem u8_shr4 (x : Nat) (_h : x < 256) : binV .shr (.int .u8 (x : Int)) (.int .u64 4) = some (.int .u8 ((x / 16 : Nat) : Int)) := by
  simp only [binV, shiftBin]
  rw [if_neg (by decide)]
  have e : min (Int.toNat 4) IntKind.u8.bits = 4 := by decide
  rw [e]
  congr 2
  rw [Int.fdiv_eq_ediv_of_nonneg _ (by decide)]
  omega
theorem first_lt (b : Nat) : Lib.firstT b < 256 := by unfold Lib.firstT; repeat' split
                                                      all_goals omega
abbrev M8 : Nat := 9259542123273814144
theorem wd_lt (l : List UInt8) : wd l < 2 ^ 64 := by
  have h := Lib.leNat_lt (l.take 8)
  have h2 : (256 : Nat) ^ (l.take 8).length ≤ 256 ^ 8 := Nat.pow_le_pow_right (by decide) (by rw [List.length_take]; omega)
  have h3 : (256 : Nat) ^ 8 = 2 ^ 64 := by decide
  unfold wd
  omega
theorem wd_ascii {l : List UInt8} (h8 : 8 ≤ l.length) (h : wd l &&& M8 = 0) : Lib.validD l = Lib.validD (l.drop 8) := by
  have e : (l.take 8).length = 8 := by rw [List.length_take]; omega
  have := (Lib.leNat_mask (l.take 8)).1 (by rw [e, Lib.maskN8]; exact h)
  exact Lib.validD_ascii 8 l this
theorem and_ex (w : Nat) (hw : w < 2 ^ 64) : ∃ q : Nat, q = w &&& M8 ∧ binV .and (.int .u64 (w : Int)) (.int .u64 9259542123273814144) = some (.int .u64 (q : Int)) :=
  ⟨_, rfl, u64_and (b := M8) rfl hw (by decide)⟩
theorem orw_ex {a b : Nat} (ha : a < 2 ^ 64) (hb : b < 2 ^ 64) : ∃ q : Nat, q = a ||| b ∧ q < 2 ^ 64 ∧ binV .or (.int .u64 (a : Int)) (.int .u64 (b : Int)) = some (.int .u64 (q : Int)) :=
  ⟨_, rfl, Nat.or_lt_two_pow ha hb, u64_or ha hb⟩
theorem beq0 (q : Nat) : ((q : Int) == 0) = decide (q = 0) := by
  rw [Bool.eq_iff_iff]; simp

set_option maxRecDepth 100000 in
set_option maxHeartbeats 8000000 in
theorem ev231 (s : List UInt8) (_hs : s.length ≤ 1000000) : Ev E 231 [.str s] (.bool (Lib.validD s)) := by
  refine Ev_wpK (af := F231) rfl ?_
  simp [F231]
  refine wp_loopF (n := s.length) [(0, 200)] (fun k st => ∃ l, k = l.length ∧ st.tm 0 = .str l ∧ Lib.validD s = Lib.validD l ∧ l.length ≤ s.length) rfl rfl ⟨s, by simp⟩ ?_
  rintro k st ⟨l, rfl, h0, hv, hl⟩ f
  have fd : st.df = [] := by rw [f.d]; simp
  have fb : st.fb = 0 := by rw [f.b]; simp
  have fr : st.ro = 0 := by rw [f.r]; simp
  clear f
  cases hl0 : l with
  | nil =>
    subst hl0
    simp [h0]
    exact endV_1 (by simp [fd]) (by simp [hv]; rfl) rfl
  | cons b t =>
  rw [← hl0]
  have hlen : l.length = t.length + 1 := by rw [hl0]; rfl
  have hb256 := b.toNat_lt
  have hget : l.getD 0 0 = b := by rw [hl0]; rfl
  have i0 : idxStrV (.str l) (.int .i64 0) = some (.int .u8 (b.toNat : Int)) := by
    have := idxStr_at (s := l) (i := 0) (x := 0) .i64 (by omega) rfl
    rw [hget] at this
    exact this
  have hpos : 0 < l.length := by omega
  by_cases hb : (b.toNat : Int) < 128
  · have hvt : Lib.validD s = Lib.validD t := by rw [hv, hl0, Lib.validD_cons b t (by omega)]
    have d1 : slStrV (some (.int .i64 1)) none (.str l) = some (.str t) := by
      rw [slStr_from (k := 1) (x := 1) rfl (by omega : 1 ≤ l.length), hl0]; rfl
    by_cases h8 : 8 < (t.length : Int)
    · obtain ⟨w, hw⟩ : ∃ w, wd t = w := ⟨_, rfl⟩
      have hwl : w < 2 ^ 64 := hw ▸ wd_lt t
      obtain ⟨q, hq, aq⟩ := and_ex w hwl
      simp [h0, hpos, i0, hb, d1, h8]
      refine kS_ev (ev252 t (by omega)) (by simp) rfl rfl ?_
      rw [hw]
      by_cases hq0 : q = 0
      · have hv8 : Lib.validD s = Lib.validD (t.drop 8) := by rw [hvt, wd_ascii (by omega) (by rw [hw, ← hq, hq0])]
        have d8 : slStrV (some (.int .i64 8)) none (.str t) = some (.str (t.drop 8)) := slStr_from (k := 8) rfl (by omega)
        have hl8 : (t.drop 8).length = t.length - 8 := List.length_drop
        obtain ⟨u, hu⟩ : ∃ u, t.drop 8 = u := ⟨_, rfl⟩
        rw [hu] at hv8 d8 hl8
        simp [aq, hq0, d8]
        by_cases h16 : 16 < (u.length : Int)
        · have d8u : slStrV (some (.int .i64 8)) none (.str u) = some (.str (u.drop 8)) := slStr_from (k := 8) rfl (by omega)
          have d16 : slStrV (some (.int .i64 16)) none (.str u) = some (.str (u.drop 16)) := slStr_from (k := 16) rfl (by omega)
          have hlu : (u.drop 8).length = u.length - 8 := List.length_drop
          obtain ⟨w1, hw1⟩ : ∃ w, wd u = w := ⟨_, rfl⟩
          obtain ⟨w2, hw2⟩ : ∃ w, wd (u.drop 8) = w := ⟨_, rfl⟩
          obtain ⟨o, ho, hol, oo⟩ := orw_ex (hw1 ▸ wd_lt u) (hw2 ▸ wd_lt (u.drop 8))
          obtain ⟨q2, hq2, aq2⟩ := and_ex o hol
          have e1 := ev252 u (by omega)
          have e2 := ev252 (u.drop 8) (by omega)
          rw [hw1] at e1
          rw [hw2] at e2
          obtain ⟨u8, hu8⟩ : ∃ x, u.drop 8 = x := ⟨_, rfl⟩
          rw [hu8] at d8u e2 hlu
          simp [h16]
          refine kD_ev e1 (by simp) rfl rfl ?_
          simp [d8u]
          refine kD_ev e2 (by simp) rfl rfl ?_
          by_cases hq20 : q2 = 0
          · have hb2 := (Lib.or_mask w1 w2 M8).1 (by rw [← ho, ← hq2, hq20])
            have hv16 : Lib.validD s = Lib.validD (u.drop 16) := by
              rw [hv8, wd_ascii (by omega) (by rw [hw1]; exact hb2.1), hu8, wd_ascii (by omega) (by rw [← hu8, hw2]; exact hb2.2), ← hu8, List.drop_drop]
            have hl16 : (u.drop 16).length = u.length - 16 := List.length_drop
            obtain ⟨v, hv'⟩ : ∃ x, u.drop 16 = x := ⟨_, rfl⟩
            rw [hv'] at d16 hv16 hl16
            simp [oo, aq2, hq20, d16]
            refine wp_loopF (n := v.length) [(0, 0), (42, 64)] (fun k st => ∃ x, k = x.length ∧ st.tm 0 = .str x ∧ Lib.validD s = Lib.validD x ∧ x.length ≤ v.length) rfl rfl ⟨v, by simp [hv16]⟩ ?_
            rintro k st' ⟨x, rfl, g0, gv, gl⟩ _
            by_cases h32 : 32 < (x.length : Int)
            · have d8x : slStrV (some (.int .i64 8)) none (.str x) = some (.str (x.drop 8)) := slStr_from (k := 8) rfl (by omega)
              have d16x : slStrV (some (.int .i64 16)) none (.str x) = some (.str (x.drop 16)) := slStr_from (k := 16) rfl (by omega)
              have d24x : slStrV (some (.int .i64 24)) none (.str x) = some (.str (x.drop 24)) := slStr_from (k := 24) rfl (by omega)
              have d32x : slStrV (some (.int .i64 32)) none (.str x) = some (.str (x.drop 32)) := slStr_from (k := 32) rfl (by omega)
              have hl32 : (x.drop 32).length = x.length - 32 := List.length_drop
              obtain ⟨y0, hy0⟩ : ∃ w, wd x = w := ⟨_, rfl⟩
              obtain ⟨y1, hy1⟩ : ∃ w, wd (x.drop 8) = w := ⟨_, rfl⟩
              obtain ⟨y2, hy2⟩ : ∃ w, wd (x.drop 16) = w := ⟨_, rfl⟩
              obtain ⟨y3, hy3⟩ : ∃ w, wd (x.drop 24) = w := ⟨_, rfl⟩
              obtain ⟨p1, hp1, hp1l, op1⟩ := orw_ex (hy0 ▸ wd_lt x) (hy1 ▸ wd_lt (x.drop 8))
              obtain ⟨p2, hp2, hp2l, op2⟩ := orw_ex (hy2 ▸ wd_lt (x.drop 16)) (hy3 ▸ wd_lt (x.drop 24))
              obtain ⟨p3, hp3, hp3l, op3⟩ := orw_ex hp1l hp2l
              obtain ⟨q3, hq3, aq3⟩ := and_ex p3 hp3l
              have e1 := ev252 x (by omega)
              have e2 := ev252 (x.drop 8) (by rw [List.length_drop]; omega)
              have e3 := ev252 (x.drop 16) (by rw [List.length_drop]; omega)
              have e4 := ev252 (x.drop 24) (by rw [List.length_drop]; omega)
              rw [hy0] at e1
              rw [hy1] at e2
              rw [hy2] at e3
              rw [hy3] at e4
              have hall : q3 = 0 → Lib.validD s = Lib.validD (x.drop 32) := by
                intro hz
                rw [hq3, hp3, Lib.or_mask, hp1, hp2, Lib.or_mask, Lib.or_mask] at hz
                obtain ⟨⟨z0, z1⟩, z2, z3⟩ := hz
                rw [gv, wd_ascii (by omega) (by rw [hy0]; exact z0), wd_ascii (by rw [List.length_drop]; omega) (by rw [hy1]; exact z1), List.drop_drop,
                  wd_ascii (by rw [List.length_drop]; omega) (by rw [hy2]; exact z2), List.drop_drop, wd_ascii (by rw [List.length_drop]; omega) (by rw [hy3]; exact z3), List.drop_drop]
              clear hy0 hy1 hy2 hy3 hp1 hp2 hp3 hq3
              obtain ⟨x8, hx8⟩ : ∃ z, x.drop 8 = z := ⟨_, rfl⟩
              obtain ⟨x16, hx16⟩ : ∃ z, x.drop 16 = z := ⟨_, rfl⟩
              obtain ⟨x24, hx24⟩ : ∃ z, x.drop 24 = z := ⟨_, rfl⟩
              obtain ⟨x32, hx32⟩ : ∃ z, x.drop 32 = z := ⟨_, rfl⟩
              rw [hx8] at d8x e2
              rw [hx16] at d16x e3
              rw [hx24] at d24x e4
              rw [hx32] at d32x hl32 hall
              simp [g0, h32]
              refine kD_ev e1 (by simp) rfl rfl ?_
              simp [d8x, g0]
              refine kD_ev e2 (by simp) rfl rfl ?_
              simp [d16x, op1, g0]
              refine kD_ev e3 (by simp) rfl rfl ?_
              simp [d24x, g0]
              refine kD_ev e4 (by simp) rfl rfl ?_
              by_cases hq30 : q3 = 0
              · simp [op2, op3, aq3, hq30, d32x, g0]
                exact ⟨x32.length, by omega, x32, rfl, rfl, hall hq30, by omega⟩
              · simp [op2, op3, aq3, beq0, hq30, g0]
                exact ⟨x.length, by omega, x, rfl, rfl, gv, by omega⟩
            · simp [g0, h32]
              exact ⟨x.length, by omega, x, rfl, rfl, gv, by omega⟩
          · simp [oo, aq2, beq0, hq20]
            exact ⟨u.length, by omega, u, rfl, rfl, hv8, by omega⟩
        · simp [h16]
          exact ⟨u.length, by omega, u, rfl, rfl, hv8, by omega⟩
      · simp [aq, beq0, hq0]
        exact ⟨t.length, by omega, t, rfl, rfl, hvt, by omega⟩
    · simp [h0, hpos, i0, hb, d1, h8]
      exact ⟨t.length, by omega, t, rfl, rfl, hvt, by omega⟩
  · have hlead := Lib.validD_lead l (by rw [hl0]; simp) (by rw [hget]; omega)
    rw [hget] at hlead
    rw [← hv] at hlead
    obtain ⟨x, hx⟩ : ∃ x, Lib.firstT b.toNat = x := ⟨_, rfl⟩
    have hx256 : x < 256 := hx ▸ first_lt _
    have ld1 := first_at b.toNat b.toNat_lt
    have ia1 : idxArrV 256 1 (.eptr utf8first 0) (.int .u8 (b.toNat : Int)) = some (.eptr utf8first b.toNat) := by
      simp only [idxArrV]
      rw [if_pos (by omega)]
      simp
    have a7 := u8_and7 x hx256
    have s4 := u8_shr4 x hx256
    obtain ⟨y, hy⟩ : ∃ y, x / 16 = y := ⟨_, rfl⟩
    obtain ⟨sz, hsz⟩ : ∃ y, x % 8 = y := ⟨_, rfl⟩
    have hy16 : y < 16 := by omega
    have ia2 : idxArrV 16 2 (.eptr accR 0) (.int .u8 (y : Int)) = some (.eptr accR (y * 2)) := by
      simp only [idxArrV]
      rw [if_pos (by omega)]
      simp
    have ld2 : ∀ ob, loadV ob (some 2) (.eptr accR (y * 2)) = some (.agg [.int .u8 (Lib.accLo y : Nat), .int .u8 (Lib.accHi y : Nat)]) := fun ob => by
      rw [loadV_e, pick1_some, acc_at y hy16, if_pos (by show y * 2 + 2 ≤ 32; omega)]
    have cv : convV .i64 (.int .u8 (sz : Int)) = some (.int .i64 (sz : Int)) := by simp only [convV]; rw [wrap64' (by omega) (by omega)]
    rw [hx] at hlead ld1
    rw [hsz] at a7 hlead
    rw [hy] at s4 hlead
    have i1 : 1 < l.length → _ := fun h => idxStr_at (s := l) (i := 1) (x := 1) .i64 h rfl
    have i2 : 2 < l.length → _ := fun h => idxStr_at (s := l) (i := 2) (x := 2) .i64 h rfl
    have i3 : 3 < l.length → _ := fun h => idxStr_at (s := l) (i := 3) (x := 3) .i64 h rfl
    generalize (l.getD 1 0).toNat = b1 at *
    generalize (l.getD 2 0).toNat = b2 at *
    generalize (l.getD 3 0).toNat = b3 at *
    generalize Lib.accLo y = lo at *
    generalize Lib.accHi y = hi at *
    simp [h0, hpos, i0, hb, eval_g1, ia1, ld1, a7, cv, s4, eval_g2, ia2, ld2, objCells, fb, fr, splice]
    by_cases hs2 : sz = 2
    · by_cases c0 : (l.length : Int) < 2
      · have hc : Lib.checkN l.length b1 b2 b3 sz lo hi = none := by unfold Lib.checkN; simp [hs2]; omega
        rw [hc] at hlead
        simp [hs2, h0, c0]
        exact endV_1 (by simp [fd]) (by simp [hlead]) rfl
      have i1 := i1 (by omega)
      by_cases c1 : (b1 : Int) < lo
      · have hc : Lib.checkN l.length b1 b2 b3 sz lo hi = none := by unfold Lib.checkN; simp [hs2]; omega
        rw [hc] at hlead
        simp [hs2, h0, objCells, c0, i1, c1]
        exact endV_1 (by simp [fd]) (by simp [hlead]) rfl
      by_cases c2 : (hi : Int) < b1
      · have hc : Lib.checkN l.length b1 b2 b3 sz lo hi = none := by unfold Lib.checkN; simp [hs2]; omega
        rw [hc] at hlead
        simp [hs2, h0, objCells, c0, i1, c1, c2]
        exact endV_1 (by simp [fd]) (by simp [hlead]) rfl
      have hc : Lib.checkN l.length b1 b2 b3 sz lo hi = some 2 := by unfold Lib.checkN; simp [hs2]; omega
      rw [hc] at hlead
      have dd : slStrV (some (.int .i64 2)) none (.str l) = some (.str (l.drop 2)) := slStr_from (k := 2) rfl (by omega)
      simp [hs2, h0, objCells, c0, i1, c1, c2, dd]
      exact ⟨(l.drop 2).length, by rw [List.length_drop]; omega, l.drop 2, by simp, rfl, hlead, by rw [List.length_drop]; omega⟩
    by_cases hs3 : sz = 3
    · by_cases c0 : (l.length : Int) < 3
      · have hc : Lib.checkN l.length b1 b2 b3 sz lo hi = none := by unfold Lib.checkN; simp [hs3]; omega
        rw [hc] at hlead
        simp [hs3, h0, c0]
        exact endV_1 (by simp [fd]) (by simp [hlead]) rfl
      have i1 := i1 (by omega)
      have i2 := i2 (by omega)
      by_cases c1 : (b1 : Int) < lo
      · have hc : Lib.checkN l.length b1 b2 b3 sz lo hi = none := by unfold Lib.checkN; simp [hs3]; omega
        rw [hc] at hlead
        simp [hs3, h0, objCells, c0, i1, c1]
        exact endV_1 (by simp [fd]) (by simp [hlead]) rfl
      by_cases c2 : (hi : Int) < b1
      · have hc : Lib.checkN l.length b1 b2 b3 sz lo hi = none := by unfold Lib.checkN; simp [hs3]; omega
        rw [hc] at hlead
        simp [hs3, h0, objCells, c0, i1, c1, c2]
        exact endV_1 (by simp [fd]) (by simp [hlead]) rfl
      by_cases e2 : (b2 : Int) < 128
      · have hc : Lib.checkN l.length b1 b2 b3 sz lo hi = none := by unfold Lib.checkN; simp [hs3]; omega
        rw [hc] at hlead
        simp [hs3, h0, objCells, c0, i1, i2, c1, c2, e2]
        exact endV_1 (by simp [fd]) (by simp [hlead]) rfl
      by_cases f2 : 191 < (b2 : Int)
      · have hc : Lib.checkN l.length b1 b2 b3 sz lo hi = none := by unfold Lib.checkN; simp [hs3]; omega
        rw [hc] at hlead
        simp [hs3, h0, objCells, c0, i1, i2, c1, c2, e2, f2]
        exact endV_1 (by simp [fd]) (by simp [hlead]) rfl
      have hc : Lib.checkN l.length b1 b2 b3 sz lo hi = some 3 := by unfold Lib.checkN; simp [hs3]; omega
      rw [hc] at hlead
      have dd : slStrV (some (.int .i64 3)) none (.str l) = some (.str (l.drop 3)) := slStr_from (k := 3) rfl (by omega)
      simp [hs3, h0, objCells, c0, i1, i2, c1, c2, e2, f2, dd]
      exact ⟨(l.drop 3).length, by rw [List.length_drop]; omega, l.drop 3, by simp, rfl, hlead, by rw [List.length_drop]; omega⟩
    by_cases hs4 : sz = 4
    · by_cases c0 : (l.length : Int) < 4
      · have hc : Lib.checkN l.length b1 b2 b3 sz lo hi = none := by unfold Lib.checkN; simp [hs4]; omega
        rw [hc] at hlead
        simp [hs4, h0, c0]
        exact endV_1 (by simp [fd]) (by simp [hlead]) rfl
      have i1 := i1 (by omega)
      have i2 := i2 (by omega)
      have i3 := i3 (by omega)
      by_cases c1 : (b1 : Int) < lo
      · have hc : Lib.checkN l.length b1 b2 b3 sz lo hi = none := by unfold Lib.checkN; simp [hs4]; omega
        rw [hc] at hlead
        simp [hs4, h0, objCells, c0, i1, c1]
        exact endV_1 (by simp [fd]) (by simp [hlead]) rfl
      by_cases c2 : (hi : Int) < b1
      · have hc : Lib.checkN l.length b1 b2 b3 sz lo hi = none := by unfold Lib.checkN; simp [hs4]; omega
        rw [hc] at hlead
        simp [hs4, h0, objCells, c0, i1, c1, c2]
        exact endV_1 (by simp [fd]) (by simp [hlead]) rfl
      by_cases e2 : (b2 : Int) < 128
      · have hc : Lib.checkN l.length b1 b2 b3 sz lo hi = none := by unfold Lib.checkN; simp [hs4]; omega
        rw [hc] at hlead
        simp [hs4, h0, objCells, c0, i1, i2, c1, c2, e2]
        exact endV_1 (by simp [fd]) (by simp [hlead]) rfl
      by_cases f2 : 191 < (b2 : Int)
      · have hc : Lib.checkN l.length b1 b2 b3 sz lo hi = none := by unfold Lib.checkN; simp [hs4]; omega
        rw [hc] at hlead
        simp [hs4, h0, objCells, c0, i1, i2, c1, c2, e2, f2]
        exact endV_1 (by simp [fd]) (by simp [hlead]) rfl
      by_cases e3 : (b3 : Int) < 128
      · have hc : Lib.checkN l.length b1 b2 b3 sz lo hi = none := by unfold Lib.checkN; simp [hs4]; omega
        rw [hc] at hlead
        simp [hs4, h0, objCells, c0, i1, i2, i3, c1, c2, e2, f2, e3]
        exact endV_1 (by simp [fd]) (by simp [hlead]) rfl
      by_cases f3 : 191 < (b3 : Int)
      · have hc : Lib.checkN l.length b1 b2 b3 sz lo hi = none := by unfold Lib.checkN; simp [hs4]; omega
        rw [hc] at hlead
        simp [hs4, h0, objCells, c0, i1, i2, i3, c1, c2, e2, f2, e3, f3]
        exact endV_1 (by simp [fd]) (by simp [hlead]) rfl
      have hc : Lib.checkN l.length b1 b2 b3 sz lo hi = some 4 := by unfold Lib.checkN; simp [hs4]; omega
      rw [hc] at hlead
      have dd : slStrV (some (.int .i64 4)) none (.str l) = some (.str (l.drop 4)) := slStr_from (k := 4) rfl (by omega)
      simp [hs4, h0, objCells, c0, i1, i2, i3, c1, c2, e2, f2, e3, f3, dd]
      exact ⟨(l.drop 4).length, by rw [List.length_drop]; omega, l.drop 4, by simp, rfl, hlead, by rw [List.length_drop]; omega⟩
    have hc : Lib.checkN l.length b1 b2 b3 sz lo hi = none := by unfold Lib.checkN; simp [hs2, hs3, hs4]
    rw [hc] at hlead
    have z2 : ((sz : Int) == 2) = false := by simp; omega
    have z3 : ((sz : Int) == 3) = false := by simp; omega
    have z4 : ((sz : Int) == 4) = false := by simp; omega
    simp [z2, z3, z4]
    exact endV_1 (by simp [fd]) (by simp [hlead]) rfl
end Go.Pv.T

/- Names and tables, the program's. -/
namespace Go.Pv.T
open Go Go.Pv

def nmScan : Nat → List Int → Bool
  | n, [] => decide (0 < n) && decide (n ≤ 20)
  | n, c :: l => if !partB c || (decide (n = 0) && digitB c) then false else nmScan (n + 1) l
theorem nmScan_pos : ∀ (l : List Int) (n : Nat), 0 < n → nmScan n l = (l.all partB && decide (n + l.length ≤ 20))
  | [], n, h => by simp [nmScan, h]
  | c :: l, n, h => by
    have h0 : ¬ n = 0 := by omega
    rw [nmScan, nmScan_pos l (n + 1) (by omega)]
    cases hp : partB c
    · simp [hp]
    · simp only [hp, h0, decide_false, Bool.false_and, Bool.or_false, Bool.not_true, Bool.false_eq_true, if_false, List.all_cons, Bool.true_and, List.length_cons]
      congr 2
      exact propext ⟨fun h => by omega, fun h => by omega⟩
theorem nmScan_0 (l : List Int) : nmScan 0 l = nmOk l := by
  cases l with
  | nil => rfl
  | cons c l =>
    rw [nmScan, nmScan_pos l 1 (by omega)]
    unfold nmOk headDig
    have e : decide (1 + l.length ≤ 20) = decide (l.length + 1 ≤ 20) := by rw [Nat.add_comm]
    cases hp : partB c <;> cases hd : digitB c <;> simp [hp, hd, e]
    rw [Bool.and_comm]
theorem kS_next {E : Env} {Yf : YF} {st : St} {ub : Nat} {K : St → Nat → Prop} {d : Option Nat} {nm : Bool} {x : A} {l u pos : Nat} {s : List UInt8} (hx : eval E st.tm x = .iter l u) (ho : st.ob l = some ⟨u, .siter s pos⟩) (hro : st.ro ≤ u)
    (h1 : pos < s.length → kApp K st d ub { v := .tup [.bool true, .int .i64 pos, .int .i32 (rU s pos : Nat)], obs := [(l, ⟨u, .siter s (pos + rW s pos)⟩)] })
    (h2 : ¬ pos < s.length → kSet K st d ub (.tup [.bool false])) : wpStep E Yf ⟨d, .nextStr x, none, nm⟩ st ub K := kS_nextStr hx ho hro h1 h2

theorem ev194 (s : List UInt8) (hs : s.length ≤ 1000000) : Ev E 194 [.str s] (.bool (nameB s)) := by
  refine Ev_wpK (af := F194) rfl ?_
  simp [F194]
  refine kS_ev (ev230 s) (by simp) rfl rfl ?_
  unfold nameB
  cases b1 : resB s
  case true =>
    simp
    exact endV_1 rfl (by simp) rfl
  simp
  refine kS_ev (ev231 s hs) (by simp) rfl rfl ?_
  cases b2 : Lib.validD s
  case false =>
    simp
    exact endV_1 rfl (by simp) rfl
  simp
  rw [← nmScan_0]
  refine wp_loopF (n := s.length) [(2, 3), (5, 5), (15, 30)] (fun k st => ∃ p n u, k = s.length - p ∧ p ≤ s.length ∧ n ≤ p ∧ st.tm 3 = .int .i64 (n : Nat) ∧ st.tm 14 = .iter 28 u ∧ st.ob 28 = some ⟨u, .siter s p⟩ ∧ nmScan 0 (runesI s) = nmScan n (RN s p)) rfl rfl
    ⟨0, 0, 640, by simp [runesI_eq]⟩ ?_
  rintro k st ⟨p, n, u, rfl, hp, hnp, h3, h14, ho, hsc⟩ f
  have fd : st.df = [] := by rw [f.d]; simp
  have fb : st.fb = 0 := by rw [f.b]; simp
  have fr : st.ro = 0 := by rw [f.r]; simp
  clear f
  simp
  refine kS_next (l := 28) (u := u) (pos := p) (s := s) (by simp [h14]) (by simp [ho]) (by simp [fr]) (fun hlt => ?_) (fun hge => ?_)
  · have hw := rW_pos hlt
    rw [RN_step hlt, nmScan] at hsc
    obtain ⟨c, hc⟩ : ∃ c : Int, (rU s p : Int) = c := ⟨_, rfl⟩
    rw [hc] at hsc ⊢
    simp
    refine kS_ev (ev232 c) (by simp) rfl rfl ?_
    cases hpc : partB c
    · rw [hpc] at hsc
      simp
      exact endV_1 (by simp [fd]) (by simp [hsc]) rfl
    · by_cases hn0 : n = 0
      · subst hn0
        simp [h3]
        refine kS_ev (ev233 c) (by simp) rfl rfl ?_
        cases hdc : digitB c
        · simp [h3, h14, hdc, hpc] at hsc ⊢
          exact ⟨s.length - (p + rW s p), by omega, p + rW s p, rfl, by omega, 1, by omega, by decide, rfl, hsc⟩
        · simp [hdc, hpc] at hsc ⊢
          exact endV_1 (by simp [fd]) (by simp [hsc]) rfl
      · simp [h3, h14, hpc, beq0, hn0] at hsc ⊢
        exact ⟨s.length - (p + rW s p), by omega, p + rW s p, rfl, by omega, n + 1, by omega, by rw [wrap64' (by omega) (by omega)]; simp, rfl, hsc⟩
  · have : p = s.length := by omega
    subst this
    rw [RN_end (Nat.le_refl _), nmScan] at hsc
    by_cases hn0 : 0 < n
    · simp [h3, hn0] at hsc ⊢
      exact endV_1 (by simp [fd]) (by simp [hsc]; omega) rfl
    · simp [h3, hn0] at hsc ⊢
      exact endV_1 (by simp [fd]) (by simp [hsc]) rfl
theorem ev153 (nl : Bool) (t : List (List UInt8)) (hn : t.length ≤ 1000000) (hl : ∀ s ∈ t, s.length ≤ 1000000) : Ev E 153 [slOf nl strC t] (.bool (tabB t)) := by
  refine Ev_wpK (af := F153) rfl ?_
  simp [F153]
  refine wp_loopUp [(2, 4), (7, 29)] t.length (fun i s => s.tm 7 = .int .i64 i ∧ ∀ j, j < t.length → j < i → okAt t j = true) rfl rfl ⟨by simp, fun j _ h => by omega⟩ ?_
  rintro i s hi ⟨h7, hb⟩ f
  have f0 : s.tm 0 = slOf nl strC t := by rw [f.t 0 (by simp)]; simp
  have f5 : s.tm 5 = slOf nl strC t := by rw [f.t 5 (by simp)]; simp
  have f6 : s.tm 6 = .int .i64 t.length := by rw [f.t 6 (by simp)]; simp
  have fd : s.df = [] := by rw [f.d]; simp
  clear f
  by_cases hlt : i < t.length
  · have hw := wrapU hlt (by omega)
    have hok : okAt t i = (nameB t[i] && (i == 0 || lessB (t.getD (i - 1) []) t[i])) := by unfold okAt; rw [getD_lt hlt]
    have hsi := hl _ (List.getElem_mem hlt)
    obtain ⟨c, hc⟩ : ∃ c, t[i] = c := ⟨_, rfl⟩
    have ht0 := str_at t hlt
    rw [hc] at hok ht0 hsi
    have step : okAt t i = true → ∀ j, j < t.length → j < i + 1 → okAt t j = true := fun h j hj hji => by
      rcases Nat.lt_succ_iff_lt_or_eq.1 hji with h' | rfl
      · exact hb j hj h'
      · exact h
    simp [h7, f5, f6, hlt, idx_slOf strC_len, ht0]
    refine kS_ev (ev194 c hsi) (by simp) rfl rfl ?_
    cases hnm : nameB c
    · rw [hnm] at hok
      simp
      exact endV_1 (by simp [fd]) (by simp [tabB_f hlt hok]) rfl
    · rw [hnm] at hok
      by_cases h0 : i = 0
      · subst h0
        simp [h7]
        exact ⟨hlt, by decide, fun j hj h => by subst h; exact step (by simp [hok]) 0 hj (by omega)⟩
      · have h0' : 0 < i := by omega
        have hwp := wrapP h0' (by omega)
        have hlp : i - 1 < t.length := by omega
        have hsp := hl _ (List.getElem_mem hlp)
        have ht1 := str_at t hlp
        rw [getD_lt hlp] at hok
        obtain ⟨e, he⟩ : ∃ e, t[i - 1] = e := ⟨_, rfl⟩
        rw [he] at hok ht1 hsp
        have hle := runesI_len e
        have hlc := runesI_len c
        simp [f0, h0', hwp, hlp, idx_slOf strC_len, ht1]
        refine kS_ev (ev199 e c (by omega) (by omega)) (by simp) rfl rfl ?_
        cases hls : lessB e c
        · have hls' := hls
          unfold lessB at hls'
          rw [hls']
          simp
          exact endV_1 (by simp [fd]) (by simp [tabB_f hlt (by simp [hok, hls, h0])]) rfl
        · have hls' := hls
          unfold lessB at hls'
          rw [hls']
          simp [h7, hw]
          exact ⟨hlt, step (by simp [hok, hls])⟩
  · have : i = t.length := by omega
    subst this
    simp [h7, f6]
    exact endV_1 (by simp [fd]) (by simp [tabB_t (fun j hj => hb j hj hj)]) rfl
end Go.Pv.T

/- A range over all ops of a history, of which no round breaks off; the counts of hist.used. -/
namespace Go.Pv.T
open Go Go.Pv

/-- Nothing but what is odd and new is another. -/
def Fr1 (n : Nat) (ob ob' : Nat → Option Obj') : Prop := ∀ key, (∀ m, n ≤ m → key ≠ 2 * m + 1) → ob' key = ob key
theorem range_opsN (h : Hist') (hn : h.ts.length ≤ 1000) (hm : ∀ t ∈ h.ts, t.ops.length ≤ 1000000) {as bd : C} {ps : List Nat} (hps : ps.length = 2) (has : as.one = true) (hbd : bd.one = true) {st : St} {f : A} {lh uh : Nat}
    (hf : eval E st.tm f = .fn (.func 146) [] [.ptr lh uh 0]) (oh : st.ob lh = some ⟨uh, .cells (histC h)⟩) (hl1 : lh ≠ 2 * st.nx + 1) (hl3 : lh ≠ 2 * st.nx + 3) (hro : st.ro = 0)
    (J : Nat → Nat → (Nat → Option Obj') → (Nat → Bool) → Nat → Prop) {Q : Ex → St → Prop}
    (hJf : ∀ i k ob ob' tk ub ub', J i k ob tk ub → ub ≤ ub' → Fr1 st.nx ob ob' → J i k ob' tk ub')
    (hnext : ∀ i (hi : i < h.ts.length) ob tk ub, J i (h.ts[i]).ops.length ob tk ub → J (i + 1) 0 ob tk ub)
    (hbody : ∀ i (hi : i < h.ts.length) k (hk : k < (h.ts[i]).ops.length) ob tk ub, J i k ob tk ub → ob (2 * st.nx + 1) = some ⟨st.nx, .loop .ready none⟩ → ob (2 * st.nx + 3) = some ⟨st.nx + 1, .dfr⟩ → st.nx + 64 ≤ ub →
      wpC E noYF as { tm := setPs st.tm ps [.agg [.int .i64 i, .int .i64 k], .agg (opC (h.ts[i]).ops[k])], ob := ob, tk := tk, ro := 0, nx := ub, fb := st.fb, df := [] } fun e s1 => e = .nrm ∧ s1.ob (2 * st.nx + 1) = some ⟨st.nx, .loop .ready none⟩ ∧
        wpC E noYF bd { s1 with ob := upd s1.ob (2 * st.nx + 1) (some ⟨st.nx, .loop .busy none⟩) } fun e s2 => s2.ob (2 * st.nx + 1) = some ⟨st.nx, .loop .busy none⟩ ∧ s2.ob (2 * st.nx + 3) = some ⟨st.nx + 1, .dfr⟩ ∧ st.nx + 64 ≤ s2.nx ∧ e = .nrm ∧ J i (k + 1) s2.ob s2.tk s2.nx)
    (h0 : J 0 0 st.ob st.tk (st.nx + 64))
    (hQ : ∀ ob tk ub, J h.ts.length 0 ob tk ub → ob (2 * st.nx + 3) = some ⟨st.nx + 1, .dfr⟩ → st.nx + 64 ≤ ub → Q .nrm { st with ob := ob, tk := tk, nx := ub, df := (2 * st.nx + 3, st.nx + 1) :: st.df }) :
    wpC E noYF (.rangeFunc f ps as bd) st Q := by
  refine wpC_rangeFunc (g := 146) (first := []) (captured := [.ptr lh uh 0]) hf ?_
  have n13 : ¬ 2 * st.nx + 3 = 2 * st.nx + 1 := by omega
  have n31 : ¬ 2 * st.nx + 1 = 2 * st.nx + 3 := by omega
  have := run146 (Yf := roundF E noYF as bd st ps (2 * st.nx + 1) st.nx) h hn hm (l := 2 * st.nx + 1) (u := st.nx) (lh := lh) (uh := uh)
    (ob0 := upd (upd st.ob (2 * st.nx + 3) (some ⟨st.nx + 1, .dfr⟩)) (2 * st.nx + 1) (some ⟨st.nx, .loop .ready none⟩)) (tk0 := st.tk) (ro := st.ro) (base := (st.fb + 1023) * 1024) (ub0 := st.nx + 64)
    (by simp only [upd_apply, hl1, hl3, if_false, oh]) (by omega)
    (fun i k ob tk ub => J i k ob tk ub ∧ ob (2 * st.nx + 1) = some ⟨st.nx, .loop .ready none⟩ ∧ ob (2 * st.nx + 3) = some ⟨st.nx + 1, .dfr⟩ ∧ st.nx + 64 ≤ ub)
    (fun r => ∃ s pend, r.2.1 (2 * st.nx + 1) = some ⟨st.nx, .loop s pend⟩ ∧ s ≠ .busy ∧ st.ro ≤ st.nx ∧ Q (pend.getD .nrm) { st with ob := fun k => if Nat.beq (2 * st.nx + 1) k then none else r.2.1 k, tk := r.2.2.1, nx := r.2.2.2, df := (2 * st.nx + 3, st.nx + 1) :: st.df })
    ?_ ?_ ?_ ?_ ?_
  · obtain ⟨r, hr, hP⟩ := this
    exact ⟨r, hr, hP⟩
  · rintro i k ob ob' tk ub ub' ⟨g1, g2, g3, g4⟩ hub hfr
    have f : ∀ key, (∀ m, ub ≤ m → key ≠ 2 * m + 1) → ob' key = ob key := hfr
    exact ⟨hJf _ _ _ _ _ _ _ g1 hub (fun key hk => f key (fun m hm => hk m (by omega))), by rw [f _ (fun m hm => by omega)]; exact g2, by rw [f _ (fun m hm => by omega)]; exact g3, by omega⟩
  · rintro i hi ob tk ub ⟨g1, g⟩
    exact ⟨hnext i hi ob tk ub g1, g⟩
  · rintro i hi k hk ob tk ub ⟨g1, g2, g3, g4⟩ hru
    have hb := hbody i hi k hk ob tk ub g1 g2 g3 g4
    have := EvY_round (E := E) (Yf := noYF) (as := as) (bd := bd) (st := st) (ps := ps) (l := 2 * st.nx + 1) (u := st.nx) (xs := [.agg [.int .i64 i, .int .i64 k], .agg (opC (h.ts[i]).ops[k])]) (ob := ob) (tk := tk) (ro := st.ro) (ub := ub)
      (P := fun r => st.ro ≤ r.2.2.2 ∧ r.1 = .bool true ∧ J i (k + 1) r.2.1 r.2.2.1 r.2.2.2 ∧ r.2.1 (2 * st.nx + 1) = some ⟨st.nx, .loop .ready none⟩ ∧ r.2.1 (2 * st.nx + 3) = some ⟨st.nx + 1, .dfr⟩ ∧ st.nx + 64 ≤ r.2.2.2)
      (by simp [hps]) (by omega) g2 has hbd (by
        rw [hro]
        refine wpC_mono (fun e s1 h1 => ?_) hb
        obtain ⟨e1, e2, e3⟩ := h1
        refine ⟨e1, e2, wpC_mono (fun e s2 h2 => ?_) e3⟩
        obtain ⟨k1, k2, k3, k4, k5⟩ := h2
        subst k4
        refine ⟨k1, by omega, rfl, ?_, ?_, ?_, k3⟩
        · exact hJf _ _ _ _ _ _ _ k5 (Nat.le_refl _) (fun key hk => upd_ne _ _ (hk st.nx (Nat.le_refl _)))
        · exact upd_same _ _ _
        · show upd s2.ob _ _ _ = _
          rw [upd_ne _ _ n13]; exact k2)
    obtain ⟨r, hr, p1, p2, p3, p4, p5, p6⟩ := this
    exact ⟨r, hr, p1, .inl ⟨p2, p3, p4, p5, p6⟩⟩
  · rintro ob tk ub ⟨g1, g2, g3, g4⟩
    refine ⟨.ready, none, g2, by simp, by omega, ?_⟩
    have hob : Fr1 st.nx ob (fun k => if Nat.beq (2 * st.nx + 1) k then none else ob k) := fun key hk => away ob (hk st.nx (Nat.le_refl _))
    exact hQ _ _ _ (hJf _ _ _ _ _ _ _ g1 (Nat.le_refl _) hob) ((away ob n13).trans g3) g4
  · refine ⟨hJf _ _ _ _ _ _ _ h0 (Nat.le_refl _) (fun key hk => ?_), upd_same _ _ _, ?_, by omega⟩
    · have h3 := hk (st.nx + 1) (by omega)
      rw [upd_ne _ _ (hk st.nx (Nat.le_refl _)), upd_ne _ _ (by omega)]
    · rw [upd_ne _ _ n13, upd_same]

@[simp] theorem cells_map (l u : Nat) : (V.map l u).cells = [.map l u] := rfl
@[simp] theorem leaf_map (l u : Nat) : (V.map l u).leaf = true := rfl
@[simp] theorem cells_nilmap : V.nilmap.cells = [.nilmap] := rfl
@[simp] theorem leaf_nilmap : V.nilmap.leaf = true := rfl
/-- Heads. -/
def headsB (h : Hist') : Bool := tabB h.ss && (tabB h.ks && (decide (h.ss.length ≤ 20) && (decide (h.ks.length ≤ 40) && decide (h.ts.length ≤ 40))))
/-- Not great. -/
structure Small (h : Hist') : Prop where
  ss : h.ss.length ≤ 1000
  sl : ∀ s ∈ h.ss, s.length ≤ 1000
  ks : h.ks.length ≤ 1000
  kl : ∀ s ∈ h.ks, s.length ≤ 1000
  ts : h.ts.length ≤ 1000
  os : ∀ t ∈ h.ts, t.ops.length ≤ 1000
theorem ev107 {h : Hist'} (hs : Small h) : Ev E 107 [.agg (histC h)] (.bool (headsB h)) := by
  refine Ev_wpK (af := F107) rfl ?_
  have e1 := ev153 h.sn h.ss (by have := hs.ss; omega) (fun s h => by have := hs.sl s h; omega)
  have e2 := ev153 h.kn h.ks (by have := hs.ks; omega) (fun s h => by have := hs.kl s h; omega)
  simp [F107, histC, objCells]
  refine kS_ev e1 (by simp) rfl rfl ?_
  unfold headsB
  cases b1 : tabB h.ss
  · simp
    exact endV_1 rfl (by simp) rfl
  simp [objCells]
  refine kS_ev e2 (by simp) rfl rfl ?_
  cases b2 : tabB h.ks
  · simp
    exact endV_1 rfl (by simp) rfl
  by_cases b3 : (h.ss.length : Int) ≤ 20
  · by_cases b4 : (h.ks.length : Int) ≤ 40
    · simp [objCells, b3, b4]
      exact endV_1 rfl (by simp [show h.ss.length ≤ 20 by omega, show h.ks.length ≤ 40 by omega]; omega) rfl
    · simp [objCells, b3, b4]
      exact endV_1 rfl (by simp; omega) rfl
  · simp [objCells, b3]
    exact endV_1 rfl (by simp; omega) rfl

/-- Which sessions, which keys are used. -/
def usesS (h : Hist') : List Int := h.ts.map (·.s)
def usesK (h : Hist') : List Int := (opsOf h).map (·.key)
def usedB (h : Hist') : Bool := decide ((dd (usesS h)).length = h.ss.length) && decide ((dd (usesK h)).length = h.ks.length)
/-- All ops ahead of a place. -/
def opsTo (h : Hist') (i k : Nat) : List Op' := (h.ts.take i).flatMap (·.ops) ++ (h.ts.getD i ⟨0, 0, true, []⟩).ops.take k
theorem opsTo_step {h : Hist'} {i k : Nat} (hi : i < h.ts.length) (hk : k < (h.ts[i]).ops.length) : opsTo h i (k + 1) = opsTo h i k ++ [(h.ts[i]).ops[k]] := by
  unfold opsTo
  rw [getD_lt hi, List.take_succ_eq_append_getElem hk, List.append_assoc]
theorem opsTo_next {h : Hist'} {i : Nat} (hi : i < h.ts.length) : opsTo h i (h.ts[i]).ops.length = opsTo h (i + 1) 0 := by
  unfold opsTo
  rw [getD_lt hi, List.take_length, List.take_zero, List.append_nil, List.take_succ_eq_append_getElem hi, List.flatMap_append]
  simp
theorem opsTo_end (h : Hist') : opsTo h h.ts.length 0 = opsOf h := by simp [opsTo, opsOf]
theorem opsTo_zero (h : Hist') : opsTo h 0 0 = [] := by simp [opsTo]
theorem endV_df {res : List ARes} {st : St} {l u : Nat} {v : V} (hd : st.df = [(l, u)]) (ho : st.ob l = some ⟨u, .dfr⟩) (hr : st.ro ≤ u)
    (h : endV res (.ret, { st with ob := fun k => if Nat.beq l k then none else st.ob k, df := [] }) = some v) : endV res (.ret, st) = some v := by
  have h1 : dfOk st = true := by
    unfold dfOk
    rw [hd]
    simp only [List.all_cons, List.all_nil, ho, Bool.and_true, List.map_cons, List.map_nil, nodup, List.any_nil, Bool.not_false, Bool.and_eq_true, Nat.beq_refl, true_and]
    exact Nat.ble_eq ▸ hr
  have h2 : st.noDf = { st with ob := fun k => if Nat.beq l k then none else st.ob k, df := [] } := by
    unfold St.noDf
    rw [hd]
    simp
  simp only [endV, h1, h2, if_true]
  simp only [endV] at h
  rw [dfOk_of rfl, noDf_of rfl] at h
  exact h
theorem ev112 {h : Hist'} (hs : Small h) : Ev E 112 [.agg (histC h)] (.bool (usedB h)) := by
  refine Ev_wpK (af := F112) rfl ?_
  have hts := hs.ts
  simp [F112, histC, objCells, splice]
  refine wp_loopUp [(6, 6), (15, 23), (14, 14)] h.ts.length (fun i s => s.tm 14 = .int .i64 i ∧ s.ob 2 = some ⟨0, .cells (histC h)⟩ ∧ s.ob 8 = some ⟨256, .cells [.map 20 192]⟩ ∧ s.ob 20 = some ⟨192, .mp 0 []⟩ ∧
    ∃ ver m, s.ob 18 = some ⟨128, .mp ver (MP intV m)⟩ ∧ m.map (·.1) = dd ((h.ts.take i).map (·.s))) rfl rfl ⟨by simp, by simp [histC], by simp, by simp, 0, [], by simp [MP], by simp [dd]⟩ ?_
  rintro i s hi ⟨h14, o2, o8, o20, ver, m, o18, hm⟩ f
  have f12 : s.tm 12 = slOf h.tn txnC h.ts := by rw [f.t 12 (by simp)]; simp
  have f13 : s.tm 13 = .int .i64 h.ts.length := by rw [f.t 13 (by simp)]; simp
  have f1 : s.tm 1 = .ptr 2 0 0 := by rw [f.t 1 (by simp)]; simp
  have f3 : s.tm 3 = .map 18 128 := by rw [f.t 3 (by simp)]; simp
  have f4 : s.tm 4 = .ptr 8 256 0 := by rw [f.t 4 (by simp)]; simp
  have fd : s.df = [] := by rw [f.d]; simp
  have fb : s.fb = 0 := by rw [f.b]; simp
  have fr : s.ro = 0 := by rw [f.r]; simp
  clear f
  by_cases hlt : i < h.ts.length
  · have hw := wrapU hlt (by omega)
    simp [h14, f12, f13, hlt, idx_slOf txnC_len, load_slOf txnC_len, txnC, objCells, fb, fr, splice, f3, lookupV_MI m, objMap, o18]
    refine kS_mapSet (f := intV) (a := IntKind.i64.wrap (mcnt m h.ts[i].s + 1)) (ver := ver) (l := 18) (u := 128) (k := h.ts[i].s) m (by simp) (by simp) (by simp [intV]) (by simp [o18]) (by simp [fr]) ?_
    simp [h14, hw, o2, o8, o20, histC]
    refine ⟨hlt, ver + 1, mset m h.ts[i].s (IntKind.i64.wrap (mcnt m h.ts[i].s + 1)), by simp, ?_⟩
    rw [mset_keys, hm, ← List.map_take, List.take_succ_eq_append_getElem hlt, List.map_append]
    exact (dd_snoc _ _).symm
  · have : i = h.ts.length := by omega
    subst this
    rw [List.take_length] at hm
    simp [h14, f13]
    simp [f1, o2, objCells, histC]
    refine kS_callS (vs := [.agg (histC h)]) (by simp [histC]) rfl ?_
    obtain ⟨r, hr, e1, e2, e3, e4⟩ := ev102 (Yf := noYF) h s.ob s.tk 0 (26 * 1024) (s.nx + 64 + 64)
    refine ⟨r, by simpa [fr, fb] using hr, ?_⟩
    simp
    refine wpC_gen fun st hst => ?_
    have n2 : ¬ (2 : Nat) = 2 * (s.nx + 64 + 64) + 1 := by omega
    have n8 : ¬ (8 : Nat) = 2 * (s.nx + 64 + 64) + 1 := by omega
    have n18 : ¬ (18 : Nat) = 2 * (s.nx + 64 + 64) + 1 := by omega
    have n20 : ¬ (20 : Nat) = 2 * (s.nx + 64 + 64) + 1 := by omega
    have g25 : st.tm 25 = .fn (.func 146) [] [.ptr (2 * (s.nx + 64 + 64) + 1) (s.nx + 64 + 64) 0] := by rw [hst]; simp [put, e1]
    have g1 : st.tm 1 = .ptr 2 0 0 := by rw [hst]; simp [put, upd_apply, f1]
    have g3 : st.tm 3 = .map 18 128 := by rw [hst]; simp [put, upd_apply, f3]
    have g4 : st.tm 4 = .ptr 8 256 0 := by rw [hst]; simp [put, upd_apply, f4]
    have gd : st.df = [] := by rw [hst]; simp [fd]
    have gb : st.fb = 0 := by rw [hst]; simp [fb]
    have gr : st.ro = 0 := by rw [hst]; simp [fr]
    have gn : st.nx = s.nx + 64 + 64 + 256 := by rw [hst]; simp [e4]
    have p2 : st.ob 2 = some ⟨0, .cells (histC h)⟩ := by rw [hst]; simp only [setN_ob]; rw [e2, if_neg n2]; exact o2
    have p8 : st.ob 8 = some ⟨256, .cells [.map 20 192]⟩ := by rw [hst]; simp only [setN_ob]; rw [e2, if_neg n8]; exact o8
    have p18 : st.ob 18 = some ⟨128, .mp ver (MP intV m)⟩ := by rw [hst]; simp only [setN_ob]; rw [e2, if_neg n18]; exact o18
    have p20 : st.ob 20 = some ⟨192, .mp 0 []⟩ := by rw [hst]; simp only [setN_ob]; rw [e2, if_neg n20]; exact o20
    have pl : st.ob (2 * (s.nx + 64 + 64) + 1) = some ⟨s.nx + 64 + 64, .cells (histC h)⟩ := by rw [hst]; simp only [setN_ob]; rw [e2, if_pos rfl]
    clear hst e1 e2 e3 e4 hr
    refine range_opsN h hts (fun t ht => by have := hs.os t ht; omega) rfl rfl rfl (by simpa using g25) pl (by omega) (by omega) gr
      (fun i k ob tk ub => ob 2 = some ⟨0, .cells (histC h)⟩ ∧ ob 8 = some ⟨256, .cells [.map 20 192]⟩ ∧ ob 18 = some ⟨128, .mp ver (MP intV m)⟩ ∧ ∃ ver' m', ob 20 = some ⟨192, .mp ver' (MP intV m')⟩ ∧ m'.map (·.1) = dd ((opsTo h i k).map (·.key)))
      ?_ ?_ ?_ ?_ ?_
    · rintro i k ob ob' tk ub ub' ⟨q2, q8, q18, v', m', q20, hk⟩ hub hfr
      exact ⟨(hfr 2 (fun m _ => by omega)).trans q2, (hfr 8 (fun m _ => by omega)).trans q8, (hfr 18 (fun m _ => by omega)).trans q18, v', m', (hfr 20 (fun m _ => by omega)).trans q20, hk⟩
    · rintro i hi ob tk ub ⟨q2, q8, q18, v', m', q20, hk⟩
      exact ⟨q2, q8, q18, v', m', q20, by rw [hk, opsTo_next hi]⟩
    · rintro i hi k hk ob tk ub ⟨q2, q8, q18, v', m', q20, hkeys⟩ w1 w3 hub
      have r1 : ¬ 2 * st.nx + 1 = 16 := by omega
      have r3 : ¬ 2 * st.nx + 3 = 16 := by omega
      have r31 : ¬ 2 * st.nx + 3 = 2 * st.nx + 1 := by omega
      have r120 : ¬ 2 * st.nx + 1 = 20 := by omega
      have r320 : ¬ 2 * st.nx + 3 = 20 := by omega
      have b16 : ¬ 16 = 2 * st.nx + 1 := by omega
      have b8 : ¬ 8 = 2 * st.nx + 1 := by omega
      have b20 : ¬ 20 = 2 * st.nx + 1 := by omega
      have b2 : ¬ 2 = 2 * st.nx + 1 := by omega
      have b18 : ¬ 18 = 2 * st.nx + 1 := by omega
      simp [setPs, upd_apply, opC, objCells, gb, splice, g4, r1, w1, b16, b8, q8, lookupV_MI m', objMap, b20, q20]
      obtain ⟨o, ho⟩ : ∃ o, (h.ts[i]).ops[k] = o := ⟨_, rfl⟩
      rw [ho]
      refine kS_mapSet (f := intV) (a := IntKind.i64.wrap (mcnt m' o.key + 1)) (ver := v') (l := 20) (u := 192) (k := o.key) m' (by simp) (by simp) (by simp [intV]) (by simp [upd_apply, b20, q20]) (by simp) ?_
      simp [upd_apply, r120, r320, r3, b2, b8, b18, q2, q8, q18, w3]
      refine ⟨by omega, v' + 1, mset m' o.key (IntKind.i64.wrap (mcnt m' o.key + 1)), by simp, ?_⟩
      rw [mset_keys, hkeys, opsTo_step hi hk, List.map_append, ho]
      exact (dd_snoc _ _).symm
    · exact ⟨p2, p8, p18, 0, [], p20, by rw [opsTo_zero]; rfl⟩
    · rintro ob tk ub ⟨q2, q8, q18, v', m', q20, hkeys⟩ w3 hub
      rw [opsTo_end] at hkeys
      have l1 : m.length = (dd (usesS h)).length := by rw [← List.length_map (f := (·.1)), hm]; rfl
      have l2 : m'.length = (dd (usesK h)).length := by rw [← List.length_map (f := (·.1)), hkeys]; rfl
      simp [g3, g1, objMap, q18, q2, objCells, histC, l1]
      unfold usedB
      by_cases c1 : (dd (usesS h)).length = h.ss.length
      · simp [c1, g4, g1, q8, q2, objMap, q20, objCells, histC, l2]
        refine endV_df (l := 2 * st.nx + 3) (u := st.nx + 1) (by simp [gd]) (by simp [w3]) (by simp [gr]) (endV_1 rfl ?_ rfl)
        simp
        rw [Bool.eq_iff_iff]; simp; omega
      · have c1' : (((dd (usesS h)).length : Int) == (h.ss.length : Int)) = false := by simp; omega
        simp [c1']
        refine endV_df (l := 2 * st.nx + 3) (u := st.nx + 1) (by simp [gd]) (by simp [w3]) (by simp [gr]) (endV_1 rfl ?_ rfl)
        simp [c1]
end Go.Pv.T

/- May a history be? The program's way. -/
namespace Go.Pv.T
open Go Go.Pv

def mayH (h : Hist') : Bool := headsB h && (h.ts.all (txnB h) && ((opsOf h).all (opB h) && usedB h))
def errH (h : Hist') : Int := if mayH h then 0 else 4
theorem any_not {α : Type} (p : α → Bool) (l : List α) : (l.any fun t => !p t) = !(l.all p) := by
  induction l with
  | nil => rfl
  | cons a l ih => simp [ih]
theorem ev70 {h : Hist'} (hs : Small h) : Ev E 70 [.agg (histC h)] (.int .i64 (errH h)) := by
  refine Ev_wpK (af := F70) rfl ?_
  have hts := hs.ts
  have hos : ∀ t ∈ h.ts, t.ops.length ≤ 1000000 := fun t ht => by have := hs.os t ht; omega
  have e107 := ev107 hs
  have e112 := ev112 hs
  obtain ⟨R, hR⟩ : ∃ R, errH h = R := ⟨_, rfl⟩
  have hR' : R = if headsB h && (h.ts.all (txnB h) && ((opsOf h).all (opB h) && usedB h)) then 0 else 4 := hR.symm
  rw [hR]
  clear hR
  simp [F70, histC, objCells]
  refine kS_ev e107 (by simp [histC]) rfl (by simp [histC]) ?_
  cases b1 : headsB h
  · rw [b1] at hR'
    simp at hR'
    subst hR'
    simp [objCells, splice]
    exact kEnd_of rfl (l := [.int .i64 4]) (by simp [resOf, objCells]) rfl rfl
  rw [b1] at hR'
  simp [objCells]
  refine kS_callO (vs := [slOf h.tn txnC h.ts, .fn (.func 109) [] [.ptr 2 0 0]]) (by simp) rfl rfl (ev108 (p := fun t => !txnB h t) rfl (fun t tk base ub => ev109 (h := h) ⟨rfl, by simp [histC]⟩ t tk base ub) h.tn h.ts (by omega) _ _ _) ?_
  rw [any_not]
  cases b2 : h.ts.all (txnB h)
  · rw [b2] at hR'
    replace hR' : R = 4 := hR'
    subst hR'
    simp [objCells, splice]
    exact kEnd_of rfl (l := [.int .i64 4]) (by simp [resOf, objCells]) rfl rfl
  rw [b2] at hR'
  simp [objCells]
  refine kS_callS (vs := [.agg (histC h)]) (by simp [histC]) rfl ?_
  obtain ⟨r, hr, e1, e2, e3, e4⟩ := ev102 (Yf := noYF) h _ _ 0 _ _
  refine ⟨r, hr, ?_⟩
  simp
  refine wpC_gen fun st hst => ?_
  obtain ⟨U, hU⟩ : ∃ U, st.nx = U := ⟨_, rfl⟩
  obtain ⟨m, hm, hmU, g15, p2, p4, pl⟩ : ∃ m, m % 64 = 0 ∧ m < U ∧ st.tm 15 = .fn (.func 146) [] [.ptr (2 * m + 1) m 0] ∧ st.ob 2 = some ⟨0, .cells (histC h)⟩ ∧ st.ob 4 = some ⟨64, .cells [.int .i64 0]⟩ ∧ st.ob (2 * m + 1) = some ⟨m, .cells (histC h)⟩ := by
    refine ⟨_, ?_, ?_, by rw [hst]; simp only [setN_tm, put, upd_same]; exact e1, ?_, ?_, ?_⟩
    · decide
    · rw [← hU, hst, setN_nx, e4]; omega
    · rw [hst]; simp only [setN_ob]; rw [e2]; simp [histC]
    · rw [hst]; simp only [setN_ob]; rw [e2]; simp
    · rw [hst]; simp only [setN_ob]; rw [e2]; simp
  have g1 : st.tm 1 = .ptr 2 0 0 := by rw [hst]; simp [put, upd_apply]
  have g2 : st.tm 2 = .ptr 4 64 0 := by rw [hst]; simp [put, upd_apply]
  have gd : st.df = [] := by rw [hst]; simp
  have gb : st.fb = 0 := by rw [hst]; simp
  have gr : st.ro = 0 := by rw [hst]; simp
  have hU64 : 64 ≤ U := by rw [← hU, hst, setN_nx, e4]; omega
  clear hst e1 e2 e3 e4 hr
  refine range70 h hts hos U hU hU64 g15 ⟨m, rfl, hmU⟩ g1 g2 gr gb p2 p4 pl ?_
  intro e ob tk ub c q2 q4 q3 hub hcase
  rcases hcase with ⟨b3, rfl, rfl⟩ | ⟨b3, rfl, rfl⟩
  · rw [b3] at hR'
    simp [g1, objCells, q2, histC]
    refine kS_ev e112 (by simp [histC]) rfl (by simp [histC]) ?_
    have n3 : ¬ 2 * U + 3 = 4 := by omega
    have n4 : ¬ 4 = 2 * U + 3 := by omega
    cases b4 : usedB h
    · rw [b4] at hR'
      replace hR' : R = 4 := hR'
      subst hR'
      simp [objCells, g2, q4, gr, splice]
      refine endV_df (l := 2 * U + 3) (u := U + 1) (by simp [gd]) (by simp [q3, n3]) (by simp) (endV_plain rfl (l := [.int .i64 4]) ?_ rfl)
      simp [resOf, objCells, g2, n3]
    · rw [b4] at hR'
      replace hR' : R = 0 := hR'
      subst hR'
      simp [objCells, g2, q4, gr, splice]
      refine endV_df (l := 2 * U + 3) (u := U + 1) (by simp [gd]) (by simp [q3, n3]) (by simp) (endV_plain rfl (l := [.int .i64 0]) ?_ rfl)
      simp [resOf, objCells, g2, n3]
  · rw [b3] at hR'
    replace hR' : R = 4 := hR'
    subst hR'
    have n3 : ¬ 2 * U + 3 = 4 := by omega
    have n4 : ¬ 4 = 2 * U + 3 := by omega
    simp
    refine endV_df (l := 2 * U + 3) (u := U + 1) (by simp [gd]) (by simp [q3]) (by simp [gr]) (endV_plain rfl (l := [.int .i64 4]) ?_ rfl)
    simp [resOf, objCells, g2, n3, q4]
end Go.Pv.T

/- The reference's ops: what it marks. -/
namespace Go.Pv.T
open Go Go.Pv

def marks (bs : List Bool) (ks : List Int) : List Bool := ks.foldl (fun b k => b.set k.toNat true) bs
theorem marks_len (ks : List Int) : ∀ bs : List Bool, (marks bs ks).length = bs.length := by
  induction ks with
  | nil => intro bs; rfl
  | cons k ks ih => intro bs; exact (ih _).trans List.length_set
theorem marks_snoc (bs : List Bool) (ks : List Int) (k : Int) : marks bs (ks ++ [k]) = (marks bs ks).set k.toNat true := by simp [marks]
theorem marks_app (bs : List Bool) (a b : List Int) : marks bs (a ++ b) = marks (marks bs a) b := by simp [marks]
theorem splice_set (bs : List Bool) (k : Nat) (h : k < bs.length) : splice (bs.map V.bool) k [.bool true] = (bs.set k true).map V.bool := by
  unfold splice
  rw [List.map_set, List.set_eq_take_append_cons_drop, if_pos (by simpa using h)]
  simp
def goodT (h : Hist') (t : Txn') : Bool := txnB h t && t.ops.all (opB h)
theorem idx_osl {l u n : Nat} {kk : IntKind} {x : Int} (h0 : 0 ≤ x) (h1 : x < n) : idxSlV 1 (.osl l u 0 n 1) (.int kk x) = some (.ptr l u x.toNat) := by
  simp [idxSlV, h0, h1]
theorem within_of {n : Int} {l : Nat} (h1 : ¬ n < 0) (h2 : ¬ (l : Int) ≤ n) : within n l = true := by unfold within; simp; omega
theorem within_f1 {n : Int} {l : Nat} (h1 : n < 0) : within n l = false := by unfold within; simp; omega
theorem within_f2 {n : Int} {l : Nat} (h1 : (l : Int) ≤ n) : within n l = false := by unfold within; simp; omega

theorem ev82 {Yf : YF} {h : Hist'} {t : Txn'} (ht : t.ops.length ≤ 1000000) {ob : Nat → Option Obj'} {tk : Nat → Bool} {ro base ub l u : Nat} {bs : List Bool} (hbs : bs.length = h.ks.length) (ho : ob l = some ⟨u, .cells (bs.map V.bool)⟩) (hro : ro ≤ u) (hrb : ro ≤ ub)
    (hl : ∀ m, ub ≤ m → l ≠ 2 * m + 1) :
    ∃ r, EvS E Yf.y 82 [.agg (histC h), .agg (txnC t), .osl l u 0 h.ks.length 1] ob tk ro base ub r ∧ r.1 = .bool (goodT h t) ∧ (goodT h t = true →
      r.2.1 l = some ⟨u, .cells ((marks bs (t.ops.map (·.key))).map V.bool)⟩ ∧ (∀ key, key ≠ l → (∀ m, ub ≤ m → key ≠ 2 * m + 1) → r.2.1 key = ob key) ∧ r.2.2.1 = tk ∧ ub ≤ r.2.2.2) := by
  refine EvS_wp (af := S82) rfl (by decide) ?_
  show wpC E Yf S82.body _ (kEndS S82.res _)
  have n3 : ¬ 2 * (ub + 64) = 2 * ub := by omega
  have n4 : ¬ 2 * ub = 2 * (ub + 64) := by omega
  have fin : ∀ {e : Ex} {s : St}, e = .ret → s.df = [] → s.tm 6 = .bool false → goodT h t = false → kEndS S82.res (fun r => r.1 = .bool (goodT h t) ∧ (goodT h t = true →
      r.2.1 l = some ⟨u, .cells ((marks bs (t.ops.map (·.key))).map V.bool)⟩ ∧ (∀ key, key ≠ l → (∀ m, ub ≤ m → key ≠ 2 * m + 1) → r.2.1 key = ob key) ∧ r.2.2.1 = tk ∧ ub ≤ r.2.2.2)) e s := by
    intro e s he hd h6 hg
    subst he
    refine ⟨(.bool false, s.ob, s.tk, s.nx), ?_, by rw [hg], fun h => by rw [hg] at h; cases h⟩
    simp [endS, hd, S82, resOf, h6]
  generalize hP : (fun r : V × (Nat → Option Obj') × (Nat → Bool) × Nat => r.1 = .bool (goodT h t) ∧ (goodT h t = true →
      r.2.1 l = some ⟨u, .cells ((marks bs (t.ops.map (·.key))).map V.bool)⟩ ∧ (∀ key, key ≠ l → (∀ m, ub ≤ m → key ≠ 2 * m + 1) → r.2.1 key = ob key) ∧ r.2.2.1 = tk ∧ ub ≤ r.2.2.2)) = P at fin ⊢
  have gf : ∀ {b : Bool}, txnB h t = b → b = false → goodT h t = false := fun h1 h2 => by unfold goodT; rw [h1, h2]; rfl
  simp [S82, histC, txnC, objCells]
  by_cases s1 : t.s < 0
  · simp [s1]
    exact fin rfl (by simp) (by simp) (gf (b := false) (by unfold txnB; rw [within_f1 s1]; rfl) rfl)
  by_cases s2 : (h.ss.length : Int) ≤ t.s
  · simp [s1, s2, objCells, n4]
    exact fin rfl (by simp) (by simp) (gf (b := false) (by unfold txnB; rw [within_f2 s2]; rfl) rfl)
  by_cases f1 : t.f < 1
  · simp [s1, s2, f1, objCells, n4]
    exact fin rfl (by simp) (by simp) (gf (b := false) (by unfold txnB; simp; omega) rfl)
  by_cases f2 : 3 < t.f
  · simp [s1, s2, f1, f2, objCells, n4]
    exact fin rfl (by simp) (by simp) (gf (b := false) (by unfold txnB; simp; omega) rfl)
  by_cases l1 : 20 < (t.ops.length : Int)
  · simp [s1, s2, f1, f2, l1, objCells, n4]
    exact fin rfl (by simp) (by simp) (gf (b := false) (by unfold txnB; simp; omega) rfl)
  have htx : txnB h t = true := by unfold txnB; rw [within_of s1 s2]; simp; omega
  simp [s1, s2, f1, f2, l1, objCells, n4]
  refine wp_loopUp [(6, 8), (36, 78)] t.ops.length (fun i s => s.tm 7 = .int .i64 i ∧ s.ob (2 * ub + 1) = some ⟨ub, .cells (histC h)⟩ ∧ s.ob (2 * (ub + 64) + 1) = some ⟨ub + 64, .cells (txnC t)⟩ ∧
    s.ob l = some ⟨u, .cells ((marks bs ((t.ops.take i).map (·.key))).map V.bool)⟩ ∧ (∀ key, key ≠ l → (∀ m, ub ≤ m → key ≠ 2 * m + 1) → s.ob key = ob key) ∧ s.tk = tk ∧ ub + 128 ≤ s.nx ∧ (t.ops.take i).all (opB h) = true) rfl rfl ?_ ?_
  · refine ⟨by simp, by simp [n4, histC], by simp [txnC], ?_, ?_, ?_, ?_, by simp⟩
    · have e1 := hl ub (by omega)
      have e2 := hl (ub + 64) (by omega)
      simp [e1, e2, ho, marks]
    · intro key _ hm
      have e1 := hm ub (by omega)
      have e2 := hm (ub + 64) (by omega)
      simp [e1, e2]
    · simp [app_tk0]
    · simp
  · rintro i s hi ⟨h7, oa, ob', ol, hfr, htk, hnx, hall⟩ f
    have f2 : s.tm 2 = .osl l u 0 h.ks.length 1 := by rw [f.t 2 (by simp)]; simp
    have f3 : s.tm 3 = .ptr (2 * ub + 1) ub 0 := by rw [f.t 3 (by simp)]; simp
    have f4 : s.tm 4 = .ptr (2 * (ub + 64) + 1) (ub + 64) 0 := by rw [f.t 4 (by simp)]; simp
    have fd : s.df = [] := by rw [f.d]; simp
    have fr : s.ro = ro := by rw [f.r]; simp
    clear f
    by_cases hlt : i < t.ops.length
    · have hw := wrapU hlt (by omega)
      have x1 : ¬ 2 * ub = 2 * (s.nx + 64 + 64 + 64 + 64 + 64 + 64 + 64 + 64 + 64 + 64) := by omega
      have x2 : ¬ 2 * (ub + 64) = 2 * (s.nx + 64 + 64 + 64 + 64 + 64 + 64 + 64 + 64 + 64 + 64) := by omega
      have x3 : ¬ l = 2 * (s.nx + 64 + 64 + 64 + 64 + 64 + 64 + 64 + 64 + 64 + 64) + 1 := hl _ (by omega)
      have x3' : ¬ 2 * (s.nx + 64 + 64 + 64 + 64 + 64 + 64 + 64 + 64 + 64 + 64) + 1 = l := fun e => x3 e.symm
      have x4 : ¬ 2 * ub + 1 = l := fun e => hl ub (by omega) e.symm
      have x5 : ¬ 2 * (ub + 64) + 1 = l := fun e => hl (ub + 64) (by omega) e.symm
      have x6 : ro ≤ s.nx + 64 + 64 + 64 + 64 + 64 + 64 + 64 + 64 + 64 + 64 := by omega
      obtain ⟨o, hoo⟩ : ∃ o, t.ops[i] = o := ⟨_, rfl⟩
      have hl4 := load_slOf opC_len s.ob t.ops hlt
      have bad : opB h o = false → goodT h t = false := fun hb => by
        unfold goodT
        rw [all_not hlt (by rw [hoo]; exact hb), Bool.and_false]
      simp [h7, f4, ob', objCells, txnC, hlt, idx_slOf opC_len, load_slOf opC_len, hoo, opC, splice, fr, x6]
      by_cases k1 : o.key < 0
      · simp [k1]
        exact fin rfl (by simp [fd]) (by simp) (bad (by unfold opB; rw [within_f1 k1]; rfl))
      by_cases k2 : (h.ks.length : Int) ≤ o.key
      · simp [k1, k2, f3, oa, objCells, x1, histC]
        exact fin rfl (by simp [fd]) (by simp) (bad (by unfold opB; rw [within_f2 k2]; rfl))
      have hwi := within_of k1 k2
      simp [k1, k2, f3, oa, objCells, x1, histC]
      refine kS_ev (ev124 o.v) (by simp [valC]) rfl (by simp [valC]) ?_
      cases k3 : valB o.v
      · simp
        exact fin rfl (by simp [fd]) (by simp) (bad (by unfold opB; rw [hwi, k3]; rfl))
      have hk0 : 0 ≤ o.key := by omega
      have hk1 : o.key < (h.ks.length : Int) := by omega
      have hio := idx_osl (l := l) (u := u) (n := h.ks.length) (kk := .i64) hk0 hk1
      have hsp := splice_set (marks bs ((t.ops.take i).map (·.key))) o.key.toNat (by rw [marks_len, hbs]; omega)
      have hml : (marks bs ((t.ops.take i).map (·.key))).length = h.ks.length := by rw [marks_len, hbs]
      have hnext : marks bs ((t.ops.take (i + 1)).map (·.key)) = (marks bs ((t.ops.take i).map (·.key))).set o.key.toNat true := by
        rw [List.take_succ_eq_append_getElem hlt, List.map_append, hoo]
        exact marks_snoc _ _ _
      have hlen : o.key.toNat + 1 ≤ h.ks.length := by omega
      have hall' : opB h o = true → (t.ops.take (i + 1)).all (opB h) = true := fun hb => by
        rw [List.take_succ_eq_append_getElem hlt, List.all_append, hall, hoo]
        simp [hb]
      generalize marks bs ((t.ops.take i).map (·.key)) = mk at *
      cases k4 : o.w
      · have hgo : opB h o = true := by unfold opB; rw [hwi, k3, k4]; rfl
        simp [objCells, x1, x2, x3, f2, hio, ol, hro, hml, hlen, hsp, fr, h7, hw]
        refine ⟨hlt, ?_, ?_, ?_, ?_, htk, ?_, ?_⟩
        · rw [if_neg x4, oa]; rfl
        · rw [if_neg x5, ob']; rfl
        · rw [← List.map_take, hnext, List.map_set]
        · intro key h1 h2
          rw [if_neg h1, if_neg (h2 _ (by omega)), if_neg (h2 _ (by omega))]
          exact hfr key h1 h2
        · omega
        · have := hall' hgo
          rw [List.all_eq_true] at this
          exact this
      · cases k5 : (o.v.kind == 1)
        · have k5' : (o.v.kind != 1) = true := by simpa using k5
          simp [objCells, k5']
          exact fin rfl (by simp [fd]) (by simp) (bad (by unfold opB; rw [hwi, k3, k4, k5]; rfl))
        · have k5' : (o.v.kind != 1) = false := by simpa using k5
          have hgo : opB h o = true := by unfold opB; rw [hwi, k3, k4, k5]; rfl
          simp [objCells, x1, x2, x3, f2, hio, ol, hro, hml, hlen, hsp, fr, h7, hw, k5']
          refine ⟨hlt, ?_, ?_, ?_, ?_, htk, ?_, ?_⟩
          · rw [if_neg x4, oa]; rfl
          · rw [if_neg x5, ob']; rfl
          · rw [← List.map_take, hnext, List.map_set]
          · intro key h1 h2
            rw [if_neg h1, if_neg (h2 _ (by omega)), if_neg (h2 _ (by omega))]
            exact hfr key h1 h2
          · omega
          · have := hall' hgo
            rw [List.all_eq_true] at this
            exact this
    · have : i = t.ops.length := by omega
      subst this
      rw [List.take_length] at hall ol
      have hg : goodT h t = true := by unfold goodT; rw [htx, hall]; rfl
      simp [h7, f4, ob', objCells, txnC]
      refine ⟨(.bool true, s.ob, s.tk, s.nx + 64 + 64 + 64 + 64 + 64 + 64), ?_, ?_⟩
      · simp [endS, resOf, fd]
      · rw [← hP]
        exact ⟨by rw [hg], fun _ => ⟨ol, hfr, htk, by show ub ≤ _; simp; omega⟩⟩
end Go.Pv.T

/- May a history be? The reference's way. -/
namespace Go.Pv.T
open Go Go.Pv

theorem kD_mkSl {E : Env} {st : St} {ub : Nat} {K : List FP → St → Prop} {d : Option Nat} {nm : Bool} {r : List AOpr} {sz bytes n : Nat} {zero : List V} {x y : A} (hl : eval E st.tm x = .int .i64 (n : Int)) (hc : eval E st.tm y = .int .i64 (n : Int)) (hb : n * bytes ≤ 140737488355328) (hn : n ≤ 140737488355328) (hz : zero.length = sz) (h0 : 0 < sz)
    (h : kDApp E r K (eval E st.tm) (.mkSl true sz bytes zero x y) st d ub { v := .osl (objName d nm st.fb ub) ub 0 n sz, obs := [(objName d nm st.fb ub, ⟨ub, .cells (repl n zero)⟩)] }) : wpDraw E (⟨d, .mkSl true sz bytes zero x y, none, nm⟩ :: r) st ub K := by
  rw [wpDraw_of rfl]
  simp only [aop, hl, hc]
  rw [if_pos (by refine ⟨by omega, by omega, ?_, by omega, hz, h0⟩; rw [← Int.natCast_mul]; exact Int.ofNat_le.2 hb)]
  simp only [Bool.not_true, Bool.false_eq_true, false_and, if_false, mkObj, wpD_some, name_eq, Int.toNat_natCast]
  exact h
theorem repl_false (n : Nat) : repl n [.bool false] = (List.replicate n false).map V.bool := by
  unfold repl
  apply List.ext_getElem
  · simp
  · intro i h1 h2
    simp [List.getD, Nat.mod_one]
theorem marks_get (ks : List Int) : ∀ (bs : List Bool) (j : Nat) (hj : j < bs.length), (∀ k ∈ ks, 0 ≤ k) → (marks bs ks)[j]? = some (bs[j] || ks.any fun k => k == (j : Int)) := by
  induction ks with
  | nil => intro bs j hj _; simp [marks, hj]
  | cons k ks ih =>
    intro bs j hj h
    have hk := h k (by simp)
    have := ih (bs.set k.toNat true) j (by simpa using hj) (fun x hx => h x (by simp [hx]))
    show (marks (bs.set k.toNat true) ks)[j]? = _
    rw [this, List.getElem_set, List.any_cons]
    by_cases hkj : k.toNat = j
    · have : k = (j : Int) := by omega
      simp [this]
    · have : ¬ k = (j : Int) := by omega
      have e : (k == (j : Int)) = false := by simpa using this
      rw [if_neg hkj, e, Bool.false_or]
theorem marks_all {ks : List Int} {n : Nat} (h : ∀ k ∈ ks, 0 ≤ k ∧ k < n) : (marks (List.replicate n false) ks).all id = decide ((dd ks).length = n) := by
  have hp := (pigeon n (dd ks) (nodup_dd ks) (fun x hx => h x (mem_dd.1 hx))).2
  rw [Bool.eq_iff_iff, List.all_eq_true, decide_eq_true_eq, hp]
  constructor
  · intro hall k hk
    have hl : k < (marks (List.replicate n false) ks).length := by rw [marks_len]; simpa using hk
    have := hall _ (List.getElem_mem hl)
    have hg := marks_get ks (List.replicate n false) k (by simpa using hk) (fun x hx => (h x hx).1)
    rw [List.getElem?_eq_getElem hl, Option.some.injEq] at hg
    rw [hg] at this
    simp at this
    exact mem_dd.2 this
  · intro hall x hx
    obtain ⟨j, hj, rfl⟩ := List.getElem_of_mem hx
    have hjn : j < n := by rw [marks_len] at hj; simpa using hj
    have hg := marks_get ks (List.replicate n false) j (by simpa using hjn) (fun x hx => (h x hx).1)
    rw [List.getElem?_eq_getElem hj, Option.some.injEq] at hg
    rw [hg]
    have := mem_dd.1 (hall j hjn)
    simp
    exact this
theorem goodT_all (h : Hist') : h.ts.all (goodT h) = (h.ts.all (txnB h) && (opsOf h).all (opB h)) := by
  unfold opsOf
  induction h.ts with
  | nil => rfl
  | cons t l ih =>
    simp only [List.all_cons, List.flatMap_cons, List.all_append, ih, goodT]
    cases txnB h t <;> cases t.ops.all (opB h) <;> cases l.all (txnB h) <;> simp
theorem within_iff {n : Int} {l : Nat} : within n l = true ↔ 0 ≤ n ∧ n < l := by unfold within; simp
/-- The reference's tests come to the same. -/
theorem mayH_ref {h : Hist'} (hd : headsB h = true) (hg : h.ts.all (goodT h) = true) : mayH h = ((marks (List.replicate h.ks.length false) (usesK h)).all id && (marks (List.replicate h.ss.length false) (usesS h)).all id) := by
  rw [goodT_all, Bool.and_eq_true] at hg
  have hS : ∀ k ∈ usesS h, 0 ≤ k ∧ k < h.ss.length := by
    intro k hk
    obtain ⟨t, ht, rfl⟩ := List.mem_map.1 hk
    have := List.all_eq_true.1 hg.1 t ht
    unfold txnB at this
    rw [Bool.and_eq_true] at this
    exact within_iff.1 this.1
  have hK : ∀ k ∈ usesK h, 0 ≤ k ∧ k < h.ks.length := by
    intro k hk
    obtain ⟨t, ht, rfl⟩ := List.mem_map.1 hk
    have := List.all_eq_true.1 hg.2 t ht
    unfold opB at this
    rw [Bool.and_eq_true] at this
    exact within_iff.1 this.1
  rw [marks_all hS, marks_all hK]
  unfold mayH usedB
  rw [hd, hg.1, hg.2]
  simp only [Bool.true_and]
  rw [Bool.and_comm]
theorem errH_f1 {h : Hist'} (hd : headsB h = false) : errH h = 4 := by unfold errH mayH; rw [hd]; rfl
theorem errH_f2 {h : Hist'} (hg : h.ts.all (goodT h) = false) : errH h = 4 := by
  unfold errH mayH
  rw [goodT_all] at hg
  rw [← Bool.and_assoc (h.ts.all (txnB h)), hg]
  simp
end Go.Pv.T

/- May a history be? The walk of the reference's. -/
namespace Go.Pv.T
open Go Go.Pv

def allT (l : List Bool) : Bool := l.all id
theorem allT_nil : allT [] = true := rfl
theorem allT_succ {l : List Bool} {j : Nat} (h : j < l.length) : allT (l.take (j + 1)) = (allT (l.take j) && l[j]) := by
  unfold allT; rw [List.take_succ_eq_append_getElem h, List.all_append]; simp
theorem ev32 {h : Hist'} (hs : Small h) : Ev E 32 [.agg (histC h)] (.int .i64 (errH h)) := by
  refine Ev_wpK (af := F32) rfl ?_
  have hts := hs.ts
  have hks := hs.ks
  have hss := hs.ss
  have e1 := ev81 h.sn h.ss (by omega) (fun s hx => by have := hs.sl s hx; omega)
  have e2 := ev81 h.kn h.ks (by omega) (fun s hx => by have := hs.kl s hx; omega)
  obtain ⟨R, hR⟩ : ∃ R, errH h = R := ⟨_, rfl⟩
  have bad : headsB h = false → R = 4 := fun hd => hR ▸ errH_f1 hd
  have bad2 : h.ts.all (goodT h) = false → R = 4 := fun hd => hR ▸ errH_f2 hd
  rw [hR]
  simp [F32, histC, objCells]
  refine kS_ev e1 (by simp) rfl rfl ?_
  cases b1 : tabB h.ss
  · rw [bad (by unfold headsB; rw [b1]; rfl)]
    simp
    exact endV_1 rfl (by simp) rfl
  simp [objCells]
  refine kS_ev e2 (by simp) rfl rfl ?_
  cases b2 : tabB h.ks
  · rw [bad (by unfold headsB; rw [b1, b2]; rfl)]
    simp
    exact endV_1 rfl (by simp) rfl
  by_cases c1 : 20 < (h.ss.length : Int)
  · rw [bad (by unfold headsB; simp; omega)]
    simp [objCells, c1]
    exact endV_1 rfl (by simp) rfl
  by_cases c2 : 40 < (h.ks.length : Int)
  · rw [bad (by unfold headsB; simp; omega)]
    simp [objCells, c1, c2]
    exact endV_1 rfl (by simp) rfl
  by_cases c3 : 40 < (h.ts.length : Int)
  · rw [bad (by unfold headsB; simp; omega)]
    simp [objCells, c1, c2, c3]
    exact endV_1 rfl (by simp) rfl
  have hd : headsB h = true := by unfold headsB; rw [b1, b2]; simp; omega
  simp [objCells, c1, c2, c3]
  refine kD_mkSl (n := h.ks.length) (by simp) (by simp) (by omega) (by omega) rfl (by decide) ?_
  simp [objCells]
  refine kD_mkSl (n := h.ss.length) (by simp) (by simp) (by omega) (by omega) rfl (by decide) ?_
  simp [repl_false]
  refine ⟨by simp [drawOk, indep, disj, fpOf, rdOb, rdTk, lOf, Delta.wo, Delta.wt]; decide, ?_⟩
  refine wpC_gen fun st hst => ?_
  have g1 : st.tm 1 = .ptr 1 0 0 := by rw [hst]; simp
  have g3 : st.tm 3 = .osl 4225 2112 0 h.ks.length 1 := by rw [hst]; simp
  have g4 : st.tm 4 = .osl 4737 2368 0 h.ss.length 1 := by rw [hst]; simp
  have g5 : st.tm 5 = .int .i64 0 := by rw [hst]; simp
  have p1 : st.ob 1 = some ⟨0, .cells (histC h)⟩ := by rw [hst]; simp [histC]
  have pk : st.ob 4225 = some ⟨2112, .cells ((List.replicate h.ks.length false).map V.bool)⟩ := by rw [hst]; simp
  have ps : st.ob 4737 = some ⟨2368, .cells ((List.replicate h.ss.length false).map V.bool)⟩ := by rw [hst]; simp
  have gd : st.df = [] := by rw [hst]; simp
  have gb : st.fb = 0 := by rw [hst]; simp
  have gr : st.ro = 0 := by rw [hst]; simp
  have gn : 2400 ≤ st.nx := by rw [hst]; simp
  clear hst
  generalize hB : List.replicate h.ks.length false = B at *
  generalize hC : List.replicate h.ss.length false = D at *
  have hBl : B.length = h.ks.length := by rw [← hB]; simp
  have hDl : D.length = h.ss.length := by rw [← hC]; simp
  refine wp_loopUp [(2, 2), (5, 5), (45, 68)] h.ts.length (fun i s => s.tm 5 = .int .i64 i ∧ s.ob 1 = some ⟨0, .cells (histC h)⟩ ∧ s.ob 4225 = some ⟨2112, .cells ((marks B ((h.ts.take i).flatMap fun t => t.ops.map (·.key))).map V.bool)⟩ ∧
    s.ob 4737 = some ⟨2368, .cells ((marks D ((h.ts.take i).map (·.s))).map V.bool)⟩ ∧ 2400 ≤ s.nx ∧ (h.ts.take i).all (goodT h) = true) rfl rfl ⟨by simp [g5], p1, by simp [pk, marks], by simp [ps, marks], gn, by simp⟩ ?_
  rintro i s hi ⟨h5, o1, ok, os, hnx, hall⟩ f
  have f1 : s.tm 1 = .ptr 1 0 0 := by rw [f.t 1 (by simp), g1]
  have f3 : s.tm 3 = .osl 4225 2112 0 h.ks.length 1 := by rw [f.t 3 (by simp), g3]
  have f4 : s.tm 4 = .osl 4737 2368 0 h.ss.length 1 := by rw [f.t 4 (by simp), g4]
  have fd : s.df = [] := by rw [f.d, gd]
  have fb : s.fb = 0 := by rw [f.b, gb]
  have fr : s.ro = 0 := by rw [f.r, gr]
  clear f
  by_cases hlt : i < h.ts.length
  · have hw := wrapU hlt (by omega)
    obtain ⟨t, ht⟩ : ∃ t, h.ts[i] = t := ⟨_, rfl⟩
    have htm : t ∈ h.ts := ht ▸ List.getElem_mem hlt
    have hos := hs.os t htm
    have hl3 := load_slOf txnC_len s.ob h.ts hlt
    rw [ht] at hl3
    simp [h5, f1, o1, objCells, histC, hlt, idx_slOf txnC_len, load_slOf txnC_len, ht, f3]
    refine kS_callS (vs := [.agg (histC h), .agg (txnC t), .osl 4225 2112 0 h.ks.length 1]) (by simp [histC]) rfl ?_
    simp [fr, fb]
    have hml : (marks B ((h.ts.take i).flatMap fun t => t.ops.map (·.key))).length = h.ks.length := by rw [marks_len, hBl]
    have hmd : (marks D ((h.ts.take i).map (·.s))).length = h.ss.length := by rw [marks_len, hDl]
    obtain ⟨⟨v, ob', tk', ub'⟩, hr, hv, hg⟩ := ev82 (Yf := noYF) (h := h) (t := t) (by omega) (ob := s.ob) (tk := s.tk) (ro := 0) (base := 61440) (ub := s.nx + 64 + 64 + 64 + 64 + 64 + 64 + 64 + 64 + 64 + 64 + 64 + 64) (l := 4225) (u := 2112) hml ok (by omega) (by omega) (fun m hm => by omega)
    refine ⟨v, ob', tk', ub', hr, ?_⟩
    simp only at hv hg
    subst hv
    cases hgt : goodT h t
    · rw [bad2 (all_not hlt (by rw [ht]; exact hgt))]
      simp [put]
      exact endV_1 (by simp [fd]) (by simp) rfl
    · obtain ⟨q1, q2, q3, q4⟩ := hg hgt
      have q1' := (q2 1 (by decide) (fun m hm => by omega)).trans o1
      have qs := (q2 4737 (by decide) (fun m hm => by omega)).trans os
      have htx : txnB h t = true := by unfold goodT at hgt; rw [Bool.and_eq_true] at hgt; exact hgt.1
      have hwi : 0 ≤ t.s ∧ t.s < h.ss.length := by unfold txnB at htx; rw [Bool.and_eq_true] at htx; exact within_iff.1 htx.1
      have hio := idx_osl (l := 4737) (u := 2368) (n := h.ss.length) (kk := .i64) hwi.1 hwi.2
      have hsp := splice_set (marks D ((h.ts.take i).map (·.s))) t.s.toNat (by rw [hmd]; omega)
      have hfl : (h.ts.flatMap txnC)[i * 3]? = some (.int .i64 t.s) := by
        have := fld_at txnC_len h.ts hlt (by decide : 0 < 3)
        rw [Nat.add_zero, ht] at this
        rw [this]; rfl
      have hnk : marks B ((h.ts.take (i + 1)).flatMap fun t => t.ops.map (·.key)) = marks (marks B ((h.ts.take i).flatMap fun t => t.ops.map (·.key))) (t.ops.map (·.key)) := by
        rw [List.take_succ_eq_append_getElem hlt, List.flatMap_append, marks_app, ht]; simp
      have hns : marks D ((h.ts.take (i + 1)).map (·.s)) = (marks D ((h.ts.take i).map (·.s))).set t.s.toNat true := by
        rw [List.take_succ_eq_append_getElem hlt, List.map_append, ht]; exact marks_snoc _ _ _
      have hal : (h.ts.take (i + 1)).all (goodT h) = true := by
        rw [List.take_succ_eq_append_getElem hlt, List.all_append, hall, ht]; simp [hgt]
      rw [← hnk] at q1
      have hts1 : t.s.toNat + 1 ≤ h.ss.length := by omega
      obtain ⟨mk, hmk⟩ : ∃ m, marks B ((h.ts.take (i + 1)).flatMap fun t => t.ops.map (·.key)) = m := ⟨_, rfl⟩
      rw [hmk] at q1
      generalize marks D ((h.ts.take i).map (·.s)) = md at *
      simp [put, upd_apply, f1, f4, h5, q1', objCells, histC, hlt, idx_slOf txnC_len, hfl, hio, qs, hmd, hsp, hw, q1, hts1]
      refine ⟨by rw [hmk], by rw [← List.map_take, hns, List.map_set], by omega, ?_⟩
      rw [List.all_eq_true] at hal
      exact hal
  · have : i = h.ts.length := by omega
    subst this
    rw [List.take_length] at hall ok os
    have hmay := mayH_ref hd hall
    have hK : (h.ts.flatMap fun t => t.ops.map (·.key)) = usesK h := by unfold usesK opsOf; rw [List.map_flatMap]
    have hS : h.ts.map (·.s) = usesS h := rfl
    rw [hK] at ok
    rw [hS] at os
    rw [hB, hC] at hmay
    have hml : (marks B (usesK h)).length = h.ks.length := by rw [marks_len, hBl]
    have hmd : (marks D (usesS h)).length = h.ss.length := by rw [marks_len, hDl]
    have hR' : R = if allT (marks B (usesK h)) && allT (marks D (usesS h)) then 0 else 4 := by rw [← hR, errH, hmay]; rfl
    clear hmay hR
    generalize marks B (usesK h) = mk at *
    generalize marks D (usesS h) = md at *
    simp [h5, f1, o1, objCells, histC]
    refine wp_loopUp [(6, 7), (69, 81)] h.ks.length (fun i s' => s'.tm 7 = .int .i64 i ∧ s'.ob = s.ob ∧ s'.tm 6 = .bool (allT (mk.take i))) rfl rfl ⟨by simp, by simp, by simp [allT_nil]⟩ ?_
    rintro j s1 hj ⟨k7, ko, k6⟩ f
    have m3 : s1.tm 3 = .osl 4225 2112 0 h.ks.length 1 := by rw [f.t 3 (by simp)]; simp [f3]
    have m4 : s1.tm 4 = .osl 4737 2368 0 h.ss.length 1 := by rw [f.t 4 (by simp)]; simp [f4]
    have md1 : s1.df = [] := by rw [f.d]; simp [fd]
    clear f
    by_cases hjt : j < h.ks.length
    · have hw := wrapU hjt (by omega)
      have hjm : j < mk.length := by omega
      have hio := idx_osl (l := 4225) (u := 2112) (n := h.ks.length) (kk := .i64) (x := (j : Int)) (by omega) (by omega)
      have hnx : allT (mk.take (j + 1)) = (allT (mk.take j) && mk[j]) := allT_succ hjm
      cases hb : allT (mk.take j)
      · rw [hb] at k6 hnx
        simp [k7, m3, hjt, k6, hw, ko]
        rw [hnx]; rfl
      · rw [hb] at k6 hnx
        simp [k7, m3, hjt, k6, hw, ko, hio, objCells, ok, hjm]
        rw [hnx]; rfl
    · have : j = h.ks.length := by omega
      subst this
      have hmt : mk.take h.ks.length = mk := List.take_of_length_le (by omega)
      rw [hmt] at k6
      simp [k7, m3]
      refine wp_loopUp [(6, 6), (8, 8), (82, 94)] h.ss.length (fun i s' => s'.tm 8 = .int .i64 i ∧ s'.ob = s.ob ∧ s'.tm 6 = .bool (allT mk && allT (md.take i))) rfl rfl ⟨by simp, by simp [ko], by simp [k6, allT_nil]⟩ ?_
      rintro j s2 hj ⟨z8, zo, z6⟩ f
      have y4 : s2.tm 4 = .osl 4737 2368 0 h.ss.length 1 := by rw [f.t 4 (by simp)]; simp [m4]
      have yd : s2.df = [] := by rw [f.d]; simp [md1]
      clear f
      by_cases hjt : j < h.ss.length
      · have hw := wrapU hjt (by omega)
        have hjm : j < md.length := by omega
        have hio := idx_osl (l := 4737) (u := 2368) (n := h.ss.length) (kk := .i64) (x := (j : Int)) (by omega) (by omega)
        have hnx : allT (md.take (j + 1)) = (allT (md.take j) && md[j]) := allT_succ hjm
        cases hb : (allT mk && allT (md.take j))
        · have hnx' : (allT mk && allT (md.take (j + 1))) = false := by rw [hnx, ← Bool.and_assoc, hb]; rfl
          rw [hb] at z6
          simp [z8, y4, hjt, z6, hw, zo]
          intro hm; rw [hm] at hnx'; exact hnx'
        · have hnx' : (allT mk && allT (md.take (j + 1))) = md[j] := by rw [hnx, ← Bool.and_assoc, hb]; rfl
          rw [hb] at z6
          simp [z8, y4, hjt, z6, hw, zo, hio, objCells, os, hjm]
          exact hnx'.symm
      · have : j = h.ss.length := by omega
        subst this
        have hmt : md.take h.ss.length = md := List.take_of_length_le (by omega)
        rw [hmt] at z6
        cases hb : (allT mk && allT md)
        · rw [hb] at z6 hR'
          simp [z8, y4, z6]
          exact endV_1 (by simp [yd]) (by simp [hR']) rfl
        · rw [hb] at z6 hR'
          simp [z8, y4, z6]
          exact endV_1 (by simp [yd]) (by simp [hR']) rfl
end Go.Pv.T

/- Which keys are kept. -/
namespace Go.Pv.T
open Go Go.Pv

section
variable {E : Env} {Yf : YF} {st : St} {ub : Nat} {K : St → Nat → Prop} {d : Option Nat} {nm : Bool}
theorem kS_buildSlO {sz n : Nat} {zero : List V} {parts : List (Nat × Nat × A)} {cs : List V} (hf : fill zero (evalParts (eval E st.tm) parts) = some cs) (hl : cs.length = n * sz) (hp : cs.all V.leaf = true)
    (h : kApp K st d ub { v := .osl (objName d nm st.fb ub) ub 0 n sz, obs := [(objName d nm st.fb ub, ⟨ub, .cells cs⟩)] }) : wpStep E Yf ⟨d, .buildSl true sz zero parts n, none, nm⟩ st ub K := by
  rw [wpStep_of _ rfl rfl]
  simp only [aop, hf, Option.bind_some, if_true, name_eq]
  rw [if_pos ⟨hl, hp⟩, mkObj, wpD_some]
  exact h
theorem kS_appendO_nil {sz bytes n : Nat} {cs ys : List V} {s x : A} (hs : eval E st.tm s = .sl none true n cs) (hx : slCells st.ob sz (eval E st.tm x) = some ys) (hne : ys ≠ []) (h0 : 0 < sz) (hp : ys.all V.leaf = true)
    (hb : (ys.length / sz) * bytes ≤ 140737488355328) (hb2 : ys.length / sz ≤ 140737488355328) (h : kApp K st d ub { v := .osl (objName d nm st.fb ub) ub 0 (ys.length / sz) sz, obs := [(objName d nm st.fb ub, ⟨ub, .cells ys⟩)] }) :
    wpStep E Yf ⟨d, .append true sz bytes s x, none, nm⟩ st ub K := by
  rw [wpStep_of _ rfl rfl]
  simp only [aop, hs, hx, Option.bind_some, if_neg hne, Bool.and_self, if_true, name_eq]
  rw [if_pos ⟨h0, hp, hb, hb2⟩, mkObj, wpD_some]
  exact h
theorem kS_appendO {sz bytes l u n : Nat} {cs ys : List V} {s x : A} (hs : eval E st.tm s = .osl l u 0 n sz) (hx : slCells st.ob sz (eval E st.tm x) = some ys) (ho : st.ob l = some ⟨u, .cells cs⟩) (hne : ys ≠ []) (hro : st.ro ≤ u) (hn : n * sz ≤ cs.length) (h0 : 0 < sz) (hp : ys.all V.leaf = true)
    (hb : (n + ys.length / sz) * bytes ≤ 140737488355328) (hb2 : n + ys.length / sz ≤ 140737488355328)
    (h : kApp K st d ub { v := .osl (objName d nm st.fb ub) ub 0 (n + ys.length / sz) sz, obs := [(objName d nm st.fb ub, ⟨ub, .cells (cs.take (n * sz) ++ ys)⟩)], kill := [l] }) :
    wpStep E Yf ⟨d, .append true sz bytes s x, none, nm⟩ st ub K := by
  rw [wpStep_of _ rfl rfl]
  have hoc : objCells st.ob l u = some cs := by simp [objCells, ho]
  simp only [aop, hs, hx, Option.bind_some, hoc, if_neg hne, name_eq]
  rw [if_pos ⟨Nat.ble_eq ▸ hro, trivial, trivial, hn, h0, hp, hb, hb2⟩, wpD_some]
  exact h
end
@[simp] theorem app_obk (st : St) (d : Option Nat) (v : V) (l k l' : Nat) (o' : Obj') : (st.app d { v := v, obs := [(l, o')], kill := [l'] }).ob k = if k = l then some o' else if k = l' then none else st.ob k := by
  have e : (Nat.beq k l') = decide (k = l') := by rw [Bool.eq_iff_iff]; simp
  simp only [St.app, setObs, upd_apply, List.any_cons, List.any_nil, Bool.or_false, e, decide_eq_true_eq]
theorem app_tkk (st : St) (d : Option Nat) (v : V) (obs : List (Nat × Obj')) (kl : List Nat) : (st.app d { v := v, obs := obs, kill := kl }).tk = st.tk := by
  funext u
  simp [app_tk]

theorem mfind_set {α : Type} {m : List (Int × α)} {k : Int} {a b : α} {i : Nat} (h : mfind m k = some (i, b)) (k' : Int) : (mfind (m.set i (k, a)) k').map (·.2) = if k' = k then some a else (mfind m k').map (·.2) := by
  induction m generalizing i with
  | nil => cases h
  | cons p m ih =>
    obtain ⟨q, c⟩ := p
    by_cases hk : k = q
    · simp only [mfind, hk, if_true, Option.some.injEq, Prod.mk.injEq] at h
      obtain ⟨rfl, rfl⟩ := h
      subst hk
      simp only [List.set_cons_zero, mfind]
      split <;> rfl
    · simp only [mfind, hk, if_false, Option.map_eq_some_iff, Prod.mk.injEq] at h
      obtain ⟨⟨j, b'⟩, hj, rfl, rfl⟩ := h
      simp only [List.set_cons_succ, mfind]
      by_cases hq : k' = q
      · have : ¬ q = k := fun e => hk e.symm
        simp [hq, this]
      · simp only [hq, if_false, Option.map_map]
        have := ih hj
        simpa [Function.comp_def] using this
theorem mfind_app {α : Type} {m : List (Int × α)} {k : Int} {a : α} (h : mfind m k = none) (k' : Int) : (mfind (m ++ [(k, a)]) k').map (·.2) = if k' = k then some a else (mfind m k').map (·.2) := by
  induction m with
  | nil => simp [mfind]; try (split <;> simp)
  | cons p m ih =>
    obtain ⟨q, c⟩ := p
    by_cases hk : k = q
    · simp [mfind, hk] at h
    · simp only [mfind, hk, if_false, Option.map_eq_none_iff] at h
      simp only [List.cons_append, mfind]
      by_cases hq : k' = q
      · have : ¬ q = k := fun e => hk e.symm
        simp [hq, this]
      · simp only [hq, if_false, Option.map_map]
        have := ih h
        simpa [Function.comp_def] using this
theorem mcnt_set (m : List (Int × Int)) (k a k' : Int) : mcnt (mset m k a) k' = if k' = k then a else mcnt m k' := by
  unfold mcnt mset
  cases h : mfind m k with
  | none => simp only []; rw [mfind_app h]; split <;> rfl
  | some p =>
    obtain ⟨i, b⟩ := p
    simp only []
    rw [mfind_set h]
    split <;> rfl

/-- A read that was not lost, or a write, of a key. -/
def keepB (o : Op') : Bool := !(o.v.kind == 2)
def cntK (k : Int) (l : List Op') : Nat := (l.filter fun o => o.key == k && keepB o).length
theorem cntK_snoc (k : Int) (l : List Op') (o : Op') : cntK k (l ++ [o]) = cntK k l + (if o.key == k && keepB o then 1 else 0) := by
  unfold cntK
  rw [List.filter_append, List.length_append]
  congr 1
  cases h : (o.key == k && keepB o) <;> simp [List.filter, h]
theorem cntK_le (k : Int) (l : List Op') : cntK k l ≤ l.length := List.length_filter_le _ _
def usedN (h : Hist') (k : Nat) : Bool := decide (0 < cntK k (opsOf h))
def keptTo (h : Hist') : Nat → List (List UInt8)
  | 0 => []
  | i + 1 => keptTo h i ++ (if usedN h i then [h.ks.getD i []] else [])
def toK (h : Hist') : Nat → Nat
  | 0 => 0
  | i + 1 => toK h i + (if usedN h i then 1 else 0)
theorem keptTo_len (h : Hist') : ∀ i, (keptTo h i).length = toK h i
  | 0 => rfl
  | i + 1 => by simp only [keptTo, toK, List.length_append, keptTo_len h i]; split <;> rfl
theorem toK_le (h : Hist') : ∀ i, toK h i ≤ i
  | 0 => Nat.le_refl _
  | i + 1 => by have := toK_le h i; simp only [toK]; split <;> omega
end Go.Pv.T

/- Which keys are kept: the walk. -/
namespace Go.Pv.T
open Go Go.Pv

/-- Numbers of the shared call of erase.kept: the map is behind 'ub'. -/
def KeysAt (ob : Nat → Option Obj') (ub : Nat) (l : List (List UInt8)) (v : V) : Prop :=
  (l = [] ∧ v = .sl none true 0 []) ∨ (l ≠ [] ∧ ∃ L u, v = .osl L u 0 l.length 1 ∧ ob L = some ⟨u, .cells (l.flatMap strC)⟩ ∧ ub ≤ u ∧ L = 2 * u + 1)

theorem opsTake {h : Hist'} {i k : Nat} (hi : i < h.ts.length) (hk : k ≤ (h.ts[i]).ops.length) (hs : Small h) : (opsTo h i k).length ≤ 1000 * 1000 + 1000 := by
  unfold opsTo
  rw [getD_lt hi, List.length_append]
  have h1 : ∀ l : List Txn', (∀ t ∈ l, t.ops.length ≤ 1000) → (l.flatMap (·.ops)).length ≤ l.length * 1000 := by
    intro l
    induction l with
    | nil => simp
    | cons t l ih =>
      intro hl
      have := ih (fun t ht => hl t (by simp [ht]))
      have := hl t (by simp)
      rw [List.flatMap_cons, List.length_append, List.length_cons, Nat.succ_mul]
      omega
  have h2 := h1 (h.ts.take i) (fun t ht => hs.os t (List.mem_of_mem_take ht))
  have h3 : (h.ts.take i).length ≤ 1000 := by have := hs.ts; rw [List.length_take]; omega
  have h4 := hs.os h.ts[i] (List.getElem_mem hi)
  have h5 : ((h.ts[i]).ops.take k).length ≤ 1000 := by rw [List.length_take]; omega
  have h6 : (h.ts.take i).length * 1000 ≤ 1000 * 1000 := Nat.mul_le_mul_right _ h3
  omega

set_option maxRecDepth 100000 in
theorem ev142 {Yf : YF} {h : Hist'} (hs : Small h) {ob : Nat → Option Obj'} {tk : Nat → Bool} {ro base ub : Nat} (hro : ro ≤ ub) :
    ∃ r, EvS E Yf.y 142 [.agg (histC h)] ob tk ro base ub r ∧ ∃ kv lm um ver m, r.1 = .tup [kv, .map lm um] ∧ KeysAt r.2.1 ub (keptTo h h.ks.length) kv ∧ lm = 2 * um + 1 ∧ ub ≤ um ∧ r.2.1 lm = some ⟨um, .mp ver (MP intV m)⟩ ∧
      (∀ k : Nat, k < h.ks.length → usedN h k = true → mcnt m k = toK h k) ∧ (∀ key, (∀ m, ub ≤ m → key ≠ 2 * m + 1) → r.2.1 key = ob key) ∧ r.2.2.1 = tk ∧ ub ≤ r.2.2.2 ∧ um < r.2.2.2 ∧ (∀ L u n, kv = .osl L u 0 n 1 → u < r.2.2.2) := by
  refine EvS_wp (af := S142) rfl (by decide) ?_
  show wpC E Yf S142.body _ (kEndS S142.res _)
  generalize hP : (fun r : V × (Nat → Option Obj') × (Nat → Bool) × Nat => ∃ kv lm um ver m, r.1 = .tup [kv, .map lm um] ∧ KeysAt r.2.1 ub (keptTo h h.ks.length) kv ∧ lm = 2 * um + 1 ∧ ub ≤ um ∧ r.2.1 lm = some ⟨um, .mp ver (MP intV m)⟩ ∧
      (∀ k : Nat, k < h.ks.length → usedN h k = true → mcnt m k = toK h k) ∧ (∀ key, (∀ m, ub ≤ m → key ≠ 2 * m + 1) → r.2.1 key = ob key) ∧ r.2.2.1 = tk ∧ ub ≤ r.2.2.2 ∧ um < r.2.2.2 ∧ (∀ L u n, kv = .osl L u 0 n 1 → u < r.2.2.2)) = P
  have hts := hs.ts
  have hks := hs.ks
  have z1 : ¬ 2 * ub = 2 * (ub + 64 + 64 + 64) := by omega
  have z2 : ¬ 2 * (ub + 64 + 64 + 64) = 2 * ub := by omega
  simp [S142, histC, objCells, z1]
  refine wp_loopUp [(4, 8), (13, 37)] h.ts.length (fun i s => s.tm 17 = .int .i64 i ∧ s.tm 4 = .map (2 * (ub + 64 + 64 + 64) + 1) (ub + 64 + 64 + 64) ∧ s.tm 15 = slOf h.tn txnC h.ts ∧ s.tm 16 = .int .i64 h.ts.length ∧ s.ob (2 * ub + 1) = some ⟨ub, .cells (histC h)⟩ ∧
    (∃ ver m, s.ob (2 * (ub + 64 + 64 + 64) + 1) = some ⟨ub + 64 + 64 + 64, .mp ver (MP intV m)⟩ ∧ ∀ k, mcnt m k = cntK k (opsTo h i 0)) ∧ (∀ key, (∀ m, ub ≤ m → key ≠ 2 * m + 1) → s.ob key = ob key) ∧ s.tk = tk ∧ ub + 256 ≤ s.nx) rfl rfl ?_ ?_
  · refine ⟨by simp, by simp, by simp, by simp, by simp [histC, z1], ⟨0, [], by simp [MP], fun k => by rw [opsTo_zero]; rfl⟩, ?_, by simp [app_tk0], by simp⟩
    intro key hm
    simp [hm ub (Nat.le_refl _), hm (ub + 64 + 64 + 64) (by omega)]
  · rintro i s hi ⟨h17, h4, h15, h16, oh, ⟨ver, m, om, hm⟩, hfr, htk, hnx⟩ f
    have f1 : s.tm 1 = .ptr (2 * ub + 1) ub 0 := by rw [f.t 1 (by simp)]; simp
    have fd : s.df = [] := by rw [f.d]; simp
    have fr : s.ro = ro := by rw [f.r]; simp
    have fb : s.fb = base := by rw [f.b]; simp
    clear f
    by_cases hlt : i < h.ts.length
    · have hw := wrapU hlt (by omega)
      have r1 : ro ≤ s.nx + 64 + 64 + 64 := by omega
      simp [h17, h15, h16, hlt, idx_slOf txnC_len, load_slOf txnC_len, txnC, objCells, fr, splice, r1]
      refine wp_loopUp [(8, 8), (24, 36)] (h.ts[i]).ops.length (fun k s' => s'.tm 24 = .int .i64 k ∧ s'.ob (2 * ub + 1) = some ⟨ub, .cells (histC h)⟩ ∧
        (∃ ver m, s'.ob (2 * (ub + 64 + 64 + 64) + 1) = some ⟨ub + 64 + 64 + 64, .mp ver (MP intV m)⟩ ∧ ∀ x, mcnt m x = cntK x (opsTo h i k)) ∧ (∀ key, (∀ m, ub ≤ m → key ≠ 2 * m + 1) → s'.ob key = ob key) ∧ s'.tk = tk ∧ ub + 256 ≤ s'.nx) rfl rfl ?_ ?_
      · refine ⟨by simp, ?_, ?_, ?_, by simp [app_tk0, htk], by simp; omega⟩
        · have x1 : ¬ 2 * ub = 2 * (s.nx + 64 + 64 + 64) := by omega
          simp [x1, oh]
        · have x1 : ¬ 2 * (ub + 64 + 64 + 64) = 2 * (s.nx + 64 + 64 + 64) := by omega
          exact ⟨ver, m, by simp [x1, om], hm⟩
        · intro key hk
          simp [hk (s.nx + 64 + 64 + 64) (by omega)]
          exact hfr key hk
      · rintro k s' hk ⟨h24, oh', ⟨ver', m', om', hm'⟩, hfr', htk', hnx'⟩ f
        have e4 : s'.tm 4 = .map (2 * (ub + 64 + 64 + 64) + 1) (ub + 64 + 64 + 64) := by rw [f.t 4 (by simp)]; simp [h4]
        have e22 : s'.tm 22 = slOf (h.ts[i]).nl opC (h.ts[i]).ops := by rw [f.t 22 (by simp)]; simp
        have e23 : s'.tm 23 = .int .i64 (h.ts[i]).ops.length := by rw [f.t 23 (by simp)]; simp
        have e15 : s'.tm 15 = slOf h.tn txnC h.ts := by rw [f.t 15 (by simp)]; simp [h15]
        have e16 : s'.tm 16 = .int .i64 h.ts.length := by rw [f.t 16 (by simp)]; simp [h16]
        have e17 : s'.tm 17 = .int .i64 i := by rw [f.t 17 (by simp)]; simp [h17]
        have ed : s'.df = [] := by rw [f.d]; simp [fd]
        have er : s'.ro = ro := by rw [f.r]; simp [fr]
        clear f
        have hos := hs.os h.ts[i] (List.getElem_mem hlt)
        by_cases hkt : k < (h.ts[i]).ops.length
        · have hw' := wrapU hkt (by omega)
          obtain ⟨o, ho⟩ : ∃ o, (h.ts[i]).ops[k] = o := ⟨_, rfl⟩
          have r2 : ro ≤ s'.nx + 64 + 64 + 64 := by omega
          have y1 : ¬ 2 * ub = 2 * (s'.nx + 64 + 64 + 64) := by omega
          have y2 : ¬ 2 * (ub + 64 + 64 + 64) = 2 * (s'.nx + 64 + 64 + 64) := by omega
          have y3 : ¬ 2 * ub = 2 * (ub + 64 + 64 + 64) := by omega
          have y4 : ¬ 2 * (s'.nx + 64 + 64 + 64) = 2 * (ub + 64 + 64 + 64) := by omega
          simp [h24, e22, e23, hkt, idx_slOf opC_len, load_slOf opC_len, ho, opC, objCells, er, splice, r2]
          refine kS_ev (ev143 o) (by simp [opC]) rfl (by simp [opC]) ?_
          have hstep := opsTo_step hlt hkt
          rw [ho] at hstep
          have hc : ∀ x, cntK x (opsTo h i (k + 1)) = cntK x (opsTo h i k) + (if o.key == x && keepB o then 1 else 0) := fun x => by rw [hstep, cntK_snoc]
          cases hl : (o.v.kind == 2)
          · have hkp : keepB o = true := by unfold keepB; rw [hl]; rfl
            have hbd := cntK_le o.key (opsTo h i k)
            have hbd2 := opsTake hlt (Nat.le_of_lt hkt) hs
            have hwv : IntKind.i64.wrap ((cntK o.key (opsTo h i k) : Int) + 1) = (cntK o.key (opsTo h i k) : Int) + 1 := wrap64' (by omega) (by omega)
            simp [objCells, lookupV_MI m', objMap, y2, om', e4, hm', hwv]
            refine kS_mapSet (f := intV) (a := (cntK o.key (opsTo h i k) : Int) + 1) (ver := ver') (l := 2 * (ub + 64 + 64 + 64) + 1) (u := ub + 64 + 64 + 64) (k := o.key) m' (by simp) (by simp) (by simp [intV]) (by simp [y2, om']) (by simp [er]; omega) ?_
            simp [h24, hw', y1, y3, oh']
            refine ⟨hkt, ⟨ver' + 1, mset m' o.key (cntK o.key (opsTo h i k) + 1), by simp, fun x => ?_⟩, ?_, by simpa [app_tk0] using htk', by omega⟩
            · rw [mcnt_set, hc, hm']
              by_cases hx : x = o.key
              · subst hx; simp [hkp]
              · have : (o.key == x) = false := by simpa using fun e => hx e.symm
                simp [hx, this]
            · intro key hk'
              rw [if_neg (hk' _ (by omega)), if_neg (hk' _ (by omega)), if_neg (hk' _ (by omega))]
              exact hfr' key hk'
          · have hkp : keepB o = false := by unfold keepB; rw [hl]; rfl
            simp [h24, hw', y1, y2, oh']
            refine ⟨hkt, ⟨ver', m', om', fun x => ?_⟩, ?_, by simpa [app_tk0] using htk', by omega⟩
            · rw [hc, hm', hkp]; simp
            · intro key hk'
              rw [if_neg (hk' _ (by omega)), if_neg (hk' _ (by omega))]
              exact hfr' key hk'
        · have : k = (h.ts[i]).ops.length := by omega
          subst this
          simp [h24, e23, e17, hw]
          exact ⟨hlt, e4, e15, e16, oh', ⟨ver', m', om', by rw [← opsTo_next hlt]; exact hm'⟩, hfr', htk', by omega⟩
    · have : i = h.ts.length := by omega
      subst this
      rw [opsTo_end] at hm
      have z3 : ¬ 2 * (s.nx + 64 + 64) = 2 * ub := by omega
      have z4 : ¬ 2 * ub = 2 * (s.nx + 64 + 64) := by omega
      have z5 : ¬ 2 * (ub + 64 + 64 + 64) = 2 * (s.nx + 64 + 64) := by omega
      simp [h17, h16, f1, oh, objCells, histC, z4]
      obtain ⟨um, hum⟩ : ∃ um, s.nx + 64 + 64 = um := ⟨_, rfl⟩
      rw [hum] at z3 z4 z5
      refine wp_loopUp [(9, 9), (11, 12), (42, 59)] h.ks.length (fun i w => w.tm 42 = .int .i64 i ∧ w.tm 4 = .map (2 * (ub + 64 + 64 + 64) + 1) (ub + 64 + 64 + 64) ∧ w.tm 10 = .map (2 * um + 1) um ∧
        w.ob (2 * (ub + 64 + 64 + 64) + 1) = some ⟨ub + 64 + 64 + 64, .mp ver (MP intV m)⟩ ∧ (∃ ver2 m2, w.ob (2 * um + 1) = some ⟨um, .mp ver2 (MP intV m2)⟩ ∧ ∀ k : Nat, k < i → usedN h k = true → mcnt m2 k = toK h k) ∧
        KeysAt w.ob (um + 1) (keptTo h i) (w.tm 9) ∧ (∀ L u n, w.tm 9 = .osl L u 0 n 1 → u < w.nx) ∧ (∀ key, (∀ m, ub ≤ m → key ≠ 2 * m + 1) → w.ob key = ob key) ∧ w.tk = tk ∧ um + 64 ≤ w.nx) rfl rfl ?_ ?_
      · refine ⟨by simp, by simp [h4], by simp [hum], by simp [hum, z5, om], ⟨0, [], by simp [hum, MP], fun k hk => by omega⟩, .inl ⟨rfl, by simp⟩, by simp, ?_, by simp [app_tk0, htk], by simp; omega⟩
        intro key hk
        simp [hum, hk um (by omega)]
        exact hfr key hk
      · rintro i w hi ⟨w42, w4, w10, q1, ⟨ver2, m2, q2, hm2⟩, hka, hun, hfr, htk, hnx⟩ f
        have w40 : w.tm 40 = slOf h.kn strC h.ks := by rw [f.t 40 (by simp)]; simp
        have w41 : w.tm 41 = .int .i64 h.ks.length := by rw [f.t 41 (by simp)]; simp
        have wd : w.df = [] := by rw [f.d]; simp [fd]
        have wr : w.ro = ro := by rw [f.r]; simp [fr]
        clear f
        by_cases hit : i < h.ks.length
        · have hw := wrapU hit (by omega)
          have hsi := str_at h.ks hit
          obtain ⟨c, hc⟩ : ∃ c, h.ks[i] = c := ⟨_, rfl⟩
          rw [hc] at hsi
          have hk1 : keptTo h (i + 1) = keptTo h i ++ (if usedN h i then [c] else []) := by rw [← hc, ← getD_lt (d := []) hit]; rfl
          simp [w42, w40, w41, hit, idx_slOf strC_len, hsi, w4, lookupV_MI m, objMap, q1, hm]
          by_cases hus : 0 < cntK (i : Int) (opsOf h)
          · have hu : usedN h i = true := by unfold usedN; simp [hus]
            rw [hu] at hk1
            simp only [if_true] at hk1
            have y1 : ¬ 2 * um = 2 * (w.nx + 64 + 64 + 64 + 64 + 64 + 64 + 64 + 64 + 64 + 64 + 64 + 64 + 64 + 64 + 64 + 64 + 64) := by omega
            have y2 : ¬ 2 * um = 2 * (w.nx + 64 + 64 + 64 + 64 + 64 + 64 + 64 + 64 + 64 + 64 + 64 + 64 + 64 + 64 + 64 + 64 + 64 + 64) := by omega
            have y3 : ¬ 2 * (ub + 64 + 64 + 64) = 2 * (w.nx + 64 + 64 + 64 + 64 + 64 + 64 + 64 + 64 + 64 + 64 + 64 + 64 + 64 + 64 + 64 + 64 + 64) := by omega
            have y4 : ¬ 2 * (ub + 64 + 64 + 64) = 2 * (w.nx + 64 + 64 + 64 + 64 + 64 + 64 + 64 + 64 + 64 + 64 + 64 + 64 + 64 + 64 + 64 + 64 + 64 + 64) := by omega
            have y5 : ¬ 2 * (ub + 64 + 64 + 64) = 2 * um := by omega
            have y6 : ¬ 2 * (w.nx + 64 + 64 + 64 + 64 + 64 + 64 + 64 + 64 + 64 + 64 + 64 + 64 + 64 + 64 + 64 + 64 + 64) = 2 * (w.nx + 64 + 64 + 64 + 64 + 64 + 64 + 64 + 64 + 64 + 64 + 64 + 64 + 64 + 64 + 64 + 64 + 64 + 64) := by omega
            have rX : ro ≤ w.nx + 64 + 64 + 64 + 64 + 64 + 64 + 64 + 64 + 64 + 64 + 64 + 64 + 64 + 64 + 64 + 64 + 64 := by omega
            have hnew : ∀ n : Nat, n = (keptTo h i).length → ∀ k : Nat, k < i + 1 → usedN h k = true → mcnt (mset m2 i n) k = toK h k := by
              intro n hn k hk huk
              rw [mcnt_set]
              by_cases hki : k = i
              · subst hki; simp [hn, keptTo_len]
              · have : ¬ (k : Int) = i := by omega
                rw [if_neg this]
                exact hm2 k (by omega) huk
            rcases hka with ⟨hnil, hv⟩ | ⟨hne, L, u, hv, hob, hle, hL⟩
            · have hlen0 := congrArg List.length hnil
              simp [hus, w10, hv]
              refine kS_mapSet (f := intV) (a := 0) (ver := ver2) (l := 2 * um + 1) (u := um) (k := (i : Int)) m2 (by simp) (by simp) (by simp [intV]) (by simp [q2]) (by simp [wr]; omega) ?_
              simp [hv]
              refine kS_buildSlO (cs := [.str c]) (by simp [splice]) rfl rfl ?_
              simp
              refine kS_appendO_nil (n := 0) (cs := []) (ys := [.str c]) (by simp) (by simp [slCells, objCells]) (by simp) (by decide) rfl (by simp) (by simp) ?_
              simp [w42, hw, w4, w10, y1, y2, y3, y4, y5, q1]
              refine ⟨hit, ⟨ver2 + 1, mset m2 i 0, ⟨rfl, rfl⟩, hnew 0 (by rw [hnil]; rfl)⟩, ?_, ?_, ?_, ?_⟩
              · rw [hk1, hnil]
                exact .inr ⟨by simp, 2 * (w.nx + 64 + 64 + 64 + 64 + 64 + 64 + 64 + 64 + 64 + 64 + 64 + 64 + 64 + 64 + 64 + 64 + 64 + 64) + 1, w.nx + 64 + 64 + 64 + 64 + 64 + 64 + 64 + 64 + 64 + 64 + 64 + 64 + 64 + 64 + 64 + 64 + 64 + 64, rfl, by simp [strC], by omega, rfl⟩
              · intro key hk
                simp [hk (w.nx + 64 + 64 + 64 + 64 + 64 + 64 + 64 + 64 + 64 + 64 + 64 + 64 + 64 + 64 + 64 + 64 + 64) (by omega), hk (w.nx + 64 + 64 + 64 + 64 + 64 + 64 + 64 + 64 + 64 + 64 + 64 + 64 + 64 + 64 + 64 + 64 + 64 + 64) (by omega), hk um (by omega)]
                exact hfr key hk
              · simp [app_tk0, htk]
              · omega
            · have hnl : ¬ 2 * L = 2 * um := by omega
              simp [hus, w10, hv]
              refine kS_mapSet (f := intV) (a := ((keptTo h i).length : Int)) (ver := ver2) (l := 2 * um + 1) (u := um) (k := (i : Int)) m2 (by simp) (by simp) (by simp [intV]) (by simp [q2]) (by simp [wr]; omega) ?_
              have hlen := toK_le h i
              rw [← keptTo_len] at hlen
              have hue := hun L u _ hv
              have v1 : ¬ 2 * um + 1 = L := by omega
              have v2 : ¬ L = 2 * um + 1 := by omega
              have v3 : ¬ L = 2 * (w.nx + 64 + 64 + 64 + 64 + 64 + 64 + 64 + 64 + 64 + 64 + 64 + 64 + 64 + 64 + 64 + 64 + 64) + 1 := by omega
              have v4 : ¬ 2 * (ub + 64 + 64 + 64) + 1 = L := by omega
              simp [hv]
              refine kS_buildSlO (cs := [.str c]) (by simp [splice]) rfl rfl ?_
              simp
              refine kS_appendO (l := L) (u := u) (n := (keptTo h i).length) (cs := (keptTo h i).flatMap strC) (ys := [.str c]) (by simp) (by simp [slCells, objCells]) (by simp [v2, v3, hob]) (by simp) (by simp [wr]; omega) (by rw [flatMap_len strC_len]; omega) (by decide) rfl (by simp; omega) (by simp; omega) ?_
              simp [w42, hw, w4, w10, y1, y2, y3, y4, y5, q1, v1, v4]
              refine ⟨hit, ⟨ver2 + 1, mset m2 i (keptTo h i).length, ⟨rfl, rfl⟩, hnew _ rfl⟩, ?_, ?_, ?_, ?_⟩
              · rw [hk1]
                refine .inr ⟨by simp, 2 * (w.nx + 64 + 64 + 64 + 64 + 64 + 64 + 64 + 64 + 64 + 64 + 64 + 64 + 64 + 64 + 64 + 64 + 64 + 64) + 1, w.nx + 64 + 64 + 64 + 64 + 64 + 64 + 64 + 64 + 64 + 64 + 64 + 64 + 64 + 64 + 64 + 64 + 64 + 64, by simp, ?_, by omega, rfl⟩
                simp [show strC c = [.str c] from rfl]
                exact List.take_of_length_le (by rw [flatMap_len strC_len]; omega)
              · intro key hk
                have vk : ¬ key = L := hL ▸ hk u (by omega)
                simp [hk (w.nx + 64 + 64 + 64 + 64 + 64 + 64 + 64 + 64 + 64 + 64 + 64 + 64 + 64 + 64 + 64 + 64 + 64) (by omega), hk (w.nx + 64 + 64 + 64 + 64 + 64 + 64 + 64 + 64 + 64 + 64 + 64 + 64 + 64 + 64 + 64 + 64 + 64 + 64) (by omega), hk um (by omega), vk]
                exact hfr key hk
              · simp [app_tkk, htk]
              · omega
          · have hu : usedN h i = false := by unfold usedN; simp [hus]
            rw [hu] at hk1
            simp only [Bool.false_eq_true, if_false, List.append_nil] at hk1
            simp [hus, w42, hw, w4, w10, q1]
            refine ⟨hit, ⟨ver2, m2, q2, fun k hk huk => ?_⟩, hk1 ▸ hka, ?_, hfr, htk, by omega⟩
            · by_cases hki : k = i
              · subst hki; rw [hu] at huk; cases huk
              · exact hm2 k (by omega) huk
            · intro L u n hv; have := hun L u n hv; omega
        · have : i = h.ks.length := by omega
          subst this
          simp [w42, w41, w10]
          refine ⟨(.tup [w.tm 9, .map (2 * um + 1) um], w.ob, w.tk, w.nx + 64 + 64 + 64 + 64 + 64), ?_, ?_⟩
          · simp [endS, resOf, wd]
          · rw [← hP]
            refine ⟨w.tm 9, 2 * um + 1, um, ver2, m2, rfl, ?_, rfl, by omega, q2, fun k hk huk => hm2 k hk huk, hfr, htk, ?_, ?_, ?_⟩
            · rcases hka with h' | ⟨hne, L, u, hv, hob, hle, hL⟩
              · exact .inl h'
              · exact .inr ⟨hne, L, u, hv, hob, by omega, hL⟩
            · show ub ≤ w.nx + 64 + 64 + 64 + 64 + 64
              omega
            · show um < w.nx + 64 + 64 + 64 + 64 + 64
              omega
            · intro L u n hv
              have := hun L u n hv
              show u < w.nx + 64 + 64 + 64 + 64 + 64
              omega
end Go.Pv.T

/- Histories without lost reads; histories in results. -/
namespace Go.Pv.T
open Go Go.Pv

@[simp] theorem cells_osl (a b c d e : Nat) : (V.osl a b c d e).cells = [.osl a b c d e] := rfl
@[simp] theorem leaf_osl (a b c d e : Nat) : (V.osl a b c d e).leaf = true := rfl
/-- A cell that comes out as a slice. -/
def SlOut (st : St) (v : V) (nl : Bool) (n : Nat) (cs : List V) : Prop := ∀ keep i, ∃ a, outLeaf st keep i v = some (.sl a nl n cs) ∧ (a = none ∨ ∃ z, a = some (i, z))
theorem slOut_sl (st : St) (t : Option (Nat × Nat)) (nl : Bool) (n : Nat) (cs : List V) : SlOut st (.sl t nl n cs) nl n cs := by
  intro keep i
  cases t with
  | none => exact ⟨none, rfl, .inl rfl⟩
  | some p =>
    obtain ⟨u, z⟩ := p
    refine ⟨_, rfl, ?_⟩
    split
    · exact .inr ⟨z, rfl⟩
    · exact .inl rfl
theorem solid_strs (st : St) (k : Nat) : ∀ l : List (List UInt8), (l.flatMap strC).mapM (solid st (k + 1)) = some (l.flatMap strC)
  | [] => rfl
  | a :: l => by
    rw [List.flatMap_cons]
    show ((V.str a) :: l.flatMap strC).mapM _ = _
    rw [List.mapM_cons, solid_strs st k l]
    rfl
theorem slOut_keys {st : St} {ub : Nat} {l : List (List UInt8)} {v : V} (h : KeysAt st.ob ub l v) (hro : st.ro ≤ ub) : SlOut st v l.isEmpty l.length (l.flatMap strC) := by
  rcases h with ⟨rfl, rfl⟩ | ⟨hne, L, u, rfl, hob, hle, hL⟩
  · exact slOut_sl st none true 0 []
  · intro keep i
    have hoc : objCells st.ob L u = some (l.flatMap strC) := by simp [objCells, hob]
    have hlen : (l.flatMap strC).length = l.length := by rw [flatMap_len strC_len]; omega
    have hemp : l.isEmpty = false := by cases l with | nil => exact absurd rfl hne | cons => rfl
    have hs : solid st 6 (.osl L u 0 l.length 1) = some (.sl none false l.length (l.flatMap strC)) := by
      show ((objCells st.ob L u).bind fun cs => if Nat.ble st.ro u = true ∧ 0 + l.length * 1 ≤ cs.length then (((cs.drop 0).take (l.length * 1)).mapM (solid st 5)).map fun cs' => V.sl none false l.length cs' else none) = _
      rw [hoc, Option.bind_some]
      rw [if_pos ⟨Nat.ble_eq ▸ (by omega : st.ro ≤ u), by omega⟩]
      rw [List.drop_zero, Nat.mul_one, List.take_of_length_le (by omega), solid_strs]
      rfl
    refine ⟨_, by simp only [outLeaf, hs, Option.bind_some, hoc, Option.map_some, hemp]; rfl, ?_⟩
    split
    · exact .inr ⟨_, rfl⟩
    · exact .inl rfl
/-- A history in a result. -/
def HistR (r : V) (g : Hist') : Prop := ∃ a b c : Option (Nat × Nat), r = .agg [.sl a g.sn g.ss.length (g.ss.flatMap strC), .sl b g.kn g.ks.length (g.ks.flatMap strC), .sl c g.tn g.ts.length (g.ts.flatMap txnC)] ∧ (∀ p ∈ a.toList ++ b.toList ++ c.toList, p.1 < 64)
theorem toks_sl (a : Option (Nat × Nat)) (nl : Bool) (n : Nat) (cs : List V) : (V.sl a nl n cs).tok = a.toList.map (·.1) := by
  cases a with
  | none => rfl
  | some p => rfl
theorem toks3 (x y z : V) (e : Int) : List.flatMap V.toks [.agg [x, y, z], .int .i64 e] = x.tok ++ (y.tok ++ z.tok) := by
  simp [V.toks, show (V.int .i64 e).tok = [] from rfl]
theorem endH3 {st : St} {p q l u : Nat} {x y z : V} {e : Int} {g : Hist'} (hd : st.df = []) (hp : st.tm p = .ptr l u 0) (ho : st.ob l = some ⟨u, .cells [x, y, z]⟩) (he : st.tm q = .int .i64 e)
    (hx : SlOut st x g.sn g.ss.length (g.ss.flatMap strC)) (hy : SlOut st y g.kn g.ks.length (g.ks.flatMap strC)) (hz : SlOut st z g.tn g.ts.length (g.ts.flatMap txnC)) : ∃ r, endV [.cell p (some 3), .t q] (.ret, st) = some (.tup [r, .int .i64 e]) ∧ HistR r g := by
  have h1 : (objCells st.ob l u) = some [x, y, z] := by simp [objCells, ho]
  have hres : [ARes.cell p (some 3), ARes.t q].mapM (resOf st) = some [.agg [x, y, z], .int .i64 e] := by
    simp [resOf, hp, h1, he]
  obtain ⟨a, ha, ha'⟩ := hx (nodup (List.flatMap V.toks [.agg [x, y, z], .int .i64 e])) 0
  obtain ⟨b, hb, hb'⟩ := hy (nodup (List.flatMap V.toks [.agg [x, y, z], .int .i64 e])) 1
  obtain ⟨c, hc, hc'⟩ := hz (nodup (List.flatMap V.toks [.agg [x, y, z], .int .i64 e])) 2
  refine ⟨.agg [.sl a g.sn g.ss.length (g.ss.flatMap strC), .sl b g.kn g.ks.length (g.ks.flatMap strC), .sl c g.tn g.ts.length (g.ts.flatMap txnC)], ?_, a, b, c, rfl, ?_⟩
  · simp only [endV, dfOk_of hd, noDf_of hd, if_true, hres, Option.bind_some, outRes]
    generalize nodup (List.flatMap V.toks [.agg [x, y, z], .int .i64 e]) = keep at *
    have hint : outTop st keep 16 (.int .i64 e) = some (.int .i64 e) := rfl
    simp only [outTops, outTop, outList, ha, hb, hc, Nat.zero_add, Option.bind_some, Option.map_some]
    have hnd : nodup (List.flatMap V.toks [.agg [.sl a g.sn g.ss.length (g.ss.flatMap strC), .sl b g.kn g.ks.length (g.ks.flatMap strC), .sl c g.tn g.ts.length (g.ts.flatMap txnC)], .int .i64 e]) = true := by
      rw [toks3, toks_sl, toks_sl, toks_sl]
      rcases ha' with rfl | ⟨_, rfl⟩ <;> rcases hb' with rfl | ⟨_, rfl⟩ <;> rcases hc' with rfl | ⟨_, rfl⟩ <;> rfl
    show (if nodup (List.flatMap V.toks [.agg [.sl a g.sn g.ss.length (g.ss.flatMap strC), .sl b g.kn g.ks.length (g.ks.flatMap strC), .sl c g.tn g.ts.length (g.ts.flatMap txnC)], .int .i64 e]) = true then some (V.tup [.agg [.sl a g.sn g.ss.length (g.ss.flatMap strC), .sl b g.kn g.ks.length (g.ks.flatMap strC), .sl c g.tn g.ts.length (g.ts.flatMap txnC)], .int .i64 e]) else none) = _
    rw [if_pos hnd]
  · intro p hp
    simp only [List.mem_append] at hp
    rcases hp with (hp | hp) | hp
    · rcases ha' with rfl | ⟨_, rfl⟩
      · simp at hp
      · simp at hp; subst hp; simp
    · rcases hb' with rfl | ⟨_, rfl⟩
      · simp at hp
      · simp at hp; subst hp; simp
    · rcases hc' with rfl | ⟨_, rfl⟩
      · simp at hp
      · simp at hp; subst hp; simp
theorem tokm {a : Option (Nat × Nat)} {nl : Bool} {n : Nat} {cs : List V} {i : Nat} : i ∈ (V.sl a nl n cs).tok ↔ ∃ p ∈ a.toList, p.1 = i := by rw [toks_sl, List.mem_map]
/-- What a caller has of it. -/
theorem retA_hist {ub : Nat} {r : V} {g : Hist'} {e : Int} (h : HistR r g) : ∃ a b c add, retA ub (.tup [r, .int .i64 e]) = some { v := .tup [.agg [.sl a g.sn g.ss.length (g.ss.flatMap strC), .sl b g.kn g.ks.length (g.ks.flatMap strC), .sl c g.tn g.ts.length (g.ts.flatMap txnC)], .int .i64 e], add := add } := by
  obtain ⟨a, b, c, rfl, hlt⟩ := h
  have hall : (toksRes (.tup [.agg [.sl a g.sn g.ss.length (g.ss.flatMap strC), .sl b g.kn g.ks.length (g.ks.flatMap strC), .sl c g.tn g.ts.length (g.ts.flatMap txnC)], .int .i64 e])).all (fun i => Nat.blt i 64) = true := by
    show (List.flatMap V.toks [.agg [.sl a g.sn g.ss.length (g.ss.flatMap strC), .sl b g.kn g.ks.length (g.ks.flatMap strC), .sl c g.tn g.ts.length (g.ts.flatMap txnC)], .int .i64 e]).all _ = true
    rw [toks3, List.all_eq_true]
    intro i hi
    have : ∃ p ∈ a.toList ++ b.toList ++ c.toList, p.1 = i := by
      rw [List.mem_append, List.mem_append, tokm, tokm, tokm] at hi
      rcases hi with ⟨p, hp, h⟩ | ⟨p, hp, h⟩ | ⟨p, hp, h⟩
      · exact ⟨p, by simp [hp], h⟩
      · exact ⟨p, by simp [hp], h⟩
      · exact ⟨p, by simp [hp], h⟩
    obtain ⟨p, hp, rfl⟩ := this
    rw [Nat.blt_eq]
    exact hlt p hp
  have hin : ∀ (t : Option (Nat × Nat)) (nl : Bool) (n : Nat) (cs : List V), ∃ t', inLeaf ub (.sl t nl n cs) = .sl t' nl n cs := fun t nl n cs => by
    cases t with
    | none => exact ⟨none, rfl⟩
    | some p => exact ⟨_, rfl⟩
  obtain ⟨a', ha⟩ := hin a g.sn g.ss.length (g.ss.flatMap strC)
  obtain ⟨b', hb⟩ := hin b g.kn g.ks.length (g.ks.flatMap strC)
  obtain ⟨c', hc⟩ := hin c g.tn g.ts.length (g.ts.flatMap txnC)
  refine ⟨a', b', c', (toksRes (.tup [.agg [.sl a g.sn g.ss.length (g.ss.flatMap strC), .sl b g.kn g.ks.length (g.ks.flatMap strC), .sl c g.tn g.ts.length (g.ts.flatMap txnC)], .int .i64 e])).map (ub + ·), ?_⟩
  rw [retA, if_pos hall]
  have hin2 : inRes ub (.tup [.agg [.sl a g.sn g.ss.length (g.ss.flatMap strC), .sl b g.kn g.ks.length (g.ks.flatMap strC), .sl c g.tn g.ts.length (g.ts.flatMap txnC)], .int .i64 e]) =
      .tup [.agg [inLeaf ub (.sl a g.sn g.ss.length (g.ss.flatMap strC)), inLeaf ub (.sl b g.kn g.ks.length (g.ks.flatMap strC)), inLeaf ub (.sl c g.tn g.ts.length (g.ts.flatMap txnC))], .int .i64 e] := rfl
  rw [hin2, ha, hb, hc]
end Go.Pv.T

/- Slices that grow; erase.Of. -/
namespace Go.Pv.T
open Go Go.Pv

/-- A slice that is being made. -/
def Grow {α : Type} (tk : Nat → Bool) (lo nx : Nat) (f : α → List V) (sz : Nat) (l : List α) (v : V) : Prop :=
  (l = [] ∧ v = .sl none true 0 []) ∨ (l ≠ [] ∧ ∃ u, v = .sl (some (u, sz)) false l.length (l.flatMap f) ∧ tk u = true ∧ lo ≤ u ∧ u < nx)
theorem Grow.nil {α : Type} (tk : Nat → Bool) (lo nx : Nat) (f : α → List V) (sz : Nat) : Grow tk lo nx f sz [] (.sl none true 0 []) := .inl ⟨rfl, rfl⟩
theorem Grow.form {α : Type} {tk : Nat → Bool} {lo nx : Nat} {f : α → List V} {sz : Nat} {l : List α} {v : V} (h : Grow tk lo nx f sz l v) : ∃ t, v = .sl t l.isEmpty l.length (l.flatMap f) := by
  rcases h with ⟨rfl, rfl⟩ | ⟨hne, u, rfl, _⟩
  · exact ⟨none, rfl⟩
  · cases l with
    | nil => exact absurd rfl hne
    | cons a l => exact ⟨_, rfl⟩
theorem Grow.mono {α : Type} {tk tk' : Nat → Bool} {lo nx nx' : Nat} {f : α → List V} {sz : Nat} {l : List α} {v : V} (h : Grow tk lo nx f sz l v) (ht : ∀ u, lo ≤ u → u < nx → tk u = true → tk' u = true) (hn : nx ≤ nx') : Grow tk' lo nx' f sz l v := by
  rcases h with h | ⟨hne, u, hv, h1, h2, h3⟩
  · exact .inl h
  · exact .inr ⟨hne, u, hv, ht u h2 h3 h1, h2, by omega⟩
section
variable {E : Env} {Yf : YF} {st : St} {ub : Nat} {K : St → Nat → Prop} {d : Option Nat} {nm : Bool}
theorem kS_appendG {α : Type} {f : α → List V} {sz bytes lo hi : Nat} {l : List α} {a : α} {v : V} {s x : A} (hg : Grow st.tk lo hi f sz l v) (hs : eval E st.tm s = v) (hx : slCells st.ob sz (eval E st.tm x) = some (f a)) (hf : ∀ a, (f a).length = sz) (h0 : 0 < sz)
    (hp : (f a).all V.pureLeaf = true) (hb : (l.length + 1) * bytes ≤ 140737488355328) (hb2 : l.length + 1 ≤ 140737488355328)
    (h : ∀ del : Option Nat, (∀ u, del = some u → lo ≤ u ∧ u < hi) → kApp K st d ub { v := .sl (some (ub, sz)) false (l.length + 1) ((l ++ [a]).flatMap f), del := del, add := [ub] }) : wpStep E Yf ⟨d, .append false sz bytes s x, none, nm⟩ st ub K := by
  have hne : f a ≠ [] := fun e => by have := hf a; rw [e] at this; simp at this; omega
  have h1 : (f a).length / sz = 1 := by rw [hf]; exact Nat.div_self h0
  rcases hg with ⟨rfl, rfl⟩ | ⟨hl, u, rfl, ht, h2, h3⟩
  · refine kS_append_nil hs hx hne h0 hp (by rw [h1]; simpa using hb) (by rw [h1]; simp) ?_
    rw [h1]
    have := h none (fun u e => by cases e)
    simpa using this
  · refine kS_append_tok hs ht hx hne (by rw [flatMap_len hf]) h0 hp (by rw [h1]; exact hb) (by rw [h1]; exact hb2) ?_
    rw [h1]
    have := h (some u) (fun u' e => by cases e; exact ⟨h2, h3⟩)
    simpa using this
theorem kS_append_all {α : Type} {f : α → List V} {sz bytes : Nat} {l : List α} {s x : A} (hs : eval E st.tm s = .sl none true 0 []) (hx : slCells st.ob sz (eval E st.tm x) = some (l.flatMap f)) (hf : ∀ a, (f a).length = sz) (h0 : 0 < sz)
    (hp : (l.flatMap f).all V.pureLeaf = true) (hb : l.length * bytes ≤ 140737488355328) (hb2 : l.length ≤ 140737488355328)
    (h : ∀ (t : Option (Nat × Nat)) (add : List Nat), (∀ u ∈ add, u = ub) → kApp K st d ub { v := .sl t l.isEmpty l.length (l.flatMap f), add := add }) : wpStep E Yf ⟨d, .append false sz bytes s x, none, nm⟩ st ub K := by
  cases l with
  | nil =>
    rw [wpStep_of _ rfl rfl]
    simp only [aop, hs, hx, Option.bind_some, List.flatMap_nil, if_true, List.length_nil, Nat.zero_mul, wpD_one]
    exact h none [] (fun u hu => by cases hu)
  | cons a l =>
    have h1 : ((a :: l).flatMap f).length / sz = (a :: l).length := by rw [flatMap_len hf]; exact Nat.mul_div_cancel _ h0
    have hne : (a :: l).flatMap f ≠ [] := fun e => by have := congrArg List.length e; rw [flatMap_len hf] at this; have := Nat.mul_pos (show 0 < (a :: l).length by simp) h0; simp_all
    refine kS_append_nil hs hx hne h0 hp (by rw [h1, Nat.zero_add]; exact hb) (by rw [h1, Nat.zero_add]; exact hb2) ?_
    rw [h1, Nat.zero_add, List.nil_append]
    exact h _ [ub] (fun u hu => by simpa using hu)
end
theorem slCells_slOf {α : Type} {f : α → List V} {k : Nat} (hf : ∀ a, (f a).length = k) (ob : Nat → Option Obj') (nl : Bool) (l : List α) : slCells ob k (slOf nl f l) = some (l.flatMap f) := by
  simp only [slOf, slCells, flatMap_len hf, if_true]
theorem strs_pure (l : List (List UInt8)) : (l.flatMap strC).all V.pureLeaf = true := by
  rw [List.all_eq_true]
  intro x hx
  obtain ⟨a, _, ha⟩ := List.mem_flatMap.1 hx
  simp [strC] at ha
  subst ha
  rfl

def reK (h : Hist') (o : Op') : Op' := { o with key := (toK h o.key.toNat : Nat) }
def erOps (h : Hist') (l : List Op') : List Op' := (l.filter keepB).map (reK h)
def erT (h : Hist') (t : Txn') : Txn' := { t with nl := (erOps h t.ops).isEmpty, ops := erOps h t.ops }
def erP (h : Hist') : Hist' := ⟨h.ss.isEmpty, h.ss, (keptTo h h.ks.length).isEmpty, keptTo h h.ks.length, h.ts.isEmpty, h.ts.map (erT h)⟩
def zeroH : Hist' := ⟨true, [], true, [], true, []⟩
theorem erOps_snoc (h : Hist') (l : List Op') (o : Op') : erOps h (l ++ [o]) = erOps h l ++ (if keepB o then [reK h o] else []) := by
  unfold erOps
  rw [List.filter_append, List.map_append]
  congr 1
  cases hk : keepB o <;> simp [List.filter, hk]
theorem erOps_le (h : Hist') (l : List Op') : (erOps h l).length ≤ l.length := by unfold erOps; rw [List.length_map]; exact List.length_filter_le _ _
theorem may_ops {h : Hist'} (hm : mayH h = true) {o : Op'} (ho : o ∈ opsOf h) : 0 ≤ o.key ∧ o.key < h.ks.length := by
  unfold mayH at hm
  simp only [Bool.and_eq_true] at hm
  have := List.all_eq_true.1 hm.2.2.1 o ho
  unfold opB at this
  rw [Bool.and_eq_true] at this
  exact within_iff.1 this.1
theorem used_of {h : Hist'} {o : Op'} (ho : o ∈ opsOf h) (hk : keepB o = true) (h0 : 0 ≤ o.key) : usedN h o.key.toNat = true := by
  unfold usedN cntK
  rw [decide_eq_true_eq, List.length_pos_iff_exists_mem]
  exact ⟨o, List.mem_filter.2 ⟨ho, by simp [hk]; omega⟩⟩
end Go.Pv.T

/- erase.Of. -/
namespace Go.Pv.T
open Go Go.Pv

def kEndE (res : List ARes) (P : V → Prop) : Ex → St → Prop := fun e s => ∃ r, endV res (e, s) = some r ∧ P r
theorem Ev_wpE {f : FuncId} {af : AF} {args : List V} {P : V → Prop} (hf : E.fc f = some af) (h1 : af.body.one = true) (h : wpC E noYF af.body (start args) (kEndE af.res P)) : ∃ r, Ev E f args r ∧ P r := by
  obtain ⟨n, x, hx, r, hr, hP⟩ := one_of h1 h
  refine ⟨r, ⟨n + 1, ?_⟩, hP⟩
  simp only [callers, hf, Option.bind_some]
  rw [show codeL E (callers E n) noY n af.body (start args) = some [x] from hx]
  exact one1_of (List.cons_ne_nil _ _) (fun y hy => by rw [List.mem_singleton] at hy; subst hy; exact hr)
theorem slOut_zero (st : St) : SlOut st (.sl none true 0 []) true 0 [] := slOut_sl st none true 0 []
theorem hist_end {st : St} {p q l u : Nat} {x y z : V} {e : Int} {g : Hist'} {P : V → Prop} (hP : ∀ r, HistR r g → P (.tup [r, .int .i64 e])) (hd : st.df = []) (hp : st.tm p = .ptr l u 0) (ho : st.ob l = some ⟨u, .cells [x, y, z]⟩) (he : st.tm q = .int .i64 e)
    (hx : SlOut st x g.sn g.ss.length (g.ss.flatMap strC)) (hy : SlOut st y g.kn g.ks.length (g.ks.flatMap strC)) (hz : SlOut st z g.tn g.ts.length (g.ts.flatMap txnC)) : kEndE [.cell p (some 3), .t q] P .ret st := by
  obtain ⟨r, h1, h2⟩ := endH3 hd hp ho he hx hy hz
  exact ⟨_, h1, hP r h2⟩
def HP (g : Hist') (e : Int) (v : V) : Prop := ∃ r, v = .tup [r, .int .i64 e] ∧ HistR r g
theorem HP_of {g : Hist'} {e : Int} : ∀ r, HistR r g → HP g e (.tup [r, .int .i64 e]) := fun r h => ⟨r, rfl, h⟩

theorem ex_and {α : Type} {A B C : α → Prop} (h : ∃ r, A r ∧ C r) (h2 : ∀ r, C r → B r) : ∃ r, A r ∧ B r := by
  obtain ⟨r, h1, h3⟩ := h
  exact ⟨r, h1, h2 r h3⟩
set_option maxRecDepth 100000 in
theorem ev98 {h : Hist'} (hs : Small h) : ∃ v, Ev E 98 [.agg (histC h)] v ∧ HP (if mayH h then erP h else zeroH) (errH h) v := by
  have e70 := ev70 hs
  have hts := hs.ts
  have hks := hs.ks
  have hss := hs.ss
  refine Ev_wpE (af := F98) rfl (by decide) ?_
  cases hm : mayH h
  case false =>
    have he : errH h = 4 := by unfold errH; rw [hm]; rfl
    rw [he] at e70 ⊢
    simp [F98, histC, objCells]
    refine kS_ev e70 (by simp [histC]) rfl (by simp [histC]) ?_
    simp [objCells, splice]
    exact hist_end (g := zeroH) (l := 4) (u := 64) HP_of rfl (by simp) (by simp) (by simp) (slOut_zero _) (slOut_zero _) (slOut_zero _)
  case true =>
    have he : errH h = 0 := by unfold errH; rw [hm]; rfl
    rw [he] at e70 ⊢
    generalize hP : HP (if true = true then erP h else zeroH) 0 = P
    simp [F98, histC, objCells]
    refine kS_ev e70 (by simp [histC]) rfl (by simp [histC]) ?_
    simp [objCells]
    refine kS_callS (vs := [.agg (histC h)]) (by simp [histC]) rfl ?_
    refine ex_and (ev142 (Yf := noYF) hs (Nat.zero_le _)) ?_
    rintro ⟨r1, ob, tk, ub⟩ ⟨kv, lm, um, ver, m, e1, hka, hlm, hum, hmp, hmc, hfr, htk, hub, humx, hkx⟩
    simp only at e1 hka hmp hfr htk hub humx hkx
    subst e1
    have o2 : ob 2 = some ⟨0, .cells (histC h)⟩ := by rw [hfr 2 (fun m _ => by omega)]; simp [histC]
    have o4 : ob 4 = some ⟨64, .cells [.sl none true 0 [], .sl none true 0 [], .sl none true 0 []]⟩ := by rw [hfr 4 (fun m _ => by omega)]; simp
    have hum0 : 0 < ub := by omega
    clear hfr htk hub
    simp [put, upd_apply, o2, objCells, histC]
    refine step_gen fun s0 hs0 => ?_
    have a1 : s0.tm 1 = .ptr 2 0 0 := by rw [hs0]; simp [upd_apply]
    have a2 : s0.tm 2 = .ptr 4 64 0 := by rw [hs0]; simp [upd_apply]
    have a5 : s0.tm 5 = kv := by rw [hs0]; simp
    have a6 : s0.tm 6 = .map lm um := by rw [hs0]; simp
    have a25 : s0.tm 25 = slOf h.sn strC h.ss := by rw [hs0]; simp
    have aob : s0.ob = ob := by rw [hs0]; simp
    have ad : s0.df = [] := by rw [hs0]; simp
    have ab : s0.fb = 0 := by rw [hs0]; simp
    have ar : s0.ro = 0 := by rw [hs0]; simp
    clear hs0
    refine kS_append_all (f := strC) (l := h.ss) (by simp) (by simp [a25, slCells_slOf strC_len]) strC_len (by decide) (strs_pure _) (by omega) (by omega) (fun ta add hadd => ?_)
    have hkl : kv.leaf = true ∧ kv.cells = [kv] := by
      rcases hka with ⟨_, rfl⟩ | ⟨_, L, u, rfl, _⟩
      · exact ⟨rfl, rfl⟩
      · exact ⟨rfl, rfl⟩
    simp [a5, hkl, splice, objCells, ab, ar, a1, aob, o2, histC]
    refine wpC_gen fun st hst => ?_
    have g1 : st.tm 1 = .ptr 2 0 0 := by rw [hst]; simp [a1]
    have g2 : st.tm 2 = .ptr 4 64 0 := by rw [hst]; simp [a2]
    have g6 : st.tm 6 = .map lm um := by rw [hst]; simp [a6]
    have g7 : st.tm 7 = .ptr 14 (ub + 64 + 64 + 64 + 64 + 64 + 64 + 64 + 64 + 64 + 64) 0 := by rw [hst]; simp
    have g30 : st.tm 30 = slOf h.tn txnC h.ts := by rw [hst]; simp
    have g31 : st.tm 31 = .int .i64 h.ts.length := by rw [hst]; simp
    have g32 : st.tm 32 = .int .i64 0 := by rw [hst]; simp
    have p4 : st.ob 4 = some ⟨64, .cells [.sl none true 0 [], .sl none true 0 [], .sl none true 0 []]⟩ := by rw [hst]; simp [aob, o4]
    have p14 : st.ob 14 = some ⟨ub + 64 + 64 + 64 + 64 + 64 + 64 + 64 + 64 + 64 + 64, .cells [.sl ta h.ss.isEmpty h.ss.length (h.ss.flatMap strC), kv, .sl none true 0 []]⟩ := by rw [hst]; simp
    have hodd : ∀ {w : Nat}, lm = w → w % 2 = 1 := fun e => by omega
    have hlm14 : ¬ lm = 14 := by omega
    have pm : st.ob lm = some ⟨um, .mp ver (MP intV m)⟩ := by rw [hst]; simp [aob, hmp, hlm14]
    have pk : KeysAt st.ob 0 (keptTo h h.ks.length) kv := by
      rcases hka with h' | ⟨hne, L, u, hv, hob, hle, hL⟩
      · exact .inl h'
      · have : ¬ L = 14 := by omega
        exact .inr ⟨hne, L, u, hv, by rw [hst]; simp [aob, hob, this], by omega, hL⟩
    have gd : st.df = [] := by rw [hst]; simp [ad]
    have gb : st.fb = 0 := by rw [hst]; simp [ab]
    have gr : st.ro = 0 := by rw [hst]; simp [ar]
    have gn : ub + 64 + 64 + 64 + 64 + 64 + 64 + 64 + 64 + 64 + 64 < st.nx := by rw [hst]; simp
    clear hst a1 a2 a5 a6 a25 aob ad ab ar hmp hka hkx
    generalize ub + 64 + 64 + 64 + 64 + 64 + 64 + 64 + 64 + 64 + 64 = U7 at *
    have hlow : ∀ {o : Op'}, o ∈ opsOf h → keepB o = true → mcnt m o.key = toK h o.key.toNat := fun {o} ho hk => by
      have h1 := may_ops hm ho
      have h2 := hmc o.key.toNat (by omega) (used_of ho hk h1.1)
      rw [← h2]
      congr 1
      omega
    refine wp_loopUp [(9, 12), (32, 64)] h.ts.length (fun i s => s.tm 32 = .int .i64 i ∧ s.ob 4 = some ⟨64, .cells [.sl none true 0 [], .sl none true 0 [], .sl none true 0 []]⟩ ∧ s.ob lm = some ⟨um, .mp ver (MP intV m)⟩ ∧ KeysAt s.ob 0 (keptTo h h.ks.length) kv ∧
      (∃ Lv, s.ob 14 = some ⟨U7, .cells [.sl ta h.ss.isEmpty h.ss.length (h.ss.flatMap strC), kv, Lv]⟩ ∧ Grow s.tk 0 s.nx txnC 3 ((h.ts.take i).map (erT h)) Lv) ∧ U7 < s.nx) rfl rfl ⟨g32, p4, pm, pk, ⟨_, p14, by simpa using Grow.nil _ _ _ _ _⟩, gn⟩ ?_
    rintro i s hi ⟨h32, q4, qm, qk, ⟨Lv, q14, hG⟩, hnx⟩ f
    have f1 : s.tm 30 = slOf h.tn txnC h.ts := by rw [f.t 30 (by simp), g30]
    have f2 : s.tm 31 = .int .i64 h.ts.length := by rw [f.t 31 (by simp), g31]
    have f6 : s.tm 6 = .map lm um := by rw [f.t 6 (by simp), g6]
    have f7 : s.tm 7 = .ptr 14 U7 0 := by rw [f.t 7 (by simp), g7]
    have fm2 : s.tm 2 = .ptr 4 64 0 := by rw [f.t 2 (by simp), g2]
    have fd : s.df = [] := by rw [f.d, gd]
    have fb : s.fb = 0 := by rw [f.b, gb]
    have fr : s.ro = 0 := by rw [f.r, gr]
    clear f
    by_cases hlt : i < h.ts.length
    · have hw := wrapU hlt (by omega)
      obtain ⟨t, ht⟩ : ∃ t, h.ts[i] = t := ⟨_, rfl⟩
      have htm : t ∈ h.ts := ht ▸ List.getElem_mem hlt
      have hos := hs.os t htm
      have hl3 := load_slOf txnC_len s.ob h.ts hlt
      rw [ht] at hl3
      simp [h32, f1, f2, hlt, idx_slOf txnC_len, load_slOf txnC_len, ht, txnC, objCells, fb, fr, splice]
      refine wpC_gen fun s1 hs1 => ?_
      have b6 : s1.tm 6 = .map lm um := by rw [hs1]; simp [f6]
      have b7 : s1.tm 7 = .ptr 14 U7 0 := by rw [hs1]; simp [f7]
      have b30 : s1.tm 30 = slOf h.tn txnC h.ts := by rw [hs1]; simp [f1]
      have b31 : s1.tm 31 = .int .i64 h.ts.length := by rw [hs1]; simp [f2]
      have b32 : s1.tm 32 = .int .i64 i := by rw [hs1]; simp [h32]
      have b10 : s1.tm 10 = .sl none true 0 [] := by rw [hs1]; simp
      have b37 : s1.tm 37 = slOf t.nl opC t.ops := by rw [hs1]; simp
      have b38 : s1.tm 38 = .int .i64 t.ops.length := by rw [hs1]; simp
      have b39 : s1.tm 39 = .int .i64 0 := by rw [hs1]; simp
      have b9 : s1.tm 9 = .ptr 18 (s.nx + 64 + 64 + 64) 0 := by rw [hs1]; simp
      have c4 : s1.ob 4 = some ⟨64, .cells [.sl none true 0 [], .sl none true 0 [], .sl none true 0 []]⟩ := by rw [hs1]; simp [q4]
      have c14 : s1.ob 14 = some ⟨U7, .cells [.sl ta h.ss.isEmpty h.ss.length (h.ss.flatMap strC), kv, Lv]⟩ := by rw [hs1]; simp [q14]
      have c18 : s1.ob 18 = some ⟨s.nx + 64 + 64 + 64, .cells [.int .i64 t.s, .int .i64 t.f, slOf t.nl opC t.ops]⟩ := by rw [hs1]; simp
      have n18 : ¬ lm = 18 := by omega
      have n24 : ¬ lm = 24 := by omega
      have n14 : ¬ lm = 14 := by omega
      have cm : s1.ob lm = some ⟨um, .mp ver (MP intV m)⟩ := by rw [hs1]; simp [qm, n18]
      have ck : KeysAt s1.ob 0 (keptTo h h.ks.length) kv := by
        rcases qk with h' | ⟨hne, L, u, hv, hob, hle, hL⟩
        · exact .inl h'
        · have : ¬ L = 18 := by omega
          exact .inr ⟨hne, L, u, hv, by rw [hs1]; simp [hob, this], by omega, hL⟩
      have bt : s1.tk = s.tk := by rw [hs1]; simp [app_tk0]
      have bd : s1.df = [] := by rw [hs1]; simp [fd]
      have bb : s1.fb = 0 := by rw [hs1]; simp [fb]
      have br : s1.ro = 0 := by rw [hs1]; simp [fr]
      have bn : s.nx ≤ s1.nx := by rw [hs1]; simp; omega
      clear hs1
      generalize s.nx + 64 + 64 + 64 = U9 at *
      refine wp_loopUp [(10, 10), (12, 12), (39, 55)] t.ops.length (fun k w => w.tm 39 = .int .i64 k ∧ Grow w.tk s1.nx w.nx opC 4 (erOps h (t.ops.take k)) (w.tm 10) ∧ (∀ u, u < s1.nx → w.tk u = s1.tk u) ∧ s1.nx ≤ w.nx ∧ (∀ key, key ≠ 24 → w.ob key = s1.ob key)) rfl rfl
        ⟨b39, by rw [b10]; exact Grow.nil _ _ _ _ _, fun _ _ => rfl, Nat.le_refl _, fun _ _ => rfl⟩ ?_
      rintro k w hk ⟨w39, wG, wtk, wnx, wob⟩ f
      have w6 : w.tm 6 = .map lm um := by rw [f.t 6 (by simp), b6]
      have w37 : w.tm 37 = slOf t.nl opC t.ops := by rw [f.t 37 (by simp), b37]
      have w38 : w.tm 38 = .int .i64 t.ops.length := by rw [f.t 38 (by simp), b38]
      have w7 : w.tm 7 = .ptr 14 U7 0 := by rw [f.t 7 (by simp), b7]
      have w9 : w.tm 9 = .ptr 18 U9 0 := by rw [f.t 9 (by simp), b9]
      have w30 : w.tm 30 = slOf h.tn txnC h.ts := by rw [f.t 30 (by simp), b30]
      have w31 : w.tm 31 = .int .i64 h.ts.length := by rw [f.t 31 (by simp), b31]
      have w32 : w.tm 32 = .int .i64 i := by rw [f.t 32 (by simp), b32]
      have wd : w.df = [] := by rw [f.d, bd]
      have wb : w.fb = 0 := by rw [f.b, bb]
      have wr : w.ro = 0 := by rw [f.r, br]
      clear f
      have wm : w.ob lm = some ⟨um, .mp ver (MP intV m)⟩ := (wob lm n24).trans cm
      by_cases hkt : k < t.ops.length
      · have hw' := wrapU hkt (by omega)
        obtain ⟨o, ho⟩ : ∃ o, t.ops[k] = o := ⟨_, rfl⟩
        have hoo : o ∈ opsOf h := List.mem_flatMap.2 ⟨t, htm, ho ▸ List.getElem_mem hkt⟩
        have hsn := erOps_snoc h (t.ops.take k) o
        have htk1 : t.ops.take (k + 1) = t.ops.take k ++ [o] := by rw [List.take_succ_eq_append_getElem hkt, ho]
        rw [← htk1] at hsn
        simp [w39, w37, w38, hkt, idx_slOf opC_len, load_slOf opC_len, ho, opC, objCells, wb, wr, splice]
        refine kS_ev (ev143 o) (by simp [opC]) rfl (by simp [opC]) ?_
        cases hl : (o.v.kind == 2)
        · have hkp : keepB o = true := by unfold keepB; rw [hl]; rfl
          rw [hkp] at hsn
          have hval := hlow hoo hkp
          have hel := erOps_le h (t.ops.take k)
          have hel2 : (t.ops.take k).length ≤ 1000 := by rw [List.length_take]; omega
          simp [objCells, w6, lookupV_MI m, objMap, n24, wm, hval, wr, splice]
          refine kS_buildSl (cs := opC (reK h o)) (by simp [splice, opC, reK]) rfl (by simp [opC]) ?_
          simp
          refine kS_appendG (f := opC) (lo := s1.nx) (hi := w.nx) (l := erOps h (t.ops.take k)) (a := reK h o) (v := w.tm 10) (wG.mono (fun u _ _ h => by simp [app_tk, h]) (Nat.le_refl _)) (by simp) (by simp [slCells, opC, reK]) opC_len (by decide) (by simp [opC]) (by omega) (by omega) (fun del hdel => ?_)
          simp only [if_true] at hsn
          have hne : erOps h (t.ops.take (k + 1)) ≠ [] := by rw [hsn]; simp
          have hlen : (erOps h (t.ops.take k)).length + 1 = (erOps h (t.ops.take (k + 1))).length := by rw [hsn]; simp
          rw [← hsn, hlen]
          simp [w39, hw']
          refine ⟨hkt, .inr ⟨hne, _, rfl, ?_, ?_, ?_⟩, ?_, ?_, ?_⟩
          · simp [app_tk]
          · omega
          · omega
          · intro u hu
            have hud : ¬ u = w.nx + 64 + 64 + 64 + 64 + 64 + 64 + 64 + 64 + 64 + 64 + 64 + 64 + 64 + 64 + 64 + 64 + 64 := by omega
            have hud2 : ¬ u = w.nx + 64 + 64 + 64 + 64 + 64 + 64 + 64 + 64 + 64 + 64 + 64 + 64 + 64 + 64 + 64 + 64 := by omega
            have hdl : ¬ del = some u := fun e => by have := hdel u e; omega
            simp [hud, hud2, hdl]
            exact wtk u hu
          · omega
          · intro key hk'
            simp [hk']
            exact wob key hk'
        · have hkp : keepB o = false := by unfold keepB; rw [hl]; rfl
          rw [hkp] at hsn
          simp only [Bool.false_eq_true, if_false, List.append_nil] at hsn
          simp [w39, hw']
          refine ⟨hkt, by rw [hsn]; exact wG.mono (fun u _ _ h => by simpa [app_tk0] using h) (by omega), by simpa [app_tk0] using wtk, by omega, ?_⟩
          intro key hk'
          simp [hk']
          exact wob key hk'
      · have : k = t.ops.length := by omega
        subst this
        rw [List.take_length] at wG
        obtain ⟨tw, hw10⟩ := wG.form
        have d4 := (wob 4 (by decide)).trans c4
        have d14 := (wob 14 (by decide)).trans c14
        have d18 := (wob 18 (by decide)).trans c18
        have dm := (wob lm n24).trans cm
        have hGw : Grow w.tk 0 s1.nx txnC 3 ((h.ts.take i).map (erT h)) Lv := hG.mono (fun u _ hu h => by rw [wtk u (by omega), bt]; exact h) bn
        obtain ⟨tL, hLv⟩ := hGw.form
        have hlen3 : ((h.ts.take i).map (erT h)).length ≤ 1000 := by rw [List.length_map, List.length_take]; omega
        simp [w39, w38, hw10, w9, d18, objCells, wr, splice, w7, d14]
        refine kS_buildSl (cs := [.int .i64 t.s, .int .i64 t.f, .sl tw (erOps h t.ops).isEmpty (erOps h t.ops).length ((erOps h t.ops).flatMap opC)]) (by simp [splice]) rfl (by simp) ?_
        simp
        refine kS_appendG (f := txnC) (lo := 0) (hi := s1.nx) (l := (h.ts.take i).map (erT h)) (a := erT h t) (v := Lv) (hGw.mono (fun u _ _ h => by simp [app_tk, h]) (Nat.le_refl _)) (by simp [hLv]) (by simp [slCells, txnC, erT, slOf]) txnC_len (by decide) (by simp [txnC]) (by omega) (by omega) (fun del hdel => ?_)
        have hsn : (h.ts.take (i + 1)).map (erT h) = (h.ts.take i).map (erT h) ++ [erT h t] := by rw [List.take_succ_eq_append_getElem hlt, ht]; simp
        have hne : (h.ts.take (i + 1)).map (erT h) ≠ [] := by rw [hsn]; simp
        have hlen : ((h.ts.take i).map (erT h)).length + 1 = ((h.ts.take (i + 1)).map (erT h)).length := by rw [hsn]; simp
        have e1 : ¬ lm = 14 := by omega
        have e2 : ¬ lm = 18 := by omega
        rw [← hsn, hlen]
        obtain ⟨M, hM⟩ : ∃ M, (h.ts.take (i + 1)).map (erT h) = M := ⟨_, rfl⟩
        rw [hM] at hne ⊢
        simp [w7, d14, objCells, w32, hw, wr, splice, e1, e2, hLv]
        refine ⟨hlt, (wob 4 (by decide)).trans c4, dm, ?_, ?_, ?_⟩
        · rcases ck with h' | ⟨hne', L, u, hv, hob, hle, hL⟩
          · exact .inl h'
          · have l1 : ¬ L = 14 := by omega
            have l2 : ¬ L = 18 := by omega
            have l3 : L ≠ 24 := by omega
            exact .inr ⟨hne', L, u, hv, by simp [l1, l2, (wob L l3).trans hob], by omega, hL⟩
        · have hM' : (h.ts.map (erT h)).take (i + 1) = M := by rw [← List.map_take]; exact hM
          rw [hM']
          exact .inr ⟨hne, _, rfl, by simp [app_tk], Nat.zero_le _, by omega⟩
        · omega
    · have : i = h.ts.length := by omega
      subst this
      rw [List.take_length] at hG
      obtain ⟨tl, hLv⟩ := hG.form
      simp [h32, f2, f7, q14, objCells, fm2, q4, fr, hkl, hLv, splice]
      subst hP
      have qk' : KeysAt (fun k => if k = 4 then some ⟨64, .cells [.sl ta h.ss.isEmpty h.ss.length (h.ss.flatMap strC), kv, .sl tl h.ts.isEmpty h.ts.length ((h.ts.map (erT h)).flatMap txnC)]⟩ else s.ob k) 0 (keptTo h h.ks.length) kv := by
        rcases qk with h' | ⟨hne, L, u, hv, hob, hle, hL⟩
        · exact .inl h'
        · have : ¬ L = 4 := by omega
          exact .inr ⟨hne, L, u, hv, by simp [hob, this], by omega, hL⟩
      refine hist_end (g := erP h) (l := 4) (u := 64) (x := .sl ta h.ss.isEmpty h.ss.length (h.ss.flatMap strC)) (y := kv) (z := .sl tl h.ts.isEmpty h.ts.length ((h.ts.map (erT h)).flatMap txnC)) HP_of (by simp [fd]) (by simp [fm2]) (by simp) (by simp) (slOut_sl _ _ _ _ _) (slOut_keys (ub := 0) ?_ (by simp [fr])) ?_
      · have e : ∀ (o1 o2 : Nat → Option Obj') , o1 = o2 → KeysAt o2 0 (keptTo h h.ks.length) kv → KeysAt o1 0 (keptTo h h.ks.length) kv := fun _ _ e h => e ▸ h
        refine e _ _ ?_ qk'
        funext k
        simp
      · have := slOut_sl
        intro keep i
        obtain ⟨a, ha⟩ := this _ tl h.ts.isEmpty h.ts.length ((h.ts.map (erT h)).flatMap txnC) keep i
        refine ⟨a, ?_⟩
        have hl : (erP h).ts.length = h.ts.length := by simp [erP]
        rw [hl]
        exact ha
end Go.Pv.T

/- erase.By. -/
namespace Go.Pv.T
open Go Go.Pv

def byP (h : Hist') (p : Int) : Hist' × Int := if mayH h then (if p = 1 then (h, 0) else if p = 2 then (erP h, 0) else (zeroH, 2)) else (zeroH, 4)
theorem slOut_of {α : Type} (st : St) (f : α → List V) (nl : Bool) (l : List α) : SlOut st (slOf nl f l) nl l.length (l.flatMap f) := slOut_sl st none nl l.length (l.flatMap f)
theorem ev59 {h : Hist'} (hs : Small h) (p : Int) : ∃ v, Ev E 59 [.agg (histC h), .int .i64 p] v ∧ HP (byP h p).1 (byP h p).2 v := by
  have e70 := ev70 hs
  refine Ev_wpE (af := F59) rfl (by decide) ?_
  obtain ⟨P, hP⟩ : ∃ P, HP (byP h p).1 (byP h p).2 = P := ⟨_, rfl⟩
  rw [hP]
  unfold errH at e70
  cases hm : mayH h
  · rw [hm] at e70
    simp only [Bool.false_eq_true, if_false] at e70
    have hb : byP h p = (zeroH, 4) := by unfold byP; rw [hm]; rfl
    rw [hb] at hP
    subst hP
    simp [F59, histC, objCells]
    refine kS_ev e70 (by simp [histC]) rfl (by simp [histC]) ?_
    simp [objCells, splice]
    exact hist_end (g := zeroH) (l := 8) (u := 64) HP_of rfl (by simp) (by simp) (by simp) (slOut_zero _) (slOut_zero _) (slOut_zero _)
  · rw [hm] at e70
    simp only [if_true] at e70
    simp [F59, histC, objCells]
    refine kS_ev e70 (by simp [histC]) rfl (by simp [histC]) ?_
    by_cases p1 : p = 1
    · have hb : byP h p = (h, 0) := by unfold byP; rw [hm, if_pos rfl, if_pos p1]
      rw [hb] at hP
      subst hP
      simp [objCells, splice, p1]
      exact hist_end (g := h) (l := 8) (u := 64) HP_of rfl (by simp) (by simp) (by simp) (slOut_of _ _ _ _) (slOut_of _ _ _ _) (slOut_of _ _ _ _)
    have p1' : (p == 1) = false := by simpa using p1
    by_cases p2 : p = 2
    · have hb : byP h p = (erP h, 0) := by unfold byP; rw [hm, if_pos rfl, if_neg p1, if_pos p2]
      rw [hb] at hP
      subst hP
      obtain ⟨v, ev, r, rfl, hr⟩ := ev98 hs
      rw [hm, if_pos rfl] at hr
      have he : errH h = 0 := by unfold errH; rw [hm]; rfl
      rw [he] at ev
      simp [objCells, p2]
      refine kS_ev ev (by simp [histC]) rfl (by simp [histC]) ?_
      obtain ⟨a, b, c, add, hret⟩ := retA_hist hr
      rw [hret]
      simp [objCells, splice]
      exact hist_end (g := erP h) (l := 8) (u := 64) (x := .sl a (erP h).sn (erP h).ss.length ((erP h).ss.flatMap strC)) (y := .sl b (erP h).kn (erP h).ks.length ((erP h).ks.flatMap strC)) (z := .sl c (erP h).tn (erP h).ts.length ((erP h).ts.flatMap txnC)) HP_of rfl (by simp) (by simp) (by simp) (slOut_sl _ _ _ _ _) (slOut_sl _ _ _ _ _) (slOut_sl _ _ _ _ _)
    · have hb : byP h p = (zeroH, 2) := by unfold byP; rw [hm, if_pos rfl, if_neg p1, if_neg p2]
      have p2' : (p == 2) = false := by simpa using p2
      rw [hb] at hP
      subst hP
      simp [objCells, splice, p1', p2']
      exact hist_end (g := zeroH) (l := 8) (u := 64) HP_of rfl (by simp) (by simp) (by simp) (slOut_zero _) (slOut_zero _) (slOut_zero _)
end Go.Pv.T

/- The reference's erasing: which keys are there. -/
namespace Go.Pv.T
open Go Go.Pv

section
variable {E : Env} {st : St} {ub : Nat} {K : List FP → St → Prop} {d : Option Nat} {nm : Bool} {r : List AOpr}
theorem kD_buildSl {sz n : Nat} {zero : List V} {parts : List (Nat × Nat × A)} {cs : List V} (hf : fill zero (evalParts (eval E st.tm) parts) = some cs) (hl : cs.length = n * sz) (hp : (cs.map V.strip1).all V.pureLeaf = true)
    (h : kDApp E r K (eval E st.tm) (.buildSl false sz zero parts n) st d ub { v := .sl (some (ub, sz)) false n (cs.map V.strip1), add := [ub] }) : wpDraw E (⟨d, .buildSl false sz zero parts n, none, nm⟩ :: r) st ub K := by
  rw [wpDraw_of rfl]
  simp only [aop, hf, Option.bind_some, Bool.false_eq_true, if_false]
  rw [if_pos ⟨hl, hp⟩, wpD_some]
  exact h
theorem kD_appendG2 {α : Type} {f : α → List V} {sz bytes lo hi : Nat} {l : List α} {a : α} {v : V} {s x : A} (hg : Grow st.tk lo hi f sz l v) (hs : eval E st.tm s = v) (hx : slCells st.ob sz (eval E st.tm x) = some (f a)) (hf : ∀ a, (f a).length = sz) (h0 : 0 < sz)
    (hp : (f a).all V.pureLeaf = true) (hb : (l.length + 1) * bytes ≤ 140737488355328) (hb2 : l.length + 1 ≤ 140737488355328)
    (h : ∀ del : Option Nat, (∀ u, del = some u → u ∈ v.tok) → kDApp E r K (eval E st.tm) (.append false sz bytes s x) st d ub { v := .sl (some (ub, sz)) false (l.length + 1) ((l ++ [a]).flatMap f), del := del, add := [ub] }) : wpDraw E (⟨d, .append false sz bytes s x, none, nm⟩ :: r) st ub K := by
  have hne : f a ≠ [] := fun e => by have := hf a; rw [e] at this; simp at this; omega
  have h1 : (f a).length / sz = 1 := by rw [hf]; exact Nat.div_self h0
  rw [wpDraw_of rfl]
  rcases hg with ⟨rfl, rfl⟩ | ⟨hl, u, rfl, ht, h2, h3⟩
  · simp only [aop, hs, hx, Option.bind_some, if_neg hne, Bool.false_and, Bool.false_eq_true, if_false]
    rw [if_pos ⟨by simp, h0, hp, by rw [h1]; simpa using hb, by rw [h1]; simp⟩, if_pos trivial, wpD_some, h1]
    have := h none (fun u e => by cases e)
    simpa using this
  · simp only [aop, hs, hx, Option.bind_some, if_neg hne, Bool.false_and, Bool.false_eq_true, if_false]
    rw [if_pos ⟨by rw [flatMap_len hf], h0, hp, by rw [h1]; exact hb, by rw [h1]; exact hb2⟩, if_pos (by simp [ht]), wpD_some, h1]
    have := h (some u) (fun u' e => by cases e; simp [V.tok])
    simpa using this
/-- To a slice that was made empty. -/
theorem kS_append_allT {E : Env} {Yf : YF} {st : St} {ub : Nat} {K : St → Nat → Prop} {d : Option Nat} {nm : Bool} {α : Type} {f : α → List V} {sz bytes u : Nat} {l : List α} {s x : A} (hs : eval E st.tm s = .sl (some (u, sz)) false 0 []) (hu : st.tk u = true) (hx : slCells st.ob sz (eval E st.tm x) = some (l.flatMap f)) (hf : ∀ a, (f a).length = sz) (h0 : 0 < sz)
    (hp : (l.flatMap f).all V.pureLeaf = true) (hb : l.length * bytes ≤ 140737488355328) (hb2 : l.length ≤ 140737488355328)
    (h : ∀ (t : Option (Nat × Nat)) (del : Option Nat) (add : List Nat), (∀ u' ∈ add, u' = ub) → (∀ u', del = some u' → u' = u) → kApp K st d ub { v := .sl t false l.length (l.flatMap f), del := del, add := add }) : wpStep E Yf ⟨d, .append false sz bytes s x, none, nm⟩ st ub K := by
  cases l with
  | nil =>
    rw [wpStep_of _ rfl rfl]
    simp only [aop, hs, hx, Option.bind_some, List.flatMap_nil, if_true, List.length_nil, Nat.zero_mul, wpD_one]
    exact h _ none [] (fun u hu => by cases hu) (fun u e => by cases e)
  | cons a l =>
    have h1 : ((a :: l).flatMap f).length / sz = (a :: l).length := by rw [flatMap_len hf]; exact Nat.mul_div_cancel _ h0
    have hne : (a :: l).flatMap f ≠ [] := fun e => by have := congrArg List.length e; rw [flatMap_len hf] at this; have := Nat.mul_pos (show 0 < (a :: l).length by simp) h0; simp_all
    refine kS_append_tok hs hu hx hne (by simp) h0 hp (by rw [h1, Nat.zero_add]; exact hb) (by rw [h1, Nat.zero_add]; exact hb2) ?_
    rw [h1, Nat.zero_add, List.nil_append]
    exact h _ (some u) [ub] (fun u hu => by simpa using hu) (fun u' e => by cases e; rfl)
theorem Grow.tok_lt {α : Type} {tk : Nat → Bool} {lo nx : Nat} {f : α → List V} {sz : Nat} {l : List α} {v : V} (h : Grow tk lo nx f sz l v) : ∀ u ∈ v.tok, lo ≤ u ∧ u < nx := by
  rcases h with ⟨_, rfl⟩ | ⟨_, u, rfl, _, h2, h3⟩
  · intro u hu; simp [V.tok] at hu
  · intro u' hu'; simp [V.tok] at hu'; subst hu'; exact ⟨h2, h3⟩
end
/-- The numbers so far. -/
def toList (h : Hist') : Nat → List Int
  | 0 => []
  | i + 1 => toList h i ++ [((toK h i : Nat) : Int)]
theorem toList_len (h : Hist') : ∀ i, (toList h i).length = i
  | 0 => rfl
  | i + 1 => by simp [toList, toList_len h i]
theorem toList_at (h : Hist') : ∀ (n k : Nat), k < n → (toList h n)[k]? = some ((toK h k : Nat) : Int)
  | n + 1, k, hk => by
    unfold toList
    rcases Nat.lt_succ_iff_lt_or_eq.1 hk with h' | rfl
    · rw [List.getElem?_append_left (by rw [toList_len]; exact h'), toList_at h n k h']
    · rw [List.getElem?_append_right (by rw [toList_len]; omega), toList_len]; simp
/-- Is the key of some of them kept? -/
def anyK (k : Nat) (l : List Op') : Bool := l.any fun o => o.key == (k : Int) && keepB o
theorem anyK_used (h : Hist') (k : Nat) : anyK k (opsOf h) = usedN h k := by
  unfold anyK usedN cntK
  rw [Bool.eq_iff_iff, List.any_eq_true, decide_eq_true_eq, List.length_pos_iff_exists_mem]
  constructor
  · rintro ⟨o, ho, hk⟩; exact ⟨o, List.mem_filter.2 ⟨ho, hk⟩⟩
  · rintro ⟨o, ho⟩; exact ⟨o, (List.mem_filter.1 ho).1, (List.mem_filter.1 ho).2⟩
theorem anyK_app (k : Nat) (a b : List Op') : anyK k (a ++ b) = (anyK k a || anyK k b) := by simp [anyK]
theorem anyK_snoc (k : Nat) (a : List Op') (o : Op') : anyK k (a ++ [o]) = (anyK k a || (o.key == (k : Int) && keepB o)) := by rw [anyK_app]; simp [anyK]
end Go.Pv.T

/- The reference's erasing. -/
namespace Go.Pv.T
open Go Go.Pv

@[simp] theorem str_strip1 (s : List UInt8) : (V.str s).strip1 = .str s := rfl
theorem endH1 {st : St} {p l u : Nat} {x y z : V} {g : Hist'} (hd : st.df = []) (hp : st.tm p = .ptr l u 0) (ho : st.ob l = some ⟨u, .cells [x, y, z]⟩)
    (hx : SlOut st x g.sn g.ss.length (g.ss.flatMap strC)) (hy : SlOut st y g.kn g.ks.length (g.ks.flatMap strC)) (hz : SlOut st z g.tn g.ts.length (g.ts.flatMap txnC)) : ∃ r, endV [.cell p (some 3)] (.ret, st) = some r ∧ HistR r g := by
  have h1 : (objCells st.ob l u) = some [x, y, z] := by simp [objCells, ho]
  have hres : [ARes.cell p (some 3)].mapM (resOf st) = some [.agg [x, y, z]] := by
    simp [resOf, hp, h1]
  obtain ⟨a, ha, ha'⟩ := hx (nodup (List.flatMap V.toks [.agg [x, y, z]])) 0
  obtain ⟨b, hb, hb'⟩ := hy (nodup (List.flatMap V.toks [.agg [x, y, z]])) 1
  obtain ⟨c, hc, hc'⟩ := hz (nodup (List.flatMap V.toks [.agg [x, y, z]])) 2
  refine ⟨.agg [.sl a g.sn g.ss.length (g.ss.flatMap strC), .sl b g.kn g.ks.length (g.ks.flatMap strC), .sl c g.tn g.ts.length (g.ts.flatMap txnC)], ?_, a, b, c, rfl, ?_⟩
  · simp only [endV, dfOk_of hd, noDf_of hd, if_true, hres, Option.bind_some, outRes]
    generalize nodup (List.flatMap V.toks [.agg [x, y, z]]) = keep at *
    simp only [outTops, outTop, outList, ha, hb, hc, Nat.zero_add, Option.bind_some, Option.map_some]
    have hnd : nodup (List.flatMap V.toks [.agg [.sl a g.sn g.ss.length (g.ss.flatMap strC), .sl b g.kn g.ks.length (g.ks.flatMap strC), .sl c g.tn g.ts.length (g.ts.flatMap txnC)]]) = true := by
      have e : ∀ x y z : V, List.flatMap V.toks [.agg [x, y, z]] = x.tok ++ (y.tok ++ z.tok) := fun x y z => by simp [V.toks]
      rw [e, toks_sl, toks_sl, toks_sl]
      rcases ha' with rfl | ⟨_, rfl⟩ <;> rcases hb' with rfl | ⟨_, rfl⟩ <;> rcases hc' with rfl | ⟨_, rfl⟩ <;> rfl
    show (if nodup (List.flatMap V.toks [.agg [.sl a g.sn g.ss.length (g.ss.flatMap strC), .sl b g.kn g.ks.length (g.ks.flatMap strC), .sl c g.tn g.ts.length (g.ts.flatMap txnC)]]) = true then some (V.agg [.sl a g.sn g.ss.length (g.ss.flatMap strC), .sl b g.kn g.ks.length (g.ks.flatMap strC), .sl c g.tn g.ts.length (g.ts.flatMap txnC)]) else none) = _
    rw [if_pos hnd]
  · intro p hp
    simp only [List.mem_append] at hp
    rcases hp with (hp | hp) | hp
    · rcases ha' with rfl | ⟨_, rfl⟩
      · simp at hp
      · simp at hp; subst hp; simp
    · rcases hb' with rfl | ⟨_, rfl⟩
      · simp at hp
      · simp at hp; subst hp; simp
    · rcases hc' with rfl | ⟨_, rfl⟩
      · simp at hp
      · simp at hp; subst hp; simp
theorem retA_hist1 {ub : Nat} {r : V} {g : Hist'} (h : HistR r g) : ∃ a b c add, retA ub r = some { v := .agg [.sl a g.sn g.ss.length (g.ss.flatMap strC), .sl b g.kn g.ks.length (g.ks.flatMap strC), .sl c g.tn g.ts.length (g.ts.flatMap txnC)], add := add } := by
  obtain ⟨a, b, c, rfl, hlt⟩ := h
  have e : ∀ x y z : V, toksRes (.agg [x, y, z]) = x.tok ++ (y.tok ++ z.tok) := fun x y z => by simp [toksRes, V.toks]
  have hall : (toksRes (.agg [.sl a g.sn g.ss.length (g.ss.flatMap strC), .sl b g.kn g.ks.length (g.ks.flatMap strC), .sl c g.tn g.ts.length (g.ts.flatMap txnC)])).all (fun i => Nat.blt i 64) = true := by
    rw [e, List.all_eq_true]
    intro i hi
    have : ∃ p ∈ a.toList ++ b.toList ++ c.toList, p.1 = i := by
      rw [List.mem_append, List.mem_append, tokm, tokm, tokm] at hi
      rcases hi with ⟨p, hp, h⟩ | ⟨p, hp, h⟩ | ⟨p, hp, h⟩
      · exact ⟨p, by simp [hp], h⟩
      · exact ⟨p, by simp [hp], h⟩
      · exact ⟨p, by simp [hp], h⟩
    obtain ⟨p, hp, rfl⟩ := this
    rw [Nat.blt_eq]
    exact hlt p hp
  have hin : ∀ (t : Option (Nat × Nat)) (nl : Bool) (n : Nat) (cs : List V), ∃ t', inLeaf ub (.sl t nl n cs) = .sl t' nl n cs := fun t nl n cs => by
    cases t with
    | none => exact ⟨none, rfl⟩
    | some p => exact ⟨_, rfl⟩
  obtain ⟨a', ha⟩ := hin a g.sn g.ss.length (g.ss.flatMap strC)
  obtain ⟨b', hb⟩ := hin b g.kn g.ks.length (g.ks.flatMap strC)
  obtain ⟨c', hc⟩ := hin c g.tn g.ts.length (g.ts.flatMap txnC)
  refine ⟨a', b', c', (toksRes (.agg [.sl a g.sn g.ss.length (g.ss.flatMap strC), .sl b g.kn g.ks.length (g.ks.flatMap strC), .sl c g.tn g.ts.length (g.ts.flatMap txnC)])).map (ub + ·), ?_⟩
  rw [retA, if_pos hall]
  have hin2 : inRes ub (.agg [.sl a g.sn g.ss.length (g.ss.flatMap strC), .sl b g.kn g.ks.length (g.ks.flatMap strC), .sl c g.tn g.ts.length (g.ts.flatMap txnC)]) =
      .agg [inLeaf ub (.sl a g.sn g.ss.length (g.ss.flatMap strC)), inLeaf ub (.sl b g.kn g.ks.length (g.ks.flatMap strC)), inLeaf ub (.sl c g.tn g.ts.length (g.ts.flatMap txnC))] := rfl
  rw [hin2, ha, hb, hc]

def erR (h : Hist') : Hist' := { erP h with sn := false }

set_option maxRecDepth 100000 in
theorem ev103 {h : Hist'} (hs : Small h) (hm : mayH h = true) : ∃ r, Ev E 103 [.agg (histC h)] r ∧ HistR r (erR h) := by
  have hts := hs.ts
  have hks := hs.ks
  have hss := hs.ss
  refine Ev_wpE (af := F103) rfl (by decide) ?_
  obtain ⟨P, hP⟩ : ∃ P : V → Prop, (fun r => HistR r (erR h)) = P := ⟨_, rfl⟩
  rw [hP]
  simp [F103, histC]
  refine kS_buildSl (cs := []) rfl rfl rfl ?_
  simp [objCells]
  refine kS_append_allT (f := strC) (l := h.ss) (u := 128) (by simp) (by simp [app_tk]) (by simp [slCells_slOf strC_len]) strC_len (by decide) (strs_pure _) (by omega) (by omega) (fun ta del add hadd hdel => ?_)
  simp [splice, objCells]
  refine kS_buildSl (cs := []) rfl rfl rfl ?_
  simp
  refine wpC_gen fun st hst => ?_
  have g1 : st.tm 1 = .ptr 2 0 0 := by rw [hst]; simp
  have g2 : st.tm 2 = .ptr 4 64 0 := by rw [hst]; simp
  have g3 : st.tm 3 = .ptr 6 448 0 := by rw [hst]; simp
  have g4 : st.tm 4 = .sl (some (576, 1)) false 0 [] := by rw [hst]; simp
  have g5 : st.tm 5 = .int .i64 0 := by rw [hst]; simp
  have p2 : st.ob 2 = some ⟨0, .cells (histC h)⟩ := by rw [hst]; simp [histC]
  have p4 : st.ob 4 = some ⟨64, .cells [.sl none true 0 [], .sl none true 0 [], .sl none true 0 []]⟩ := by rw [hst]; simp
  have p6 : st.ob 6 = some ⟨448, .cells [.sl ta false h.ss.length (h.ss.flatMap strC), .sl none true 0 [], .sl none true 0 []]⟩ := by rw [hst]; simp
  have gt : st.tk 576 = true := by rw [hst]; simp [app_tk]
  have gd : st.df = [] := by rw [hst]; simp
  have gb : st.fb = 0 := by rw [hst]; simp
  have gr : st.ro = 0 := by rw [hst]; simp
  have gn : 600 ≤ st.nx := by rw [hst]; simp
  clear hst
  refine wp_loopUp [(4, 9), (20, 83)] h.ks.length (fun i s => s.tm 5 = .int .i64 i ∧ s.ob 2 = some ⟨0, .cells (histC h)⟩ ∧ s.ob 4 = some ⟨64, .cells [.sl none true 0 [], .sl none true 0 [], .sl none true 0 []]⟩ ∧
    (∃ Kv, s.ob 6 = some ⟨448, .cells [.sl ta false h.ss.length (h.ss.flatMap strC), Kv, .sl none true 0 []]⟩ ∧ Grow s.tk 0 s.nx strC 1 (keptTo h i) Kv ∧
      ∃ u, s.tm 4 = .sl (some (u, 1)) false i ((toList h i).flatMap intC) ∧ s.tk u = true ∧ u < s.nx ∧ u ∉ Kv.tok) ∧ 600 ≤ s.nx) rfl rfl
    ⟨g5, p2, p4, ⟨_, p6, Grow.nil _ _ _ _ _, 576, by rw [g4]; rfl, gt, by omega, by simp [V.tok]⟩, gn⟩ ?_
  rintro i s hi ⟨h5, o2, o4, ⟨Kv, o6, hG, u, h4, hu, hun, huK⟩, hnx⟩ f
  have f1 : s.tm 1 = .ptr 2 0 0 := by rw [f.t 1 (by simp), g1]
  have f2 : s.tm 2 = .ptr 4 64 0 := by rw [f.t 2 (by simp), g2]
  have f3 : s.tm 3 = .ptr 6 448 0 := by rw [f.t 3 (by simp), g3]
  have fd : s.df = [] := by rw [f.d, gd]
  have fb : s.fb = 0 := by rw [f.b, gb]
  have fr : s.ro = 0 := by rw [f.r, gr]
  clear f
  by_cases hlt : i < h.ks.length
  · have hw := wrapU hlt (by omega)
    simp [h5, f1, o2, objCells, histC, hlt]
    refine wp_loopUp [(6, 9), (27, 66)] h.ts.length (fun j w => w.tm 7 = .int .i64 j ∧ w.tm 6 = .bool (anyK i (opsTo h j 0)) ∧ w.tk = s.tk ∧ s.nx ≤ w.nx ∧ (∀ key, key ≠ 18 → w.ob key = s.ob key)) rfl rfl ⟨by simp, by simp [opsTo_zero, anyK], by simp, by simp; omega, fun _ _ => by simp⟩ ?_
    rintro j w hj ⟨w7, w6, wtk, wnx, wob⟩ f
    have w1 : w.tm 1 = .ptr 2 0 0 := by rw [f.t 1 (by simp)]; simp [f1]
    have w3 : w.tm 3 = .ptr 6 448 0 := by rw [f.t 3 (by simp)]; simp [f3]
    have w4 : w.tm 4 = .sl (some (u, 1)) false i ((toList h i).flatMap intC) := by rw [f.t 4 (by simp)]; simp [h4]
    have w5 : w.tm 5 = .int .i64 i := by rw [f.t 5 (by simp)]; simp [h5]
    have wd : w.df = [] := by rw [f.d]; simp [fd]
    have wb : w.fb = 0 := by rw [f.b]; simp [fb]
    have wr : w.ro = 0 := by rw [f.r]; simp [fr]
    clear f
    have wo2 := (wob 2 (by decide)).trans o2
    have wo6 := (wob 6 (by decide)).trans o6
    by_cases hjt : j < h.ts.length
    · have hwj := wrapU hjt (by omega)
      simp [w7, w1, wo2, objCells, histC, hjt]
      refine wp_loopUp [(6, 6), (8, 9), (34, 66)] (h.ts[j]).ops.length (fun k x => x.tm 8 = .int .i64 k ∧ x.tm 6 = .bool (anyK i (opsTo h j k)) ∧ x.tk = s.tk ∧ s.nx ≤ x.nx ∧ (∀ key, key ≠ 18 → x.ob key = s.ob key)) rfl rfl ⟨by simp, by simp [w6], by simp [wtk], by simp; omega, fun key hk => by simp [wob key hk]⟩ ?_
      rintro k x hk ⟨x8, x6, xtk, xnx, xob⟩ f
      have x1 : x.tm 1 = .ptr 2 0 0 := by rw [f.t 1 (by simp)]; simp [w1]
      have x5 : x.tm 5 = .int .i64 i := by rw [f.t 5 (by simp)]; simp [w5]
      have x7 : x.tm 7 = .int .i64 j := by rw [f.t 7 (by simp)]; simp [w7]
      have xd : x.df = [] := by rw [f.d]; simp [wd]
      have xb : x.fb = 0 := by rw [f.b]; simp [wb]
      have xr : x.ro = 0 := by rw [f.r]; simp [wr]
      clear f
      have xo2 := (xob 2 (by decide)).trans o2
      have hol := hs.os h.ts[j] (List.getElem_mem hjt)
      have hf2 : (h.ts.flatMap txnC)[j * 3 + 2]? = some (slOf (h.ts[j]).nl opC (h.ts[j]).ops) := by
        rw [fld_at txnC_len h.ts hjt (by decide : 2 < 3)]; rfl
      by_cases hkt : k < (h.ts[j]).ops.length
      · have hwk := wrapU hkt (by omega)
        obtain ⟨o, ho⟩ : ∃ o, (h.ts[j]).ops[k] = o := ⟨_, rfl⟩
        have hst := opsTo_step hjt hkt
        rw [ho] at hst
        have hany := anyK_snoc i (opsTo h j k) o
        rw [← hst] at hany
        cases hb : anyK i (opsTo h j k)
        · rw [hb] at x6 hany
          cases he : (o.key == (i : Int))
          · rw [he] at hany
            simp [x8, x1, x7, xo2, objCells, histC, hjt, idx_slOf txnC_len, hf2, hkt, idx_slOf opC_len, load_slOf opC_len, ho, opC, xb, xr, splice, x6, hwk, x5, he]
            refine ⟨by rw [hany]; rfl, by simp [app_tk0, xtk], by omega, fun key hk' => ?_⟩
            simp [hk']
            exact xob key hk'
          · rw [he] at hany
            cases hl : (o.v.kind == 2)
            · have hl' : (o.v.kind != 2) = true := by simpa using hl
              have hkp : keepB o = true := by unfold keepB; rw [hl]; rfl
              rw [hkp] at hany
              simp [x8, x1, x7, xo2, objCells, histC, hjt, idx_slOf txnC_len, hf2, hkt, idx_slOf opC_len, load_slOf opC_len, ho, opC, xb, xr, splice, x6, hwk, x5, he, hl']
              refine ⟨by rw [hany]; rfl, by simp [app_tk0, xtk], by omega, fun key hk' => ?_⟩
              simp [hk']
              exact xob key hk'
            · have hl' : (o.v.kind != 2) = false := by simpa using hl
              have hkp : keepB o = false := by unfold keepB; rw [hl]; rfl
              rw [hkp] at hany
              simp [x8, x1, x7, xo2, objCells, histC, hjt, idx_slOf txnC_len, hf2, hkt, idx_slOf opC_len, load_slOf opC_len, ho, opC, xb, xr, splice, x6, hwk, x5, he, hl']
              refine ⟨by rw [hany]; rfl, by simp [app_tk0, xtk], by omega, fun key hk' => ?_⟩
              simp [hk']
              exact xob key hk'
        · rw [hb] at x6 hany
          simp [x8, x1, x7, xo2, objCells, histC, hjt, idx_slOf txnC_len, hf2, hkt, idx_slOf opC_len, load_slOf opC_len, ho, opC, xb, xr, splice, x6, hwk]
          refine ⟨by rw [hany]; rfl, by simp [app_tk0, xtk], by omega, fun key hk' => ?_⟩
          simp [hk']
          exact xob key hk'
      · have : k = (h.ts[j]).ops.length := by omega
        subst this
        simp [x8, x1, x7, xo2, objCells, histC, hjt, idx_slOf txnC_len, hf2, hwj]
        exact ⟨by rw [x6, opsTo_next hjt], xtk, by omega, xob⟩
    · have : j = h.ts.length := by omega
      subst this
      rw [opsTo_end, anyK_used] at w6
      obtain ⟨tK, hKv⟩ := hG.form
      have hkl := keptTo_len h i
      have hkt := toK_le h i
      simp [w7, w1, wo2, objCells, histC, w4, w3, wo6, hKv]
      refine kS_buildSl (cs := [.int .i64 (keptTo h i).length]) (by simp [splice]) rfl rfl ?_
      simp
      have hclt : (toList h i).length = i := toList_len h i
      refine kS_append_tok (u := u) (nl := false) (n := i) (cs := (toList h i).flatMap intC) (ys := [.int .i64 (keptTo h i).length]) (by simp) (by simp [app_tk, wtk, hu]) (by simp [slCells]) (by simp) (by rw [flatMap_len intC_len, hclt]) (by decide) rfl (by simp; omega) (by simp; omega) ?_
      have hlen' : (keptTo h (i + 1)) = keptTo h i ++ (if usedN h i then [h.ks[i]] else []) := by rw [← getD_lt (d := []) hlt]; rfl
      have htl : (toList h (i + 1)).flatMap intC = (toList h i).flatMap intC ++ [.int .i64 (keptTo h i).length] := by rw [show toList h (i + 1) = toList h i ++ [((toK h i : Nat) : Int)] from rfl, List.flatMap_append, hkl]; simp [intC]
      have hGw : ∀ {tk' : Nat → Bool}, (∀ v, v ≠ u → s.tk v = true → tk' v = true) → Grow tk' 0 s.nx strC 1 (keptTo h i) Kv := fun {tk'} htk => by
        rcases hG with h' | ⟨hne, v, hv, h1, h2, h3⟩
        · exact .inl h'
        · exact .inr ⟨hne, v, hv, htk v (fun e => huK (by rw [hv, ← e]; simp [V.tok])) h1, h2, h3⟩
      cases hus : usedN h i
      · rw [hus] at w6 hlen'
        simp only [Bool.false_eq_true, if_false, List.append_nil] at hlen'
        simp [w6, w5, hw, wo2, wo6, histC]
        refine ⟨hlt, (wob 4 (by decide)).trans o4, ?_, _, ⟨rfl, htl.symm⟩, Or.inl rfl, by omega, fun hu => by have := (hG.tok_lt _ hu).2; omega⟩
        rw [hlen']
        exact (hGw fun v hv h => by simp [app_tk, wtk, hv, h]).mono (fun _ _ _ h => h) (by omega)
      · rw [hus] at w6 hlen'
        simp only [if_true] at hlen'
        obtain ⟨c, hc⟩ : ∃ c, h.ks[i] = c := ⟨_, rfl⟩
        have hsi := str_at h.ks hlt
        rw [hc] at hsi hlen'
        simp [w6, w3, wo6, objCells, hKv, w1, wo2, histC, w5, idx_slOf strC_len, hlt, hsi]
        refine kD_buildSl (cs := [.str c]) (by simp [splice]) rfl rfl ?_
        simp
        refine kD_appendG2 (f := strC) (lo := 0) (hi := s.nx) (l := keptTo h i) (a := c) (v := Kv) (hGw fun v hv h => by simp [app_tk, wtk, hv, h]) (by simp [hKv]) (by simp [slCells, strC]) strC_len (by decide) rfl (by omega) (by omega) (fun del hdel => ?_)
        have hK1 : (keptTo h i).length + 1 = (keptTo h (i + 1)).length := by rw [hlen']; simp
        have hKne : keptTo h (i + 1) ≠ [] := by rw [hlen']; simp
        rw [← hlen', hK1]
        simp [w3, wo6, objCells, wr, splice, w5, hw, wo2, histC]
        refine ⟨by simp [drawOk, indep, disj, fpOf, rdOb, rdTk, lOf, uOf, Delta.wo, Delta.wt], hlt, (wob 4 (by decide)).trans o4, .inr ⟨hKne, _, rfl, by simp [app_tk], Nat.zero_le _, by omega⟩, _, ⟨rfl, htl.symm⟩, ?_, by omega, by simp [V.tok]⟩
        refine Or.inr ⟨fun e => ?_, Or.inr (Or.inl rfl)⟩
        have := (hG.tok_lt _ (hdel _ e)).2
        omega
  · have : i = h.ks.length := by omega
    subst this
    simp [h5, f1, o2, objCells, histC]
    obtain ⟨N0, hN0⟩ : ∃ N0, s.nx = N0 := ⟨_, rfl⟩
    rw [hN0] at hnx hun hG
    refine wp_loopUp [(10, 13), (84, 145)] h.ts.length (fun i w => w.tm 10 = .int .i64 i ∧ (∀ key, key ≠ 6 → key ≠ 22 → key ≠ 26 → w.ob key = s.ob key) ∧ N0 ≤ w.nx ∧
      ∃ Lv, w.ob 6 = some ⟨448, .cells [.sl ta false h.ss.length (h.ss.flatMap strC), Kv, Lv]⟩ ∧ Grow w.tk N0 w.nx txnC 3 ((h.ts.take i).map (erT h)) Lv) rfl rfl ⟨by simp, by simp, by simp [hN0]; omega, _, by simp [o6]; rfl, by simpa using Grow.nil _ _ _ _ _⟩ ?_
    rintro i w hi ⟨w10, wob, wnx, Lv, w6, wG⟩ f
    have w1 : w.tm 1 = .ptr 2 0 0 := by rw [f.t 1 (by simp)]; simp [f1]
    have w2 : w.tm 2 = .ptr 4 64 0 := by rw [f.t 2 (by simp)]; simp [f2]
    have w3 : w.tm 3 = .ptr 6 448 0 := by rw [f.t 3 (by simp)]; simp [f3]
    have w4 : w.tm 4 = .sl (some (u, 1)) false h.ks.length ((toList h h.ks.length).flatMap intC) := by rw [f.t 4 (by simp)]; simp [h4]
    have wd : w.df = [] := by rw [f.d]; simp [fd]
    have wb : w.fb = 0 := by rw [f.b]; simp [fb]
    have wr : w.ro = 0 := by rw [f.r]; simp [fr]
    clear f
    have wo2 := (wob 2 (by decide) (by decide) (by decide)).trans o2
    have wo4 := (wob 4 (by decide) (by decide) (by decide)).trans o4
    by_cases hlt : i < h.ts.length
    · have hw := wrapU hlt (by omega)
      obtain ⟨t, ht⟩ : ∃ t, h.ts[i] = t := ⟨_, rfl⟩
      have htm : t ∈ h.ts := ht ▸ List.getElem_mem hlt
      have hos := hs.os t htm
      have hfs : (h.ts.flatMap txnC)[i * 3]? = some (.int .i64 t.s) := by
        have := fld_at txnC_len h.ts hlt (by decide : 0 < 3)
        rw [Nat.add_zero, ht] at this
        rw [this]; rfl
      have hff : (h.ts.flatMap txnC)[i * 3 + 1]? = some (.int .i64 t.f) := by
        rw [fld_at txnC_len h.ts hlt (by decide : 1 < 3), ht]; rfl
      have hfo : (h.ts.flatMap txnC)[i * 3 + 2]? = some (slOf t.nl opC t.ops) := by
        rw [fld_at txnC_len h.ts hlt (by decide : 2 < 3), ht]; rfl
      simp [w10, w1, wo2, objCells, histC, hlt, idx_slOf txnC_len, hfs, hff, splice, wb, wr]
      refine ⟨by simp [drawOk, indep, disj, fpOf, rdOb, rdTk, lOf, Delta.wo, Delta.wt]; decide, ?_⟩
      refine wpC_gen fun s1 hs1 => ?_
      have b1 : s1.tm 1 = .ptr 2 0 0 := by rw [hs1]; simp [w1]
      have b3 : s1.tm 3 = .ptr 6 448 0 := by rw [hs1]; simp [w3]
      have b4 : s1.tm 4 = .sl (some (u, 1)) false h.ks.length ((toList h h.ks.length).flatMap intC) := by rw [hs1]; simp [w4]
      have b10 : s1.tm 10 = .int .i64 i := by rw [hs1]; simp [w10]
      have b12 : s1.tm 12 = .int .i64 0 := by rw [hs1]; simp
      have b11 : s1.tm 11 = .ptr 22 (w.nx + 64 + 64 + 64 + 64 + 64 + 64 + 64 + 64 + 64 + 64 + 64 + 64 + 64 + 64 + 64 + 64 + 64 + 64) 0 := by rw [hs1]; simp
      have c22 : s1.ob 22 = some ⟨w.nx + 64 + 64 + 64 + 64 + 64 + 64 + 64 + 64 + 64 + 64 + 64 + 64 + 64 + 64 + 64 + 64 + 64 + 64, .cells [.int .i64 t.s, .int .i64 t.f, .sl none true 0 []]⟩ := by rw [hs1]; simp
      have cob : ∀ key, key ≠ 6 → key ≠ 22 → key ≠ 26 → s1.ob key = s.ob key := fun key k1 k2 k3 => by rw [hs1]; simp [k2, wob key k1 k2 k3]
      have c6 : s1.ob 6 = some ⟨448, .cells [.sl ta false h.ss.length (h.ss.flatMap strC), Kv, Lv]⟩ := by rw [hs1]; simp [w6]
      have bt : s1.tk = w.tk := by rw [hs1]; simp [app_tk0]
      have bd : s1.df = [] := by rw [hs1]; simp [wd]
      have bb : s1.fb = 0 := by rw [hs1]; simp [wb]
      have br : s1.ro = 0 := by rw [hs1]; simp [wr]
      have bn : w.nx ≤ s1.nx := by rw [hs1]; simp; omega
      clear hs1
      have c2 := (cob 2 (by decide) (by decide) (by decide)).trans o2
      generalize w.nx + 64 + 64 + 64 + 64 + 64 + 64 + 64 + 64 + 64 + 64 + 64 + 64 + 64 + 64 + 64 + 64 + 64 + 64 = U11 at *
      refine wp_loopUp [(12, 13), (104, 139)] t.ops.length (fun k x => x.tm 12 = .int .i64 k ∧ (∀ key, key ≠ 22 → key ≠ 26 → x.ob key = s1.ob key) ∧ s1.nx ≤ x.nx ∧ (∀ u, u < s1.nx → x.tk u = s1.tk u) ∧
        ∃ Ov, x.ob 22 = some ⟨U11, .cells [.int .i64 t.s, .int .i64 t.f, Ov]⟩ ∧ Grow x.tk s1.nx x.nx opC 4 (erOps h (t.ops.take k)) Ov) rfl rfl ⟨b12, fun _ _ _ => rfl, Nat.le_refl _, fun _ _ => rfl, _, c22, Grow.nil _ _ _ _ _⟩ ?_
      rintro k x hk ⟨x12, xob, xnx, xtk, Ov, x22, xG⟩ f
      have x1 : x.tm 1 = .ptr 2 0 0 := by rw [f.t 1 (by simp), b1]
      have x3 : x.tm 3 = .ptr 6 448 0 := by rw [f.t 3 (by simp), b3]
      have x4 : x.tm 4 = .sl (some (u, 1)) false h.ks.length ((toList h h.ks.length).flatMap intC) := by rw [f.t 4 (by simp), b4]
      have x10 : x.tm 10 = .int .i64 i := by rw [f.t 10 (by simp), b10]
      have x11 : x.tm 11 = .ptr 22 U11 0 := by rw [f.t 11 (by simp), b11]
      have xd : x.df = [] := by rw [f.d, bd]
      have xb : x.fb = 0 := by rw [f.b, bb]
      have xr : x.ro = 0 := by rw [f.r, br]
      clear f
      have xo2 := (xob 2 (by decide) (by decide)).trans c2
      by_cases hkt : k < t.ops.length
      · have hw' := wrapU hkt (by omega)
        obtain ⟨o, ho⟩ : ∃ o, t.ops[k] = o := ⟨_, rfl⟩
        have hoo : o ∈ opsOf h := List.mem_flatMap.2 ⟨t, htm, ho ▸ List.getElem_mem hkt⟩
        have hkey := may_ops hm hoo
        have hsn := erOps_snoc h (t.ops.take k) o
        have htk1 : t.ops.take (k + 1) = t.ops.take k ++ [o] := by rw [List.take_succ_eq_append_getElem hkt, ho]
        rw [← htk1] at hsn
        have hidx : idxSlV 1 (.sl (some (u, 1)) false h.ks.length ((toList h h.ks.length).flatMap intC)) (.int .i64 o.key) = some (.eptr ((toList h h.ks.length).flatMap intC) o.key.toNat) := by
          have := idx_sl intC_len (some (u, 1)) false (toList h h.ks.length) .i64 (i := o.key.toNat) (by rw [toList_len]; omega)
          rw [toList_len, Nat.mul_one, Int.toNat_of_nonneg hkey.1] at this
          exact this
        have hval : ((toList h h.ks.length).flatMap intC)[o.key.toNat]? = some (.int .i64 (toK h o.key.toNat : Nat)) := by
          have hl : o.key.toNat < (toList h h.ks.length).length := by rw [toList_len]; omega
          rw [int_at _ hl]
          have := toList_at h h.ks.length o.key.toNat (by omega)
          rw [List.getElem?_eq_getElem hl, Option.some.injEq] at this
          rw [this]
        simp [x12, x1, x10, xo2, objCells, histC, hlt, idx_slOf txnC_len, hfo, hkt, idx_slOf opC_len, load_slOf opC_len, ho, opC, xb, xr, splice]
        cases hl : (o.v.kind == 2)
        · have hl' : (o.v.kind != 2) = true := by simpa using hl
          have hkp : keepB o = true := by unfold keepB; rw [hl]; rfl
          rw [hkp] at hsn
          simp only [if_true] at hsn
          have hel := erOps_le h (t.ops.take k)
          have hel2 : (t.ops.take k).length ≤ 1000 := by rw [List.length_take]; omega
          obtain ⟨tO, hOv⟩ := xG.form
          simp [hl', x4, hidx, hval, objCells, xr, splice, x11, x22]
          refine kS_buildSl (cs := opC (reK h o)) (by simp [splice, opC, reK]) rfl (by simp [opC]) ?_
          simp
          refine kS_appendG (f := opC) (lo := s1.nx) (hi := x.nx) (l := erOps h (t.ops.take k)) (a := reK h o) (v := Ov) (xG.mono (fun u _ _ h => by simp [app_tk, h]) (Nat.le_refl _)) (by simp) (by simp [slCells, opC, reK]) opC_len (by decide) (by simp [opC]) (by omega) (by omega) (fun del hdel => ?_)
          have hne : erOps h (t.ops.take (k + 1)) ≠ [] := by rw [hsn]; simp
          have hlen : (erOps h (t.ops.take k)).length + 1 = (erOps h (t.ops.take (k + 1))).length := by rw [hsn]; simp
          rw [← hsn, hlen]
          simp [x11, x22, objCells, xr, splice, x12, hw', hOv]
          refine ⟨hkt, fun key k1 k2 => by simp [k1, k2]; exact xob key k1 k2, by omega, fun v hv => ?_, .inr ⟨hne, _, rfl, by simp [app_tk], by omega, by omega⟩⟩
          have hdl : ¬ del = some v := fun e => by have := hdel v e; omega
          simp [hdl]
          rw [decide_eq_false (by omega), decide_eq_false (by omega), Bool.false_or, Bool.false_or]
          exact xtk v hv
        · have hl' : (o.v.kind != 2) = false := by simpa using hl
          have hkp : keepB o = false := by unfold keepB; rw [hl]; rfl
          rw [hkp] at hsn
          simp only [Bool.false_eq_true, if_false, List.append_nil] at hsn
          simp [hl', x12, hw']
          refine ⟨hkt, fun key k1 k2 => by simp [k2]; exact xob key k1 k2, by omega, by simpa [app_tk0] using xtk, Ov, x22, by rw [hsn]; exact xG.mono (fun u _ _ h => by simpa [app_tk0] using h) (by omega)⟩
      · have : k = t.ops.length := by omega
        subst this
        rw [List.take_length] at xG
        obtain ⟨tO, hOv⟩ := xG.form
        have x6 := (xob 6 (by decide) (by decide)).trans c6
        have xw : Grow x.tk N0 s1.nx txnC 3 ((h.ts.take i).map (erT h)) Lv := wG.mono (fun u _ hu h => by rw [xtk u (by omega), bt]; exact h) bn
        obtain ⟨tL, hLv⟩ := xw.form
        have hlen3 : ((h.ts.take i).map (erT h)).length ≤ 1000 := by rw [List.length_map, List.length_take]; omega
        simp [x12, x1, x10, xo2, objCells, histC, hlt, idx_slOf txnC_len, hfo, x3, x6, x11, x22, hOv]
        refine kS_buildSl (cs := [.int .i64 t.s, .int .i64 t.f, .sl tO (erOps h t.ops).isEmpty (erOps h t.ops).length ((erOps h t.ops).flatMap opC)]) (by simp [splice]) rfl (by simp) ?_
        simp
        refine kS_appendG (f := txnC) (lo := N0) (hi := s1.nx) (l := (h.ts.take i).map (erT h)) (a := erT h t) (v := Lv) (xw.mono (fun u _ _ h => by simp [app_tk, h]) (Nat.le_refl _)) (by simp [hLv]) (by simp [slCells, txnC, erT, slOf]) txnC_len (by decide) (by simp [txnC]) (by omega) (by omega) (fun del hdel => ?_)
        have hsn : (h.ts.take (i + 1)).map (erT h) = (h.ts.take i).map (erT h) ++ [erT h t] := by rw [List.take_succ_eq_append_getElem hlt, ht]; simp
        have hne : (h.ts.take (i + 1)).map (erT h) ≠ [] := by rw [hsn]; simp
        have hlen : ((h.ts.take i).map (erT h)).length + 1 = ((h.ts.take (i + 1)).map (erT h)).length := by rw [hsn]; simp
        rw [← hsn, hlen]
        obtain ⟨M, hM⟩ : ∃ M, (h.ts.take (i + 1)).map (erT h) = M := ⟨_, rfl⟩
        have hM' : (h.ts.map (erT h)).take (i + 1) = M := by rw [← List.map_take]; exact hM
        obtain ⟨tK, hKv⟩ := hG.form
        rw [hM] at hne ⊢
        simp [x3, x6, objCells, x10, hw, xr, splice, hLv, hKv]
        refine ⟨hlt, fun key k1 k2 k3 => by simp [k1]; exact (xob key k2 k3).trans (cob key k1 k2 k3), by omega, ?_⟩
        rw [hM']
        exact .inr ⟨hne, _, rfl, by simp [app_tk], by omega, by omega⟩
    · have : i = h.ts.length := by omega
      subst this
      rw [List.take_length] at wG
      obtain ⟨tl, hLv⟩ := wG.form
      obtain ⟨tK, hKv⟩ := hG.form
      simp [w10, w1, wo2, objCells, histC, w3, w6, hLv, hKv, w2, wo4, wr, splice]
      subst hP
      have he : (erR h).ts.length = h.ts.length := by simp [erR, erP]
      refine endH1 (g := erR h) (l := 4) (u := 64) (x := .sl ta false h.ss.length (h.ss.flatMap strC)) (y := .sl tK (keptTo h h.ks.length).isEmpty (keptTo h h.ks.length).length ((keptTo h h.ks.length).flatMap strC)) (z := .sl tl h.ts.isEmpty h.ts.length ((h.ts.map (erT h)).flatMap txnC)) (by simp [wd]) (by simp [w2]) (by simp) (slOut_sl _ _ _ _ _) (slOut_sl _ _ _ _ _) ?_
      rw [he]
      exact slOut_sl _ _ _ _ _
end Go.Pv.T

/- Products. -/
namespace Go.Pv.T
open Go Go.Pv

theorem kS_evV {E : Env} {Yf : YF} {st : St} {ub : Nat} {K : St → Nat → Prop} {d : Option Nat} {nm : Bool} {q : A} {xs : List A} {f : FuncId} {first captured args : List V} {v : V} (hev : Ev E f args v) (hq : eval E st.tm q = .fn (.func f) first captured)
    (hx : (first ++ xs.map (eval E st.tm) ++ captured).map V.strip = args) (hs : E.sh f = false) (hp : args.all V.pureTop = true) (h : wpD (retA ub v) (kApp K st d ub)) : wpStep E Yf ⟨d, .callV q xs, none, nm⟩ st ub K := by
  refine wpS_callV hq ⟨⟨hs, ?_⟩, v, by rw [hx]; exact hev, h⟩
  rw [← hx, List.all_map] at hp
  exact hp
theorem evn69 (n : Int) : Ev E 69 [.int .i64 n] (.bool (decide (n < 0))) := by
  refine Ev_wpK (af := F69) rfl ?_
  simp [F69]
  exact endV_1 rfl (by simp) rfl
@[simp] theorem fn_strip0 (f : Fn) : (V.fn f [] []).strip = .fn f [] [] := rfl
@[simp] theorem fn_pureTop0 (f : Fn) : (V.fn f [] []).pureTop = true := rfl
theorem evn106 (nl : Bool) (l : List Int) (hl : l.length ≤ 1000000000) (h0 : ∀ n ∈ l, 0 ≤ n) : Ev E 106 [slOf nl intC l, .fn (.func 69) [] []] (.int .i64 (-1)) := by
  refine Ev_wpK (af := F106) rfl ?_
  simp [F106]
  refine wp_loopUp [(4, 5), (8, 18)] l.length (fun i s => s.tm 8 = .int .i64 i) rfl rfl (by simp) ?_
  rintro i s hi h8 f
  have f0 : s.tm 0 = slOf nl intC l := by rw [f.t 0 (by simp)]; simp
  have f1 : s.tm 1 = .fn (.func 69) [] [] := by rw [f.t 1 (by simp)]; simp
  have f7 : s.tm 7 = .int .i64 l.length := by rw [f.t 7 (by simp)]; simp
  have fd : s.df = [] := by rw [f.d]; simp
  clear f
  by_cases hlt : i < l.length
  · have hw := wrapU hlt hl
    have hn := h0 _ (List.getElem_mem hlt)
    obtain ⟨n, hn'⟩ : ∃ n, l[i] = n := ⟨_, rfl⟩
    have hat := int_at l hlt
    rw [hn'] at hat hn
    have hd : decide (n < 0) = false := dlt_f hn
    simp [h8, f0, f1, f7, hlt, idx_slOf intC_len, hat]
    refine kS_evV (f := 69) (first := []) (captured := []) (evn69 n) (by simp) (by simp) rfl rfl ?_
    rw [hd]
    simp [h8, hw]
    exact hlt
  · have : i = l.length := by omega
    subst this
    simp [h8, f7]
    exact endV_1 (by simp [fd]) (by simp) rfl
theorem evn68 (nl : Bool) (l : List Int) (hl : l.length ≤ 1000000000) (h0 : ∀ n ∈ l, 0 ≤ n) : Ev E 68 [slOf nl intC l, .fn (.func 69) [] []] (.bool false) := by
  refine Ev_wpK (af := F68) rfl ?_
  simp [F68]
  refine kS_ev (evn106 nl l hl h0) (by simp) rfl (by simp) ?_
  simp
  exact endV_1 rfl (by simp) rfl
/-- The product, or too long. -/
def prP : Int → List Int → Int × Int
  | p, [] => (p, 0)
  | p, n :: l => if 0 < n ∧ Int.tdiv 4611686018427387904 n < p then (0, 6) else prP (p * n) l
theorem prP_step {p n : Int} (h0 : 0 ≤ p) (hn : 0 ≤ n) (h : ¬ (0 < n ∧ Int.tdiv 4611686018427387904 n < p)) : 0 ≤ p * n ∧ p * n ≤ 4611686018427387904 := by
  refine ⟨Int.mul_nonneg h0 hn, ?_⟩
  rcases Int.lt_or_eq_of_le hn with h1 | rfl
  · have h2 : p ≤ Int.tdiv 4611686018427387904 n := by
      rcases Int.lt_or_le (Int.tdiv 4611686018427387904 n) p with h3 | h3
      · exact absurd ⟨h1, h3⟩ h
      · exact h3
    rw [Int.tdiv_eq_ediv_of_nonneg (by decide)] at h2
    exact Int.mul_le_of_le_ediv h1 h2
  · simp
theorem prP_drop {l : List Int} {i : Nat} (h : i < l.length) (p : Int) : prP p (l.drop i) = if 0 < l[i] ∧ Int.tdiv 4611686018427387904 l[i] < p then (0, 6) else prP (p * l[i]) (l.drop (i + 1)) := by
  rw [List.drop_eq_getElem_cons h]; rfl
theorem tdiv_big {n : Int} (h : 0 < n) : IntKind.i64.wrap (Int.tdiv 4611686018427387904 n) = Int.tdiv 4611686018427387904 n := by
  rw [Int.tdiv_eq_ediv_of_nonneg (by decide)]
  have h1 : 0 ≤ 4611686018427387904 / n := Int.ediv_nonneg (by decide) (by omega)
  have h2 : 4611686018427387904 / n ≤ 4611686018427387904 := Int.ediv_le_self _ (by decide)
  exact wrap64' (by omega) (by omega)
def prV (x : Int × Int) : V := .tup [.int .i64 x.1, .int .i64 x.2]
theorem evn19 (nl : Bool) (l : List Int) (hl : l.length ≤ 1000000000) (h0 : ∀ n ∈ l, 0 ≤ n) : Ev E 19 [slOf nl intC l] (prV (prP 1 l)) := by
  refine Ev_wpK (af := F19) rfl ?_
  obtain ⟨R, hR⟩ : ∃ R, prP 1 l = R := ⟨_, rfl⟩
  rw [hR]
  simp [F19]
  refine kS_ev (evn68 nl l hl h0) (by simp) rfl (by simp) ?_
  simp
  refine wp_loopUp [(2, 6), (11, 26)] l.length (fun i s => s.tm 11 = .int .i64 i ∧ ∃ p, s.tm 4 = .int .i64 p ∧ 0 ≤ p ∧ p ≤ 4611686018427387904 ∧ prP p (l.drop i) = R) rfl rfl ⟨by simp, 1, by simp [hR]⟩ ?_
  rintro i s hi ⟨h11, p, h4, hp0, hp1, hpr⟩ f
  have f9 : s.tm 9 = slOf nl intC l := by rw [f.t 9 (by simp)]; simp
  have f10 : s.tm 10 = .int .i64 l.length := by rw [f.t 10 (by simp)]; simp
  have fd : s.df = [] := by rw [f.d]; simp
  clear f
  by_cases hlt : i < l.length
  · have hw := wrapU hlt hl
    have hn := h0 _ (List.getElem_mem hlt)
    rw [prP_drop hlt] at hpr
    obtain ⟨n, hn'⟩ : ∃ n, l[i] = n := ⟨_, rfl⟩
    have hat := int_at l hlt
    rw [hn'] at hat hn hpr
    by_cases hpos : 0 < n
    · have hnz : ¬ n = 0 := by omega
      have ht := tdiv_big hpos
      by_cases hbig : Int.tdiv 4611686018427387904 n < p
      · rw [if_pos ⟨hpos, hbig⟩] at hpr
        simp [h11, f9, f10, hlt, idx_slOf intC_len, hat, h4, hpos, hnz, ht, hbig]
        exact endV_2 (by simp [fd]) (by simp [← hpr]) (by simp [← hpr]) rfl rfl
      · rw [if_neg (fun h => hbig h.2)] at hpr
        have hs := prP_step hp0 hn (fun h => hbig h.2)
        have hwp : IntKind.i64.wrap (p * n) = p * n := wrap64' (by omega) (by omega)
        simp [h11, f9, f10, hlt, idx_slOf intC_len, hat, h4, hpos, hnz, ht, hbig, hwp, hw]
        exact ⟨hs.1, hs.2, hpr⟩
    · rw [if_neg (fun h => hpos h.1)] at hpr
      have hs := prP_step hp0 hn (fun h => hpos h.1)
      have hwp : IntKind.i64.wrap (p * n) = p * n := wrap64' (by omega) (by omega)
      simp [h11, f9, f10, hlt, idx_slOf intC_len, hat, h4, hpos, hwp, hw]
      exact ⟨hs.1, hs.2, hpr⟩
  · have : i = l.length := by omega
    subst this
    rw [List.drop_length, prP] at hpr
    simp [h11, f10, h4]
    exact endV_2 (by simp [fd]) (by simp [← hpr]) (by simp [← hpr]) rfl rfl

theorem evo20 {ob : Nat → Option Obj'} {l u : Nat} (vs : List Int) (ho : ob l = some ⟨u, .cells (vs.flatMap intC)⟩) (hl : vs.length ≤ 1000000000) (h0 : ∀ n ∈ vs, 0 ≤ n) (tk : Nat → Bool) (base ub : Nat) : EvO E 20 [.osl l u 0 vs.length 1] ob tk base ub (prV (prP 1 vs)) := by
  refine EvO_wpK (af := S20) rfl ?_
  obtain ⟨R, hR⟩ : ∃ R, prP 1 vs = R := ⟨_, rfl⟩
  rw [hR]
  have hoc : objCells ob l u = some (vs.flatMap intC) := by simp [objCells, ho]
  simp [S20]
  refine wp_loopUp [(2, 3), (5, 5), (7, 17)] vs.length (fun i s => s.tm 5 = .int .i64 i ∧ s.ob = ob) rfl rfl ⟨by simp, by simp⟩ ?_
  rintro i s hi ⟨h5, hob⟩ f
  have f0 : s.tm 0 = .osl l u 0 vs.length 1 := by rw [f.t 0 (by simp)]; simp
  have f4 : s.tm 4 = .int .i64 1 := by rw [f.t 4 (by simp)]; simp
  have fd : s.df = [] := by rw [f.d]; simp
  clear f
  by_cases hlt : i < vs.length
  · have hw := wrapU hlt hl
    have hn := h0 _ (List.getElem_mem hlt)
    obtain ⟨n, hn'⟩ : ∃ n, vs[i] = n := ⟨_, rfl⟩
    have hat := int_at vs hlt
    rw [hn'] at hat hn
    have hio := idx_osl (l := l) (u := u) (n := vs.length) (kk := .i64) (x := (i : Int)) (by omega) (by omega)
    have hd : decide (n < 0) = false := dlt_f hn
    have hn0 : ¬ n < 0 := by omega
    simp [h5, f0, hlt, hio, hob, hoc, hat, hn0, hw]
  · have : i = vs.length := by omega
    subst this
    simp [h5, f0]
    refine wp_loopUp [(2, 4), (6, 6), (18, 43)] vs.length (fun i s => s.tm 6 = .int .i64 i ∧ s.ob = ob ∧ ∃ p, s.tm 4 = .int .i64 p ∧ 0 ≤ p ∧ p ≤ 4611686018427387904 ∧ prP p (vs.drop i) = R) rfl rfl ⟨by simp, by simp [hob], 1, by simp [f4], by decide, by decide, by simp [hR]⟩ ?_
    rintro i s' hi' ⟨h6, hob', p, h4, hp0, hp1, hpr⟩ f
    have f0' : s'.tm 0 = .osl l u 0 vs.length 1 := by rw [f.t 0 (by simp)]; simp [f0]
    have fd' : s'.df = [] := by rw [f.d]; simp [fd]
    clear f
    by_cases hlt : i < vs.length
    · have hw := wrapU hlt hl
      have hn := h0 _ (List.getElem_mem hlt)
      rw [prP_drop hlt] at hpr
      obtain ⟨n, hn'⟩ : ∃ n, vs[i] = n := ⟨_, rfl⟩
      have hat := int_at vs hlt
      rw [hn'] at hat hn hpr
      have hio := idx_osl (l := l) (u := u) (n := vs.length) (kk := .i64) (x := (i : Int)) (by omega) (by omega)
      by_cases hpos : 0 < n
      · have hnz : ¬ n = 0 := by omega
        have ht := tdiv_big hpos
        by_cases hbig : Int.tdiv 4611686018427387904 n < p
        · rw [if_pos ⟨hpos, hbig⟩] at hpr
          simp [h6, f0', hlt, hio, hob', hoc, hat, h4, hpos, hnz, ht, hbig]
          exact endV_2 (by simp [fd']) (by simp [← hpr]) (by simp [← hpr]) rfl rfl
        · rw [if_neg (fun h => hbig h.2)] at hpr
          have hs := prP_step hp0 hn (fun h => hbig h.2)
          have hwp : IntKind.i64.wrap (p * n) = p * n := wrap64' (by omega) (by omega)
          simp [h6, f0', hlt, hio, hob', hoc, hat, h4, hpos, hnz, ht, hbig, hwp, hw]
          exact ⟨hs.1, hs.2, hpr⟩
      · rw [if_neg (fun h => hpos h.1)] at hpr
        have hs := prP_step hp0 hn (fun h => hpos h.1)
        have hwp : IntKind.i64.wrap (p * n) = p * n := wrap64' (by omega) (by omega)
        simp [h6, f0', hlt, hio, hob', hoc, hat, h4, hpos, hwp, hw]
        exact ⟨hs.1, hs.2, hpr⟩
    · have : i = vs.length := by omega
      subst this
      rw [List.drop_length, prP] at hpr
      simp [h6, f0', h4]
      exact endV_2 (by simp [fd']) (by simp [← hpr]) (by simp [← hpr]) rfl rfl

/-- Ints, in an object of one's own, or none. -/
def IntsAt (ob : Nat → Option Obj') (nx : Nat) (l : List Int) (v : V) : Prop :=
  (l = [] ∧ v = .sl none true 0 []) ∨ (l ≠ [] ∧ ∃ L u, v = .osl L u 0 l.length 1 ∧ ob L = some ⟨u, .cells (l.flatMap intC)⟩ ∧ u < nx ∧ L = 2 * u + 1)
/-- The object that it is. -/
def isObj (v : V) (key : Nat) : Prop := ∃ u n s, v = .osl key u 0 n s
theorem evs65 {Yf : YF} (n : Int) (many : Nat) (hm : many ≤ 1000000) {ob : Nat → Option Obj'} {tk : Nat → Bool} {base ub : Nat} {l : List Int} (hl : l.length ≤ 2000000) {v : V} (hv : IntsAt ob ub l v) :
    ∃ r, EvS E Yf.y 65 [v, .int .i64 n, .int .i64 many] ob tk 0 base ub r ∧ IntsAt r.2.1 r.2.2.2 (l ++ List.replicate many n) r.1 ∧ (∀ key, ¬ isObj v key → (∀ m, ub ≤ m → key ≠ 2 * m + 1) → r.2.1 key = ob key) ∧ r.2.2.1 = tk ∧ ub ≤ r.2.2.2 := by
  refine EvS_wp (af := S65) rfl (by decide) ?_
  show wpC E Yf S65.body _ (kEndS S65.res _)
  generalize hP : (fun r : V × (Nat → Option Obj') × (Nat → Bool) × Nat => IntsAt r.2.1 r.2.2.2 (l ++ List.replicate many n) r.1 ∧ (∀ key, ¬ isObj v key → (∀ m, ub ≤ m → key ≠ 2 * m + 1) → r.2.1 key = ob key) ∧ r.2.2.1 = tk ∧ ub ≤ r.2.2.2) = P
  simp [S65]
  refine wp_loopUp [(0, 0), (7, 16)] many (fun i s => s.tm 7 = .int .i64 i ∧ IntsAt s.ob s.nx (l ++ List.replicate i n) (s.tm 0) ∧ (∀ key, ¬ isObj v key → (∀ m, ub ≤ m → key ≠ 2 * m + 1) → s.ob key = ob key) ∧ s.tk = tk ∧ ub ≤ s.nx ∧
    (∀ key, isObj (s.tm 0) key → isObj v key ∨ ∃ m, ub ≤ m ∧ key = 2 * m + 1)) rfl rfl ?_ ?_
  · refine ⟨by simp, ?_, by simp, by simp, by simp; omega, by simp; intro key h; exact .inl h⟩
    simp
    rcases hv with h' | ⟨hne, L, u, h1, h2, h3, h4⟩
    · exact .inl h'
    · exact .inr ⟨hne, L, u, h1, h2, by omega, h4⟩
  · rintro i s hi ⟨h7, hI, hfr, htk, hnx, hkey⟩ f
    have f1 : s.tm 1 = .int .i64 n := by rw [f.t 1 (by simp)]; simp
    have f2 : s.tm 2 = .int .i64 many := by rw [f.t 2 (by simp)]; simp
    have fd : s.df = [] := by rw [f.d]; simp
    have fr : s.ro = 0 := by rw [f.r]; simp
    clear f
    by_cases hlt : i < many
    · have hw := wrapU hlt (by omega)
      have hrep : l ++ List.replicate (i + 1) n = (l ++ List.replicate i n) ++ [n] := by rw [List.replicate_succ', List.append_assoc]
      have hll : (l ++ List.replicate i n).length ≤ 3000000 := by simp; omega
      simp [h7, f1, f2, hlt]
      refine kS_buildSlO (cs := [.int .i64 n]) (by simp [splice]) rfl rfl ?_
      simp
      have hrep' : l ++ n :: List.replicate i n = (l ++ List.replicate i n) ++ [n] := by rw [← hrep]; rfl
      obtain ⟨li, hli⟩ : ∃ li, l ++ List.replicate i n = li := ⟨_, rfl⟩
      rw [hli] at hI hll hrep' hrep
      rcases hI with ⟨hnil, h0⟩ | ⟨hne, L, u, h0, h2, h3, h4⟩
      · refine kS_appendO_nil (n := 0) (cs := []) (ys := [.int .i64 n]) (by simp [h0]) (by simp [slCells, objCells]) (by simp) (by decide) rfl (by simp) (by simp) ?_
        simp [h7, hw]
        refine ⟨hlt, ?_, ?_, ?_, by omega, ?_⟩
        · first | rw [hrep'] | rw [hrep]
          rw [hnil]
          exact .inr ⟨by simp, _, _, rfl, by simp [intC], by omega, rfl⟩
        · intro key k1 k2
          rw [if_neg (k2 _ (by omega)), if_neg (k2 _ (by omega))]
          exact hfr key k1 k2
        · simp [app_tk0, htk]
        · rintro key ⟨u', n', s', e⟩
          cases e
          exact .inr ⟨_, by omega, rfl⟩
      · have v3 : ¬ L = 2 * (s.nx + 64 + 64 + 64 + 64 + 64) + 1 := by omega
        refine kS_appendO (l := L) (u := u) (n := li.length) (cs := li.flatMap intC) (ys := [.int .i64 n]) (by simp [h0]) (by simp [slCells, objCells]) (by simp [v3, h2]) (by simp) (by simp [fr]) (by rw [flatMap_len intC_len]; omega) (by decide) rfl (by simp; omega) (by simp; omega) ?_
        simp [h7, hw]
        refine ⟨hlt, ?_, ?_, ?_, by omega, ?_⟩
        · first | rw [hrep'] | rw [hrep]
          refine .inr ⟨by simp, 2 * (s.nx + 64 + 64 + 64 + 64 + 64 + 64) + 1, s.nx + 64 + 64 + 64 + 64 + 64 + 64, by simp, ?_, by omega, rfl⟩
          simp [show intC n = [.int .i64 n] from rfl]
          exact List.take_of_length_le (by rw [flatMap_len intC_len]; omega)
        · intro key k1 k2
          have hkL : ¬ key = L := fun e => by
            rcases hkey L (by rw [h0]; exact ⟨u, _, _, rfl⟩) with h' | ⟨m, hm1, hm2⟩
            · exact k1 (e ▸ h')
            · exact k2 m hm1 (e ▸ hm2)
          rw [if_neg (k2 _ (by omega)), if_neg hkL, if_neg (k2 _ (by omega))]
          exact hfr key k1 k2
        · simp [app_tkk, htk]
        · rintro key ⟨u', n', s', e⟩
          cases e
          exact .inr ⟨_, by omega, rfl⟩
    · have : i = many := by omega
      subst this
      simp [h7, f2]
      refine ⟨(s.tm 0, s.ob, s.tk, s.nx + 64 + 64 + 64 + 64 + 64), ?_, ?_⟩
      · simp [endS, resOf, fd]
      · rw [← hP]
        refine ⟨?_, hfr, htk, by show ub ≤ s.nx + 64 + 64 + 64 + 64 + 64; omega⟩
        rcases hI with h' | ⟨hne, L, u, h1, h2, h3, h4⟩
        · exact .inl h'
        · exact .inr ⟨hne, L, u, h1, h2, by show u < s.nx + 64 + 64 + 64 + 64 + 64; omega, h4⟩
end Go.Pv.T

/- Which transactions may have committed; which reads were lost. -/
namespace Go.Pv.T
open Go Go.Pv

def SlR (v : V) (nl : Bool) (n : Nat) (cs : List V) : Prop := ∃ t : Option (Nat × Nat), v = .sl t nl n cs ∧ ∀ p ∈ t.toList, p.1 < 64
theorem sl_end {st : St} {n k : Nat} {t : Option (Nat × Nat)} {nl : Bool} {cs : List V} (hd : st.df = []) (h : st.tm n = .sl t nl k cs) : ∃ r, endV [.t n] (.ret, st) = some r ∧ SlR r nl k cs := by
  have hres : [ARes.t n].mapM (resOf st) = some [.sl t nl k cs] := by simp [resOf, h]
  obtain ⟨a, ha, ha'⟩ := slOut_sl st t nl k cs (nodup (List.flatMap V.toks [.sl t nl k cs])) 0
  refine ⟨.sl a nl k cs, ?_, a, rfl, ?_⟩
  · simp only [endV, dfOk_of hd, noDf_of hd, if_true, hres, Option.bind_some, outRes]
    generalize nodup (List.flatMap V.toks [.sl t nl k cs]) = keep at *
    have e : outTop st keep 0 (.sl t nl k cs) = some (.sl a nl k cs) := ha
    simp only [outTops, e, Option.bind_some, Option.map_some]
    have hnd : nodup (List.flatMap V.toks [.sl a nl k cs]) = true := by
      rcases ha' with rfl | ⟨_, rfl⟩ <;> rfl
    show (if nodup (List.flatMap V.toks [.sl a nl k cs]) = true then some (V.sl a nl k cs) else none) = _
    rw [if_pos hnd]
  · intro p hp
    rcases ha' with rfl | ⟨_, rfl⟩
    · simp at hp
    · simp at hp; subst hp; simp
theorem retA_sl {ub : Nat} {v : V} {nl : Bool} {n : Nat} {cs : List V} (h : SlR v nl n cs) : ∃ t add, retA ub v = some { v := .sl t nl n cs, add := add } := by
  obtain ⟨t, rfl, hlt⟩ := h
  cases t with
  | none => exact ⟨none, [], rfl⟩
  | some p =>
    have := hlt p (by simp)
    refine ⟨some (ub + p.1, p.2), [ub + p.1], ?_⟩
    rw [retA, if_pos (by simp [toksRes, V.toks, V.tok, Nat.blt_eq, this])]
    rfl
theorem slE {st : St} {n k : Nat} {t : Option (Nat × Nat)} {nl : Bool} {cs : List V} {P : V → Prop} (hP : ∀ r, SlR r nl k cs → P r) (hd : st.df = []) (h : st.tm n = .sl t nl k cs) : kEndE [.t n] P .ret st := by
  obtain ⟨r, h1, h2⟩ := sl_end hd h
  exact ⟨r, h1, hP r h2⟩

def NumR (l : List Int) (v : V) : Prop := ∃ nl, SlR v nl l.length (l.flatMap intC)
theorem ev101 (t : Txn') : Ev E 101 [.agg (txnC t)] (.bool (isInfo t)) := by
  refine Ev_wpK (af := F101) rfl ?_
  simp [F101, txnC, objCells]
  exact endV_1 rfl (by simp [isInfo]) rfl
theorem may_err {g : Hist'} (hm : mayH g = true) : errH g = 0 := by unfold errH; rw [hm]; rfl
theorem ev100 {g : Hist'} (hs : Small g) (hm : mayH g = true) : ∃ v, Ev E 100 [.agg (histC g), .fn (.func 101) [] []] v ∧ NumR (infosH g) v := by
  have e70 := ev70 hs
  rw [may_err hm] at e70
  have hts := hs.ts
  refine Ev_wpE (af := F100) rfl (by decide) ?_
  simp [F100, histC, objCells]
  refine kS_ev e70 (by simp [histC]) rfl (by simp [histC]) ?_
  simp [objCells]
  refine wp_loopUp [(4, 7), (14, 26)] g.ts.length (fun i s => s.tm 14 = .int .i64 i ∧ Grow s.tk 0 s.nx intC 1 (numsTo isInfo g.ts i) (s.tm 5)) rfl rfl ⟨by simp, by simp [numsTo]; exact Grow.nil _ _ _ _ _⟩ ?_
  rintro i s hi ⟨h14, hG⟩ f
  have f1 : s.tm 1 = .fn (.func 101) [] [] := by rw [f.t 1 (by simp)]; simp
  have f12 : s.tm 12 = slOf g.tn txnC g.ts := by rw [f.t 12 (by simp)]; simp
  have f13 : s.tm 13 = .int .i64 g.ts.length := by rw [f.t 13 (by simp)]; simp
  have fd : s.df = [] := by rw [f.d]; simp
  have fb : s.fb = 0 := by rw [f.b]; simp
  have fr : s.ro = 0 := by rw [f.r]; simp
  clear f
  by_cases hlt : i < g.ts.length
  · have hw := wrapU hlt (by omega)
    have hsn := numsTo_succ (p := isInfo) hlt
    obtain ⟨t, ht⟩ : ∃ t, g.ts[i] = t := ⟨_, rfl⟩
    rw [ht] at hsn
    have hll := numsTo_len isInfo g.ts i
    simp [h14, f12, f13, hlt, idx_slOf txnC_len, load_slOf txnC_len, ht, txnC, objCells, fb, fr, splice, f1]
    refine kS_evV (f := 101) (first := []) (captured := []) (ev101 t) (by simp) (by simp [txnC]) rfl (by simp [txnC]) ?_
    cases hi : isInfo t
    · rw [hi] at hsn
      simp only [Bool.false_eq_true, if_false, List.append_nil] at hsn
      simp [h14, hw]
      exact ⟨hlt, by rw [hsn]; exact hG.mono (fun u _ _ h => by simpa [app_tk0] using h) (by omega)⟩
    · rw [hi] at hsn
      simp only [if_true] at hsn
      simp
      refine kS_buildSl (cs := [.int .i64 i]) (by simp [splice]) rfl rfl ?_
      simp
      refine kS_appendG (f := intC) (lo := 0) (hi := s.nx) (l := numsTo isInfo g.ts i) (a := (i : Int)) (v := s.tm 5) (hG.mono (fun u _ _ h => by simp [app_tk, h]) (Nat.le_refl _)) (by simp) (by simp [slCells, intC]) intC_len (by decide) rfl (by omega) (by omega) (fun del hdel => ?_)
      have hne : numsTo isInfo g.ts (i + 1) ≠ [] := by rw [hsn]; simp
      have hlen : (numsTo isInfo g.ts i).length + 1 = (numsTo isInfo g.ts (i + 1)).length := by rw [hsn]; simp
      rw [← hsn, hlen]
      simp [h14, hw]
      exact ⟨hlt, .inr ⟨hne, _, rfl, by simp [app_tk], Nat.zero_le _, by omega⟩⟩
  · have : i = g.ts.length := by omega
    subst this
    obtain ⟨t, ht⟩ := hG.form
    simp [h14, f13]
    exact slE (t := t) (nl := (numsTo isInfo g.ts g.ts.length).isEmpty) (k := (infosH g).length) (cs := (infosH g).flatMap intC) (fun r h => ⟨_, h⟩) (by simp [fd]) (by simp [ht, infosH])
theorem ev61 {g : Hist'} (hs : Small g) (hm : mayH g = true) : ∃ v, Ev E 61 [.agg (histC g)] v ∧ NumR (infosH g) v := by
  obtain ⟨v, ev, nl, hv⟩ := ev100 hs hm
  refine Ev_wpE (af := F61) rfl (by decide) ?_
  simp [F61, histC, objCells]
  refine kS_ev ev (by simp [histC]) rfl (by simp [histC]) ?_
  obtain ⟨t, add, hr⟩ := retA_sl (ub := 192) hv
  rw [hr]
  simp
  exact slE (t := t) (nl := nl) (k := (infosH g).length) (cs := (infosH g).flatMap intC) (fun r h => ⟨_, h⟩) rfl (by simp)

theorem slE_df {st : St} {n k l u : Nat} {t : Option (Nat × Nat)} {nl : Bool} {cs : List V} {P : V → Prop} (hP : ∀ r, SlR r nl k cs → P r) (hd : st.df = [(l, u)]) (ho : st.ob l = some ⟨u, .dfr⟩) (hr : st.ro ≤ u) (h : st.tm n = .sl t nl k cs) : kEndE [.t n] P .ret st := by
  obtain ⟨r, h1, h2⟩ := sl_end (st := { st with ob := fun k => if Nat.beq l k then none else st.ob k, df := [] }) rfl h
  exact ⟨r, endV_df hd ho hr h1, hP r h2⟩
/-- Places. -/
def placeC (p : Int × Int) : List V := [.int .i64 p.1, .int .i64 p.2]
@[simp] theorem placeC_len (p : Int × Int) : (placeC p).length = 2 := rfl
def lostIn (i : Nat) (ops : List Op') : Nat → List (Int × Int)
  | 0 => []
  | k + 1 => lostIn i ops k ++ (match ops[k]? with | some o => if o.v.kind == 2 then [((i : Int), (k : Int))] else [] | none => [])
def lostTo (ts : List Txn') : Nat → List (Int × Int)
  | 0 => []
  | i + 1 => lostTo ts i ++ (match ts[i]? with | some t => lostIn i t.ops t.ops.length | none => [])
def lostAt (h : Hist') (i k : Nat) : List (Int × Int) := lostTo h.ts i ++ (match h.ts[i]? with | some t => lostIn i t.ops k | none => [])
def lostH (h : Hist') : List (Int × Int) := lostTo h.ts h.ts.length
theorem lostIn_len (i : Nat) (ops : List Op') : ∀ k, (lostIn i ops k).length ≤ k
  | 0 => Nat.le_refl _
  | k + 1 => by
    have := lostIn_len i ops k
    simp only [lostIn, List.length_append]
    split
    · split <;> simp <;> omega
    · simp; omega
set_option maxRecDepth 100000 in
theorem lostTo_len {ts : List Txn'} (h : ∀ t ∈ ts, t.ops.length ≤ 1000) : ∀ i, (lostTo ts i).length ≤ i * 1000
  | 0 => Nat.zero_le _
  | i + 1 => by
    have := lostTo_len h i
    simp only [lostTo, List.length_append]
    rw [show (i + 1) * 1000 = i * 1000 + 1000 by omega]
    split
    · rename_i t ht
      have h1 := lostIn_len i t.ops t.ops.length
      have h2 := h t (List.mem_of_getElem? ht)
      omega
    · simp only [List.length_nil]; omega
theorem lostAt_step {h : Hist'} {i k : Nat} (hi : i < h.ts.length) (hk : k < (h.ts[i]).ops.length) : lostAt h i (k + 1) = lostAt h i k ++ (if (h.ts[i]).ops[k].v.kind == 2 then [((i : Int), (k : Int))] else []) := by
  simp only [lostAt, List.getElem?_eq_getElem hi, lostIn, List.getElem?_eq_getElem hk, List.append_assoc]
theorem lostAt_next {h : Hist'} {i : Nat} (hi : i < h.ts.length) : lostAt h i (h.ts[i]).ops.length = lostAt h (i + 1) 0 := by
  simp only [lostAt, List.getElem?_eq_getElem hi, lostTo]
  cases h.ts[i + 1]? <;> simp [lostIn]
theorem lostAt_end (h : Hist') : lostAt h h.ts.length 0 = lostH h := by simp [lostAt, lostH]
theorem lostAt_zero (h : Hist') : lostAt h 0 0 = [] := by unfold lostAt; cases h.ts[0]? <;> rfl
set_option maxRecDepth 100000 in
theorem lostAt_len {h : Hist'} (hs : Small h) {i k : Nat} (hi : i < h.ts.length) (hk : k ≤ (h.ts[i]).ops.length) : (lostAt h i k).length ≤ 1001000 := by
  have h1 := lostTo_len hs.os i
  have h2 := hs.ts
  have h3 := lostIn_len i (h.ts[i]).ops k
  have h4 := hs.os _ (List.getElem_mem hi)
  simp only [lostAt, List.getElem?_eq_getElem hi, List.length_append]
  have : i * 1000 ≤ 1000 * 1000 := Nat.mul_le_mul_right _ (by omega)
  omega
def PlR (l : List (Int × Int)) (v : V) : Prop := ∃ nl, SlR v nl l.length (l.flatMap placeC)
theorem ev62 {g : Hist'} (hs : Small g) (hm : mayH g = true) : ∃ v, Ev E 62 [.agg (histC g)] v ∧ PlR (lostH g) v := by
  have e70 := ev70 hs
  rw [may_err hm] at e70
  have hts := hs.ts
  refine Ev_wpE (af := F62) rfl (by decide) ?_
  simp [F62, histC, objCells]
  refine kS_ev e70 (by simp [histC]) rfl (by simp [histC]) ?_
  simp [objCells]
  refine kS_callS (vs := [.agg (histC g)]) (by simp [histC]) rfl ?_
  obtain ⟨r, hr, e1, e2, e3, e4⟩ := ev102 (Yf := noYF) g _ _ 0 _ _
  refine ⟨r, hr, ?_⟩
  simp
  refine wpC_gen fun st hst => ?_
  obtain ⟨m, hmm, hmU, g10, p2, p6, pl⟩ : ∃ m, m % 64 = 0 ∧ m < st.nx ∧ st.tm 10 = .fn (.func 146) [] [.ptr (2 * m + 1) m 0] ∧ st.ob 2 = some ⟨0, .cells (histC g)⟩ ∧ (∃ u, st.tm 3 = .ptr 6 u 0 ∧ st.ob 6 = some ⟨u, .cells [.sl none true 0 []]⟩) ∧ st.ob (2 * m + 1) = some ⟨m, .cells (histC g)⟩ := by
    refine ⟨_, ?_, ?_, by rw [hst]; simp only [setN_tm, put, upd_same]; exact e1, ?_, ⟨320, ?_, ?_⟩, ?_⟩
    · decide
    · rw [hst, setN_nx, e4]; omega
    · rw [hst]; simp only [setN_ob]; rw [e2]; simp [histC]
    · rw [hst]; simp [put, upd_apply]
    · rw [hst]; simp only [setN_ob]; rw [e2]; simp
    · rw [hst]; simp only [setN_ob]; rw [e2]; simp
  obtain ⟨u6, g3, p6⟩ := p6
  have gd : st.df = [] := by rw [hst]; simp
  have gb : st.fb = 0 := by rw [hst]; simp
  have gr : st.ro = 0 := by rw [hst]; simp
  clear hst e1 e2 e3 e4 hr
  refine range_opsN g hts (fun t ht => by have := hs.os t ht; omega) rfl rfl rfl (by simpa using g10) pl (by omega) (by omega) gr
    (fun i k ob tk ub => ∃ Lv, ob 6 = some ⟨u6, .cells [Lv]⟩ ∧ Grow tk 0 ub placeC 2 (lostAt g i k) Lv) ?_ ?_ ?_ ?_ ?_
  · rintro i k ob ob' tk ub ub' ⟨Lv, h1, h2⟩ hub hfr
    exact ⟨Lv, (hfr 6 (fun m _ => by omega)).trans h1, h2.mono (fun _ _ _ h => h) hub⟩
  · rintro i hi ob tk ub ⟨Lv, h1, h2⟩
    exact ⟨Lv, h1, by rw [← lostAt_next hi]; exact h2⟩
  · rintro i hi k hk ob tk ub ⟨Lv, h1, h2⟩ w1 w3 hub
    have r1 : ¬ 2 * st.nx + 1 = 8 := by omega
    have r3 : ¬ 2 * st.nx + 1 = 10 := by omega
    have r5 : ¬ 2 * st.nx + 1 = 6 := by omega
    have q1 : ¬ 2 * st.nx + 3 = 8 := by omega
    have q3 : ¬ 2 * st.nx + 3 = 10 := by omega
    have q5 : ¬ 2 * st.nx + 3 = 6 := by omega
    have q7 : ¬ 2 * st.nx + 3 = 2 * st.nx + 1 := by omega
    have b8 : ¬ 8 = 2 * st.nx + 1 := by omega
    have b10 : ¬ 10 = 2 * st.nx + 1 := by omega
    have b6 : ¬ 6 = 2 * st.nx + 1 := by omega
    have hstep := lostAt_step hi hk
    have hll := lostAt_len hs hi (Nat.le_of_lt hk)
    obtain ⟨o, ho⟩ : ∃ o, (g.ts[i]).ops[k] = o := ⟨_, rfl⟩
    rw [ho] at hstep ⊢
    obtain ⟨tL, hLv⟩ := h2.form
    simp [setPs, upd_apply, opC, objCells, gb, splice, r1, r3, w1, b10]
    cases hl : (o.v.kind == 2)
    · rw [hl] at hstep
      simp only [Bool.false_eq_true, if_false, List.append_nil] at hstep
      simp [upd_apply, q1, q3, w3, b6, h1]
      exact ⟨by omega, by rw [hstep]; exact h2.mono (fun u _ _ h => by simpa [app_tk0] using h) (by omega)⟩
    · rw [hl] at hstep
      simp only [if_true] at hstep
      simp [g3, upd_apply, b6, h1, objCells, b8]
      refine kS_buildSl (cs := placeC (i, k)) (by simp [splice, placeC]) rfl rfl ?_
      simp
      refine kS_appendG (f := placeC) (lo := 0) (hi := ub) (l := lostAt g i k) (a := ((i : Int), (k : Int))) (v := Lv) (h2.mono (fun u _ _ h => by simp [app_tk0, app_tk, h]) (Nat.le_refl _)) (by simp) (by simp [slCells, placeC]) placeC_len (by decide) rfl (by omega) (by omega) (fun del hdel => ?_)
      have hne : lostAt g i (k + 1) ≠ [] := by rw [hstep]; simp
      have hlen : (lostAt g i k).length + 1 = (lostAt g i (k + 1)).length := by rw [hstep]; simp
      rw [← hstep, hlen]
      simp [g3, upd_apply, b6, h1, objCells, splice, r5, q5, q1, q3, w3]
      exact ⟨by omega, .inr ⟨hne, _, rfl, by simp [app_tk0, app_tk], Nat.zero_le _, by omega⟩⟩
  · exact ⟨_, p6, by rw [lostAt_zero]; exact Grow.nil _ _ _ _ _⟩
  · rintro ob tk ub ⟨Lv, h1, h2⟩ w3 hub
    rw [lostAt_end] at h2
    obtain ⟨tL, hLv⟩ := h2.form
    simp [g3, objCells, h1, hLv]
    exact slE_df (l := 2 * st.nx + 3) (u := st.nx + 1) (t := tL) (nl := (lostH g).isEmpty) (k := (lostH g).length) (cs := (lostH g).flatMap placeC) (fun r h => ⟨_, h⟩) (by simp [gd]) (by simp [w3]) (by simp [gr]) (by simp)
end Go.Pv.T

/- The reference's lost reads; who writes a key. -/
namespace Go.Pv.T
open Go Go.Pv

/-- A slice that was made, and is being made longer. -/
def GrowT {α : Type} (tk : Nat → Bool) (nx : Nat) (f : α → List V) (sz : Nat) (l : List α) (v : V) : Prop := ∃ u, v = .sl (some (u, sz)) false l.length (l.flatMap f) ∧ tk u = true ∧ u < nx
theorem GrowT.mono {α : Type} {tk tk' : Nat → Bool} {nx nx' : Nat} {f : α → List V} {sz : Nat} {l : List α} {v : V} (h : GrowT tk nx f sz l v) (ht : ∀ u, u < nx → tk u = true → tk' u = true) (hn : nx ≤ nx') : GrowT tk' nx' f sz l v := by
  obtain ⟨u, hv, h1, h2⟩ := h
  exact ⟨u, hv, ht u h2 h1, by omega⟩
theorem kS_appendT {E : Env} {Yf : YF} {st : St} {ub : Nat} {K : St → Nat → Prop} {d : Option Nat} {nm : Bool} {α : Type} {f : α → List V} {sz bytes hi : Nat} {l : List α} {a : α} {v : V} {s x : A} (hg : GrowT st.tk hi f sz l v) (hs : eval E st.tm s = v) (hx : slCells st.ob sz (eval E st.tm x) = some (f a)) (hf : ∀ a, (f a).length = sz) (h0 : 0 < sz)
    (hp : (f a).all V.pureLeaf = true) (hb : (l.length + 1) * bytes ≤ 140737488355328) (hb2 : l.length + 1 ≤ 140737488355328)
    (h : ∀ del : Option Nat, (∀ u, del = some u → u < hi) → kApp K st d ub { v := .sl (some (ub, sz)) false (l.length + 1) ((l ++ [a]).flatMap f), del := del, add := [ub] }) : wpStep E Yf ⟨d, .append false sz bytes s x, none, nm⟩ st ub K := by
  have hne : f a ≠ [] := fun e => by have := hf a; rw [e] at this; simp at this; omega
  have h1 : (f a).length / sz = 1 := by rw [hf]; exact Nat.div_self h0
  obtain ⟨u, rfl, ht, h3⟩ := hg
  refine kS_append_tok hs ht hx hne (by rw [flatMap_len hf]) h0 hp (by rw [h1]; exact hb) (by rw [h1]; exact hb2) ?_
  rw [h1]
  have := h (some u) (fun u' e => by cases e; exact h3)
  simpa using this
theorem ev66 {g : Hist'} (hs : Small g) : ∃ v, Ev E 66 [.agg (histC g)] v ∧ PlR (lostH g) v := by
  have hts := hs.ts
  refine Ev_wpE (af := F66) rfl (by decide) ?_
  simp [F66, histC]
  refine kS_buildSl (cs := []) rfl rfl rfl ?_
  simp
  refine wp_loopUp [(3, 5), (7, 42)] g.ts.length (fun i s => s.tm 4 = .int .i64 i ∧ s.ob 2 = some ⟨0, .cells (histC g)⟩ ∧ GrowT s.tk s.nx placeC 2 (lostAt g i 0) (s.tm 3)) rfl rfl ⟨by simp, by simp [histC], by rw [lostAt_zero]; exact ⟨128, by simp, by simp [app_tk], by simp⟩⟩ ?_
  rintro i s hi ⟨h4, o2, hG⟩ f
  have f1 : s.tm 1 = .ptr 2 0 0 := by rw [f.t 1 (by simp)]; simp
  have fd : s.df = [] := by rw [f.d]; simp
  clear f
  by_cases hlt : i < g.ts.length
  · have hw := wrapU hlt (by omega)
    simp [h4, f1, o2, objCells, histC, hlt]
    refine wp_loopUp [(3, 3), (5, 5), (14, 42)] (g.ts[i]).ops.length (fun k s' => s'.tm 5 = .int .i64 k ∧ s'.ob = s.ob ∧ GrowT s'.tk s'.nx placeC 2 (lostAt g i k) (s'.tm 3)) rfl rfl ⟨by simp, by simp, by simp; exact hG.mono (fun _ _ h => h) (by omega)⟩ ?_
    rintro k s' hk ⟨h5, hob, hG'⟩ f
    have e1 : s'.tm 1 = .ptr 2 0 0 := by rw [f.t 1 (by simp)]; simp [f1]
    have e4 : s'.tm 4 = .int .i64 i := by rw [f.t 4 (by simp)]; simp [h4]
    have ed : s'.df = [] := by rw [f.d]; simp [fd]
    clear f
    have o2' : s'.ob 2 = some ⟨0, .cells (histC g)⟩ := by rw [hob]; exact o2
    obtain ⟨t, ht⟩ : ∃ t, g.ts[i] = t := ⟨_, rfl⟩
    have hos := hs.os t (ht ▸ List.getElem_mem hlt)
    have hfo : (g.ts.flatMap txnC)[i * 3 + 2]? = some (slOf t.nl opC t.ops) := by
      rw [fld_at txnC_len g.ts hlt (by decide : 2 < 3), ht]; rfl
    by_cases hkt : k < (g.ts[i]).ops.length
    · have hstep := lostAt_step hlt hkt
      have hll := lostAt_len hs hlt (Nat.le_of_lt hkt)
      obtain ⟨o, ho⟩ : ∃ o, (g.ts[i]).ops[k] = o := ⟨_, rfl⟩
      rw [ho] at hstep
      subst ht
      have hw' := wrapU hkt (by omega)
      have hfk : ((g.ts[i]).ops.flatMap opC)[k * 4 + 2]? = some (.int .i64 o.v.kind) := by
        rw [fld_at opC_len (g.ts[i]).ops hkt (by decide : 2 < 4), ho]; rfl
      cases hl : (o.v.kind == 2)
      · rw [hl] at hstep
        simp only [Bool.false_eq_true, if_false, List.append_nil] at hstep
        simp [h5, e1, e4, objCells, histC, hlt, idx_slOf txnC_len, hfo, hkt, idx_slOf opC_len, hfk, hl, hw', hob, o2]
        rw [hstep]
        exact hG'.mono (fun _ _ h => h) (by omega)
      · rw [hl] at hstep
        simp only [if_true] at hstep
        simp [h5, e1, e4, o2', objCells, histC, hlt, idx_slOf txnC_len, hfo, hkt, idx_slOf opC_len, hfk, hl, splice]
        refine kS_buildSl (cs := placeC (i, k)) (by simp [splice, placeC]) rfl rfl ?_
        simp
        refine kS_appendT (f := placeC) (hi := s'.nx) (l := lostAt g i k) (a := ((i : Int), (k : Int))) (v := s'.tm 3) (hG'.mono (fun u _ h => by simp [app_tk, h]) (Nat.le_refl _)) (by simp) (by simp [slCells, placeC]) placeC_len (by decide) rfl (by omega) (by omega) (fun del hdel => ?_)
        have hlen : (lostAt g i k).length + 1 = (lostAt g i (k + 1)).length := by rw [hstep]; simp
        rw [← hstep, hlen]
        simp [h5, hw', hob]
        exact ⟨hkt, _, rfl, by simp [app_tk], by omega⟩
    · have : k = (g.ts[i]).ops.length := by omega
      subst this
      subst ht
      simp [h5, e1, e4, o2', objCells, histC, hlt, idx_slOf txnC_len, hfo, hw]
      rw [← lostAt_next hlt]
      exact hG'.mono (fun _ _ h => h) (by omega)
  · have : i = g.ts.length := by omega
    subst this
    rw [lostAt_end] at hG
    obtain ⟨u, hv, _, _⟩ := hG
    simp [h4, f1, o2, objCells, histC]
    exact slE (t := some (u, 2)) (nl := false) (k := (lostH g).length) (cs := (lostH g).flatMap placeC) (fun r h => ⟨_, h⟩) (by simp [fd]) (by simp [hv])

/-- Does it write the key, and did not fail? -/
def wkB (k : Int) (o : Op') : Bool := o.w && o.key == k
def wrB (k : Int) (t : Txn') : Bool := t.f != 2 && t.ops.any (wkB k)
def KeyAt (k : Int) (ob : Nat → Option Obj') (l u : Nat) : Prop := l % 2 = 0 ∧ ob l = some ⟨u, .cells [.int .i64 k]⟩
theorem evo115 {k : Int} {ob : Nat → Option Obj'} {l u : Nat} (hk : KeyAt k ob l u) (o : Op') (tk : Nat → Bool) (base ub : Nat) : EvO E 115 [.agg (opC o), .ptr l u 0] ob tk base ub (.bool (wkB k o)) := by
  obtain ⟨h2, ho⟩ := hk
  refine EvO_wpK (af := S115) rfl ?_
  have hne : ¬ l = 2 * ub + 1 := by omega
  unfold wkB
  cases hw : o.w
  · simp [S115, opC, objCells, hw]
    exact endV_1 rfl (by simp) rfl
  · simp [S115, opC, objCells, hw, hne, ho]
    exact endV_1 rfl (by simp) rfl
theorem evo156 {p : Op' → Bool} {g : FuncId} {cap : V} {ob : Nat → Option Obj'} (hs : E.sh g = false) (hcap : cap.strip.pureTop = false) (hp : ∀ (t : Op') (tk : Nat → Bool) (base ub : Nat), EvO E g [.agg (opC t), cap] ob tk base ub (.bool (p t)))
    (nl : Bool) (l : List Op') (hl : l.length ≤ 1000000000) (tk : Nat → Bool) (base ub : Nat) : EvO E 156 [slOf nl opC l, .fn (.func g) [] [cap]] ob tk base ub (.int .i64 (firstI p l)) := by
  refine EvO_wpK (af := S156) rfl ?_
  simp [S156]
  refine wp_loopUp [(4, 5), (8, 18)] l.length (fun i s => s.tm 8 = .int .i64 i ∧ s.ob = ob ∧ ∀ j (hj : j < l.length), j < i → p l[j] = false) rfl rfl ⟨by simp, by simp, fun _ _ h => by omega⟩ ?_
  rintro i s hi ⟨h8, ho, hb⟩ f
  have h0 : s.tm 0 = slOf nl opC l := by rw [f.t 0 (by simp)]; simp
  have h1 : s.tm 1 = .fn (.func g) [] [cap] := by rw [f.t 1 (by simp)]; simp
  have h7 : s.tm 7 = .int .i64 l.length := by rw [f.t 7 (by simp)]; simp
  have hd : s.df = [] := by rw [f.d]; simp
  clear f
  by_cases hlt : i < l.length
  · have hw := wrapU hlt hl
    simp [h0, h1, h7, h8, hlt, idx_slOf opC_len, load_slOf opC_len]
    refine kS_callVO (f := g) (first := []) (captured := [cap]) (by simp) hs (by simp [hcap]) (v := .bool (p l[i])) (by simpa [ho] using hp l[i] _ _ _) ?_
    cases hpi : p l[i]
    · simp [h8, hw]
      refine ⟨hlt, ho, ?_⟩
      intro j hj hji
      rcases Nat.lt_succ_iff_lt_or_eq.1 hji with h | rfl
      · exact hb j hj h
      · exact hpi
    · simp
      refine endV_1 (by simpa using hd) ?_ rfl
      simp
      rw [firstI_found hlt hpi hb]
  · have : i = l.length := by omega
    subst this
    simp [h7, h8]
    refine endV_1 (by simpa using hd) ?_ rfl
    simp [firstI_none (fun j hj => hb j hj hj)]
theorem evo114 {p : Op' → Bool} {g : FuncId} {ob : Nat → Option Obj'} {a b c : Nat} (hs : E.sh g = false) (hp : ∀ (t : Op') (tk : Nat → Bool) (base ub : Nat), EvO E g [.agg (opC t), .ptr a b c] ob tk base ub (.bool (p t)))
    (nl : Bool) (l : List Op') (hl : l.length ≤ 1000000000) (tk : Nat → Bool) (base ub : Nat) : EvO E 114 [slOf nl opC l, .fn (.func g) [] [.ptr a b c]] ob tk base ub (.bool (l.any p)) := by
  refine EvO_wpK (af := S114) rfl ?_
  simp [S114]
  refine kS_callO (vs := [slOf nl opC l, .fn (.func g) [] [.ptr a b c]]) (by simp) rfl rfl (evo156 hs rfl hp nl l hl _ _ _) ?_
  simp
  exact endV_1 rfl (by simp [firstI_any]) rfl
theorem evo113 {k : Int} {ob : Nat → Option Obj'} {l u : Nat} (hk : KeyAt k ob l u) (t : Txn') (ht : t.ops.length ≤ 1000000) (tk : Nat → Bool) (base ub : Nat) : EvO E 113 [.agg (txnC t), .ptr l u 0] ob tk base ub (.bool (wrB k t)) := by
  have hne : ¬ l = 2 * ub + 1 := by have := hk.1; omega
  refine EvO_wpK (af := S113) rfl ?_
  unfold wrB
  cases hf : (t.f != 2)
  · simp [S113, txnC, objCells, hf]
    exact endV_1 rfl (by simp) rfl
  · simp [S113, txnC, objCells, hf]
    refine kS_callO (vs := [slOf t.nl opC t.ops, .fn (.func 115) [] [.ptr l u 0]]) (by simp) rfl rfl (evo114 (p := wkB k) rfl (fun t' tk base ub' => evo115 ?_ t' tk base ub') t.nl t.ops (by omega) _ _ _) ?_
    · obtain ⟨h2, ho⟩ := hk
      exact ⟨h2, by simp [hne, ho]⟩
    · simp
      exact endV_1 rfl (by simp) rfl
end Go.Pv.T

/- How many write one key at most. -/
namespace Go.Pv.T
open Go Go.Pv

def writersH (g : Hist') (k : Int) : List Int := numsTo (wrB k) g.ts g.ts.length
theorem ev72 {g : Hist'} (hs : Small g) (hm : mayH g = true) (k : Int) : ∃ v, Ev E 72 [.agg (histC g), .int .i64 k] v ∧ NumR (writersH g k) v := by
  have e70 := ev70 hs
  rw [may_err hm] at e70
  have hts := hs.ts
  refine Ev_wpE (af := F72) rfl (by decide) ?_
  simp [F72, histC, objCells]
  refine kS_ev e70 (by simp [histC]) rfl (by simp [histC]) ?_
  simp [objCells]
  refine wp_loopUp [(4, 4), (6, 8), (16, 28)] g.ts.length (fun i s => s.tm 16 = .int .i64 i ∧ s.ob 6 = some ⟨64, .cells [.int .i64 k]⟩ ∧ Grow s.tk 0 s.nx intC 1 (numsTo (wrB k) g.ts i) (s.tm 6)) rfl rfl ⟨by simp, by simp, by simp [numsTo]; exact Grow.nil _ _ _ _ _⟩ ?_
  rintro i s hi ⟨h16, o6, hG⟩ f
  have f5 : s.tm 5 = .fn (.func 113) [] [.ptr 6 64 0] := by rw [f.t 5 (by simp)]; simp
  have f14 : s.tm 14 = slOf g.tn txnC g.ts := by rw [f.t 14 (by simp)]; simp
  have f15 : s.tm 15 = .int .i64 g.ts.length := by rw [f.t 15 (by simp)]; simp
  have fd : s.df = [] := by rw [f.d]; simp
  have fb : s.fb = 0 := by rw [f.b]; simp
  have fr : s.ro = 0 := by rw [f.r]; simp
  clear f
  by_cases hlt : i < g.ts.length
  · have hw := wrapU hlt (by omega)
    have hsn := numsTo_succ (p := wrB k) hlt
    obtain ⟨t, ht⟩ : ∃ t, g.ts[i] = t := ⟨_, rfl⟩
    rw [ht] at hsn
    have hos := hs.os t (ht ▸ List.getElem_mem hlt)
    have hll := numsTo_len (wrB k) g.ts i
    simp [h16, f14, f15, hlt, idx_slOf txnC_len, load_slOf txnC_len, ht, txnC, objCells, fb, fr, splice, f5]
    refine kS_callVO (f := 113) (first := []) (captured := [.ptr 6 64 0]) (by simp) rfl (by simp; rfl) (evo113 (k := k) (l := 6) (u := 64) ⟨rfl, by simp [o6]⟩ t (by omega) _ _ _) ?_
    cases hi : wrB k t
    · rw [hi] at hsn
      simp only [Bool.false_eq_true, if_false, List.append_nil] at hsn
      simp [h16, hw, o6]
      exact ⟨hlt, by rw [hsn]; exact hG.mono (fun u _ _ h => by simpa [app_tk0] using h) (by omega)⟩
    · rw [hi] at hsn
      simp only [if_true] at hsn
      simp
      refine kS_buildSl (cs := [.int .i64 i]) (by simp [splice]) rfl rfl ?_
      simp
      refine kS_appendG (f := intC) (lo := 0) (hi := s.nx) (l := numsTo (wrB k) g.ts i) (a := (i : Int)) (v := s.tm 6) (hG.mono (fun u _ _ h => by simp [app_tk, h]) (Nat.le_refl _)) (by simp) (by simp [slCells, intC]) intC_len (by decide) rfl (by omega) (by omega) (fun del hdel => ?_)
      have hne : numsTo (wrB k) g.ts (i + 1) ≠ [] := by rw [hsn]; simp
      have hlen : (numsTo (wrB k) g.ts i).length + 1 = (numsTo (wrB k) g.ts (i + 1)).length := by rw [hsn]; simp
      rw [← hsn, hlen]
      simp [h16, hw, o6]
      exact ⟨hlt, .inr ⟨hne, _, rfl, by simp [app_tk], Nat.zero_le _, by omega⟩⟩
  · have : i = g.ts.length := by omega
    subst this
    obtain ⟨t, ht⟩ := hG.form
    simp [h16, f15]
    exact slE (t := t) (nl := (numsTo (wrB k) g.ts g.ts.length).isEmpty) (k := (writersH g k).length) (cs := (writersH g k).flatMap intC) (fun r h => ⟨_, h⟩) (by simp [fd]) (by simp [ht, writersH])
/-- The most that write one key, of the first keys. -/
def mostTo (g : Hist') : Nat → Nat
  | 0 => 0
  | i + 1 => max (mostTo g i) (writersH g i).length
def mostH (g : Hist') : Nat := mostTo g g.ks.length
theorem mostTo_le {g : Hist'} (hs : Small g) : ∀ i, mostTo g i ≤ 1000
  | 0 => Nat.zero_le _
  | i + 1 => by
    have h1 := mostTo_le hs i
    have h2 := numsTo_len (wrB i) g.ts g.ts.length
    have h3 := hs.ts
    simp only [mostTo, writersH]
    omega
theorem max_int (a b : Nat) : minmaxV true [.int .i64 (a : Int), .int .i64 (b : Int)] = some (.int .i64 ((max a b : Nat) : Int)) := by
  simp only [minmaxV, minmaxL, minmax2, if_true, Option.bind_some]
  congr 2
  split <;> omega
theorem ev23 {g : Hist'} (hs : Small g) (hm : mayH g = true) : Ev E 23 [.agg (histC g)] (.int .i64 (mostH g : Nat)) := by
  have hks := hs.ks
  refine Ev_wpK (af := F23) rfl ?_
  simp [F23, histC, objCells]
  refine wp_loopUp [(3, 4), (8, 17)] g.ks.length (fun i s => s.tm 8 = .int .i64 i ∧ s.ob 2 = some ⟨0, .cells (histC g)⟩ ∧ s.tm 3 = .int .i64 (mostTo g i : Nat)) rfl rfl ⟨by simp, by simp [histC], by simp [mostTo]⟩ ?_
  rintro i s hi ⟨h8, o2, h3⟩ f
  have f1 : s.tm 1 = .ptr 2 0 0 := by rw [f.t 1 (by simp)]; simp
  have f7 : s.tm 7 = .int .i64 g.ks.length := by rw [f.t 7 (by simp)]; simp
  have fd : s.df = [] := by rw [f.d]; simp
  clear f
  by_cases hlt : i < g.ks.length
  · have hw := wrapU hlt (by omega)
    obtain ⟨v, ev, nl, hv⟩ := ev72 hs hm (i : Int)
    obtain ⟨t, add, hr⟩ := retA_sl (ub := s.nx + 64 + 64 + 64 + 64 + 64 + 64) hv
    simp [h8, f7, hlt, h3, f1, o2, objCells, histC]
    refine kS_ev ev (by simp [histC]) rfl (by simp [histC]) ?_
    rw [hr]
    simp [h8, hw, max_int, o2, histC]
    exact ⟨hlt, rfl⟩
  · have : i = g.ks.length := by omega
    subst this
    simp [h8, f7, h3]
    exact endV_1 (by simp [fd]) (by simp [mostH]) rfl
end Go.Pv.T

/- How many write one key at most: the reference's way. -/
namespace Go.Pv.T
open Go Go.Pv

def rawTo (k : Int) (ops : List Op') : Nat → Val' × Bool
  | 0 => (⟨0, 0⟩, false)
  | i + 1 => match ops[i]? with
    | some o => if wkB k o then (o.v, true) else rawTo k ops i
    | none => rawTo k ops i
theorem rawTo_succ {k : Int} {ops : List Op'} {i : Nat} (h : i < ops.length) : rawTo k ops (i + 1) = if wkB k ops[i] then (ops[i].v, true) else rawTo k ops i := by simp [rawTo, List.getElem?_eq_getElem h]
theorem rawTo_any (k : Int) (ops : List Op') : ∀ i, i ≤ ops.length → (rawTo k ops i).2 = (ops.take i).any (wkB k)
  | 0, _ => by simp [rawTo]
  | i + 1, h => by
    rw [rawTo_succ (by omega), List.take_succ_eq_append_getElem (by omega), List.any_append, ← rawTo_any k ops i (by omega)]
    cases hw : wkB k ops[i] <;> simp [hw]
theorem ev78 (t : Txn') (ht : t.ops.length ≤ 1000000) (k : Int) : Ev E 78 [.agg (txnC t), .int .i64 t.ops.length, .int .i64 k] (.tup [.agg (valC (rawTo k t.ops t.ops.length).1), .bool (rawTo k t.ops t.ops.length).2]) := by
  refine Ev_wpK (af := F78) rfl ?_
  simp [F78, txnC, objCells, splice]
  refine wp_loopUp [(9, 10), (12, 45)] t.ops.length (fun i s => s.tm 10 = .int .i64 i ∧ s.ob 6 = some ⟨0, .cells (txnC t)⟩ ∧ s.ob 12 = some ⟨64, .cells [.int .i64 0, .int .i64 0]⟩ ∧ s.ob 16 = some ⟨256, .cells (valC (rawTo k t.ops i).1)⟩ ∧ s.tm 9 = .bool (rawTo k t.ops i).2) rfl rfl
    ⟨by simp, by simp [txnC], by simp, by simp [rawTo, valC], by simp [rawTo]⟩ ?_
  rintro i s hi ⟨h10, o6, o12, o16, h9⟩ f
  have f1 : s.tm 1 = .int .i64 t.ops.length := by rw [f.t 1 (by simp)]; simp
  have f2 : s.tm 2 = .int .i64 k := by rw [f.t 2 (by simp)]; simp
  have f3 : s.tm 3 = .ptr 6 0 0 := by rw [f.t 3 (by simp)]; simp
  have f6 : s.tm 6 = .ptr 12 64 0 := by rw [f.t 6 (by simp)]; simp
  have f8 : s.tm 8 = .ptr 16 256 0 := by rw [f.t 8 (by simp)]; simp
  have fd : s.df = [] := by rw [f.d]; simp
  have fr : s.ro = 0 := by rw [f.r]; simp
  clear f
  by_cases hlt : i < t.ops.length
  · have hw := wrapU hlt (by omega)
    have hs := rawTo_succ (k := k) hlt
    obtain ⟨o, ho⟩ : ∃ o, t.ops[i] = o := ⟨_, rfl⟩
    rw [ho] at hs
    have a0 : (t.ops.flatMap opC)[i * 4]? = some (.bool o.w) := by
      have := fld_at opC_len t.ops hlt (by decide : 0 < 4)
      rw [Nat.add_zero, ho] at this
      rw [this]; rfl
    have a1 : (t.ops.flatMap opC)[i * 4 + 1]? = some (.int .i64 o.key) := by
      rw [fld_at opC_len t.ops hlt (by decide : 1 < 4), ho]; rfl
    have a2 : ∀ ob, loadV ob (some 2) (.eptr (t.ops.flatMap opC) (i * 4 + 2)) = some (.agg (valC o.v)) := fun ob => by
      have hle : i * 4 + 4 ≤ t.ops.length * 4 := by omega
      rw [loadV_e, pick1_some, if_pos (by rw [flatMap_len opC_len]; omega)]
      have := flatMap_at opC_len t.ops i hlt
      rw [ho] at this
      have e : ((t.ops.flatMap opC).drop (i * 4 + 2)).take 2 = ((((t.ops.flatMap opC).drop (i * 4)).take 4).drop 2) := by
        rw [List.drop_take, List.drop_drop]
      rw [e, this]
      rfl
    cases hwk : o.w
    · have hk : wkB k o = false := by unfold wkB; rw [hwk]; rfl
      rw [hk] at hs
      simp only [Bool.false_eq_true, if_false] at hs
      simp [h10, f1, f3, o6, objCells, txnC, hlt, idx_slOf opC_len, a0, hwk, hw, o12, o16, h9]
      exact ⟨by rw [hs], by rw [hs]⟩
    · cases hke : (o.key == k)
      · have hk : wkB k o = false := by unfold wkB; rw [hwk, hke]; rfl
        rw [hk] at hs
        simp only [Bool.false_eq_true, if_false] at hs
        simp [h10, f1, f2, f3, o6, objCells, txnC, hlt, idx_slOf opC_len, a0, a1, hwk, hke, hw, o12, o16, h9]
        exact ⟨by rw [hs], by rw [hs]⟩
      · have hk : wkB k o = true := by unfold wkB; rw [hwk, hke]; rfl
        rw [hk] at hs
        simp only [if_true] at hs
        simp [h10, f1, f2, f3, f8, o6, objCells, txnC, hlt, idx_slOf opC_len, a0, a1, a2, hwk, hke, hw, o12, o16, valC, fr, splice]
        rw [hs]
        simp
  · have : i = t.ops.length := by omega
    subst this
    simp [h10, f1, f8, o16, objCells, h9, f6, o12, valC, fr, splice]
    exact kEnd_of (by simp [fd]) (l := [.agg (valC (rawTo k t.ops t.ops.length).1), .bool (rawTo k t.ops t.ops.length).2]) (by simp [resOf, objCells, f6, valC]) rfl rfl
theorem ev73 {g : Hist'} (hs : Small g) (hm : mayH g = true) (k : Int) : ∃ v, Ev E 73 [.agg (histC g), .int .i64 k] v ∧ NumR (writersH g k) v := by
  have e32 := ev32 hs
  rw [may_err hm] at e32
  have hts := hs.ts
  refine Ev_wpE (af := F73) rfl (by decide) ?_
  simp [F73, histC]
  refine kS_buildSl (cs := []) rfl rfl rfl ?_
  simp [objCells]
  refine kS_ev e32 (by simp [histC]) rfl (by simp [histC]) ?_
  simp
  refine wp_loopUp [(4, 8), (14, 51)] g.ts.length (fun i s => s.tm 6 = .int .i64 i ∧ s.ob 4 = some ⟨0, .cells (histC g)⟩ ∧ GrowT s.tk s.nx intC 1 (numsTo (wrB k) g.ts i) (s.tm 5)) rfl rfl ⟨by simp, by simp [histC], ⟨128, by simp [numsTo], by simp [app_tk], by simp⟩⟩ ?_
  rintro i s hi ⟨h6, o4, hG⟩ f
  have f1 : s.tm 1 = .int .i64 k := by rw [f.t 1 (by simp)]; simp
  have f2 : s.tm 2 = .ptr 4 0 0 := by rw [f.t 2 (by simp)]; simp
  have fd : s.df = [] := by rw [f.d]; simp
  have fb : s.fb = 0 := by rw [f.b]; simp
  have fr : s.ro = 0 := by rw [f.r]; simp
  clear f
  by_cases hlt : i < g.ts.length
  · have hw := wrapU hlt (by omega)
    have hsn := numsTo_succ (p := wrB k) hlt
    obtain ⟨t, ht⟩ : ∃ t, g.ts[i] = t := ⟨_, rfl⟩
    rw [ht] at hsn
    have hos := hs.os t (ht ▸ List.getElem_mem hlt)
    have hll := numsTo_len (wrB k) g.ts i
    have hl3 := load_slOf txnC_len s.ob g.ts hlt
    rw [ht] at hl3
    have hff : (g.ts.flatMap txnC)[i * 3 + 1]? = some (.int .i64 t.f) := by
      rw [fld_at txnC_len g.ts hlt (by decide : 1 < 3), ht]; rfl
    have hfo : (g.ts.flatMap txnC)[i * 3 + 2]? = some (slOf t.nl opC t.ops) := by
      rw [fld_at txnC_len g.ts hlt (by decide : 2 < 3), ht]; rfl
    have hra := rawTo_any k t.ops t.ops.length (Nat.le_refl _)
    rw [List.take_length] at hra
    have e78 := ev78 t (by omega) k
    simp [h6, f2, o4, objCells, histC, hlt, idx_slOf txnC_len, load_slOf txnC_len, ht, hfo]
    refine kD_ev e78 (by simp [f1, txnC]) rfl (by simp [txnC]) ?_
    rw [retA_tupl (by simp [V.plain, valC])]
    generalize (rawTo k t.ops t.ops.length).1 = rv at *
    generalize (rawTo k t.ops t.ops.length).2 = rb at *
    have hwr : wrB k t = (t.f != 2 && rb) := by unfold wrB; rw [hra]
    have o4' : s.ob 4 = some ⟨0, .cells [slOf g.sn strC g.ss, slOf g.kn strC g.ks, slOf g.tn txnC g.ts]⟩ := o4
    have skip : wrB k t = false → numsTo (wrB k) g.ts (i + 1) = numsTo (wrB k) g.ts i := fun h => by rw [hsn, h]; simp
    cases rb
    · have hsk := skip (by rw [hwr]; simp)
      simp [valC, objCells, fb, fr, splice, o4', h6, hw]
      refine ⟨by simp [drawOk, indep, disj, fpOf, rdOb, rdTk, lOf, Delta.wo, Delta.wt]; try decide, hlt, ?_⟩
      rw [hsk]
      exact hG.mono (fun u _ h => by simpa [app_tk0] using h) (by omega)
    · cases hf : (t.f != 2)
      · have hsk := skip (by rw [hwr, hf]; rfl)
        simp [valC, objCells, fb, fr, splice, f2, o4', h6, hw, hlt, idx_slOf txnC_len, hff, hf]
        refine ⟨by simp [drawOk, indep, disj, fpOf, rdOb, rdTk, lOf, Delta.wo, Delta.wt]; try decide, ?_⟩
        rw [hsk]
        exact hG.mono (fun u _ h => by simpa [app_tk0] using h) (by omega)
      · rw [hwr, hf] at hsn
        simp only [Bool.and_self, if_true] at hsn
        simp [valC, objCells, fb, fr, splice, f2, o4', h6, hlt, idx_slOf txnC_len, hff, hf]
        refine ⟨by simp [drawOk, indep, disj, fpOf, rdOb, rdTk, lOf, Delta.wo, Delta.wt]; try decide, ?_⟩
        refine kS_buildSl (cs := [.int .i64 i]) (by simp [splice]) rfl rfl ?_
        simp
        refine kS_appendT (f := intC) (hi := s.nx) (l := numsTo (wrB k) g.ts i) (a := (i : Int)) (v := s.tm 5) (hG.mono (fun u _ h => by simp [app_tk, h]) (Nat.le_refl _)) (by simp) (by simp [slCells, intC]) intC_len (by decide) rfl (by omega) (by omega) (fun del hdel => ?_)
        have hlen : (numsTo (wrB k) g.ts i).length + 1 = (numsTo (wrB k) g.ts (i + 1)).length := by rw [hsn]; simp
        rw [← hsn, hlen]
        simp [h6, hw, o4']
        exact ⟨hlt, _, rfl, by simp [app_tk], by omega⟩
  · have : i = g.ts.length := by omega
    subst this
    obtain ⟨u, hv, _, _⟩ := hG
    simp [h6, f2, o4, objCells, histC]
    exact slE (t := some (u, 1)) (nl := false) (k := (writersH g k).length) (cs := (writersH g k).flatMap intC) (fun r h => ⟨_, h⟩) (by simp [fd]) (by simp [hv, writersH])
theorem ev24 {g : Hist'} (hs : Small g) (hm : mayH g = true) : Ev E 24 [.agg (histC g)] (.int .i64 (mostH g : Nat)) := by
  have e32 := ev32 hs
  rw [may_err hm] at e32
  have hks := hs.ks
  refine Ev_wpK (af := F24) rfl ?_
  simp [F24, histC]
  refine wp_loopUp [(3, 22)] g.ks.length (fun i s => s.tm 4 = .int .i64 i ∧ s.ob 2 = some ⟨0, .cells (histC g)⟩ ∧ s.tm 3 = .int .i64 (mostTo g i : Nat)) rfl rfl ⟨by simp, by simp [histC], by simp [mostTo]⟩ ?_
  rintro i s hi ⟨h4, o2, h3⟩ f
  have f1 : s.tm 1 = .ptr 2 0 0 := by rw [f.t 1 (by simp)]; simp
  have fd : s.df = [] := by rw [f.d]; simp
  clear f
  by_cases hlt : i < g.ks.length
  · have hw := wrapU hlt (by omega)
    obtain ⟨v, ev, nl, hv⟩ := ev73 hs hm (i : Int)
    simp [h4, f1, o2, objCells, histC, hlt]
    refine kS_ev e32 (by simp [histC]) rfl (by simp [histC]) ?_
    simp [h4, h3, f1, o2, objCells, histC]
    refine kS_ev ev (by simp [histC]) rfl (by simp [histC]) ?_
    obtain ⟨t, add, hr⟩ := retA_sl (ub := s.nx + 64 + 64 + 64 + 64 + 64 + 64 + 64 + 64 + 64 + 64 + 64 + 64 + 64) hv
    rw [hr]
    simp [h4, hw, max_int, o2, histC]
    exact ⟨hlt, rfl⟩
  · have : i = g.ks.length := by omega
    subst this
    simp [h4, f1, o2, objCells, histC, h3]
    exact endV_1 (by simp [fd]) (by simp [mostH]) rfl
end Go.Pv.T

/- slices.Repeat, of one number. -/
namespace Go.Pv.T
open Go Go.Pv

theorem u64_shr32 (c : Nat) : binV .shr (.int .u64 (c : Int)) (.int .u64 32) = some (.int .u64 ((c / 4294967296 : Nat) : Int)) := by
  simp only [binV, shiftBin]
  rw [if_neg (by decide)]
  have e : min (Int.toNat 32) IntKind.u64.bits = 32 := by decide
  rw [e]
  congr 2
  rw [Int.fdiv_eq_ediv_of_nonneg _ (by decide)]
  omega
theorem w64 (c : Nat) (h : c < 18446744073709551616) : IntKind.u64.wrap (c : Int) = c := by rw [IntKind.wrap_u64]; omega
theorem ev145 (c : Nat) (hc : c < 4294967296) : Ev E 145 [.int .u64 1, .int .u64 c] (.tup [.int .u64 0, .int .u64 c]) := by
  refine Ev_wpK (af := F145) rfl ?_
  have s1 : binV .and (.int .u64 1) (.int .u64 4294967295) = some (.int .u64 1) := u64_and (a := 1) (b := 4294967295) rfl (by decide) (by decide)
  have s2 : binV .shr (.int .u64 1) (.int .u64 32) = some (.int .u64 0) := u64_shr32 1
  have s3 : binV .and (.int .u64 (c : Int)) (.int .u64 4294967295) = some (.int .u64 (c : Int)) := by
    have := u64_and (a := c) (b := 4294967295) (m := 4294967295) rfl (by omega) (by decide)
    rw [show c &&& 4294967295 = c by
      have := Nat.and_two_pow_sub_one_eq_mod c 32
      rw [show 2 ^ 32 - 1 = 4294967295 by decide] at this
      rw [this]; omega] at this
    exact this
  have s4 : binV .shr (.int .u64 (c : Int)) (.int .u64 32) = some (.int .u64 0) := by rw [u64_shr32, Nat.div_eq_of_lt hc]; rfl
  have s5 : binV .shr (.int .u64 0) (.int .u64 32) = some (.int .u64 0) := u64_shr32 0
  have s6 : binV .and (.int .u64 0) (.int .u64 4294967295) = some (.int .u64 0) := u64_and (a := 0) (b := 4294967295) rfl (by decide) (by decide)
  have w := w64 c (by omega)
  have w0 : IntKind.u64.wrap 0 = 0 := by decide
  simp [F145, s1, s2, s3, s4, s5, s6, w, w0]
  exact endV_2 rfl (by simp) (by simp) rfl rfl
theorem ev99 (c : Nat) (hc : c < 4294967296) : Ev E 99 [.int .u64 1, .int .u64 c] (.tup [.int .u64 0, .int .u64 c]) := by
  refine Ev_wpK (af := F99) rfl ?_
  simp [F99]
  refine kS_ev (ev145 c hc) (by simp) rfl rfl ?_
  simp
  exact endV_2 rfl (by simp) (by simp) rfl rfl
section
variable {E : Env} {Yf : YF} {st : St} {ub : Nat} {K : St → Nat → Prop} {d : Option Nat} {nm : Bool}
theorem kS_mkSl0 {sz bytes : Nat} {zero : List V} {x y : A} (hl : eval E st.tm x = .int .i64 0) (hc : eval E st.tm y = .int .i64 0) (hz : zero.length = sz) (h0 : 0 < sz)
    (h : kApp K st d ub { v := .sl (some (ub, sz)) false 0 [], add := [ub] }) : wpStep E Yf ⟨d, .mkSl false sz bytes zero x y, none, nm⟩ st ub K := by
  rw [wpStep_of _ rfl rfl]
  simp only [aop, hl, hc]
  rw [if_pos ⟨by decide, by decide, by simp, by decide, hz, h0⟩, if_pos (by simp), wpD_some]
  exact h
theorem kS_mkSlN {sz bytes n : Nat} {zero : List V} {x y : A} (hl : eval E st.tm x = .int .i64 (n : Int)) (hc : eval E st.tm y = .int .i64 (n : Int)) (hn0 : 0 < n) (hb : n * bytes ≤ 140737488355328) (hn : n ≤ 140737488355328) (hz : zero.length = sz) (h0 : 0 < sz)
    (h : kApp K st d ub { v := .osl (objName d nm st.fb ub) ub 0 n sz, obs := [(objName d nm st.fb ub, ⟨ub, .cells (repl n zero)⟩)] }) : wpStep E Yf ⟨d, .mkSl false sz bytes zero x y, none, nm⟩ st ub K := by
  rw [wpStep_of _ rfl rfl]
  simp only [aop, hl, hc]
  rw [if_pos (by refine ⟨by omega, by omega, ?_, by omega, hz, h0⟩; rw [← Int.natCast_mul]; exact Int.ofNat_le.2 hb), if_neg (by intro h; omega), mkObj, wpD_some]
  simp only [Int.toNat_natCast, name_eq]
  exact h
theorem kS_copy0 {sz : Nat} {t : Option (Nat × Nat)} {nl : Bool} {x y : A} {ys : List V} (hx : eval E st.tm x = .sl t nl 0 []) (hy : slCells st.ob sz (eval E st.tm y) = some ys) (h : kSet K st d ub (.int .i64 0)) : wpStep E Yf ⟨d, .copy sz x y, none, nm⟩ st ub K := by
  rw [wpStep_of _ rfl rfl]
  simp only [aop, hx, hy, Option.bind_some, wpD_one, app_v]
  exact h
theorem kS_copyN {sz l u off n : Nat} {x y : A} {ys cs : List V} (hx : eval E st.tm x = .osl l u off n sz) (hy : slCells st.ob sz (eval E st.tm y) = some ys) (ho : st.ob l = some ⟨u, .cells cs⟩) (hro : st.ro ≤ u) (h0 : 0 < sz) (hp : ys.all V.leaf = true) (hn : off + n * sz ≤ cs.length)
    (h : kApp K st d ub { v := .int .i64 (Nat.min (ys.length / sz) n : Nat), obs := [(l, ⟨u, .cells (splice cs off (ys.take (Nat.min (ys.length / sz) n * sz)))⟩)] }) : wpStep E Yf ⟨d, .copy sz x y, none, nm⟩ st ub K := by
  have hoc : objCells st.ob l u = some cs := by simp [objCells, ho]
  rw [wpStep_of _ rfl rfl]
  simp only [aop, hx, hy, Option.bind_some, hoc]
  rw [if_pos ⟨Nat.ble_eq ▸ hro, trivial, h0, hp⟩, if_pos hn, wpD_some]
  exact h
theorem kD_copyN {r : List AOpr} {KD : List FP → St → Prop} {sz l u off n : Nat} {x y : A} {ys cs : List V} (hx : eval E st.tm x = .osl l u off n sz) (hy : slCells st.ob sz (eval E st.tm y) = some ys) (ho : st.ob l = some ⟨u, .cells cs⟩) (hro : st.ro ≤ u) (h0 : 0 < sz) (hp : ys.all V.leaf = true) (hn : off + n * sz ≤ cs.length)
    (h : kDApp E r KD (eval E st.tm) (.copy sz x y) st d ub { v := .int .i64 (Nat.min (ys.length / sz) n : Nat), obs := [(l, ⟨u, .cells (splice cs off (ys.take (Nat.min (ys.length / sz) n * sz)))⟩)] }) : wpDraw E (⟨d, .copy sz x y, none, nm⟩ :: r) st ub KD := by
  have hoc : objCells st.ob l u = some cs := by simp [objCells, ho]
  rw [wpDraw_of rfl]
  simp only [aop, hx, hy, Option.bind_some, hoc]
  rw [if_pos ⟨Nat.ble_eq ▸ hro, trivial, h0, hp⟩, if_pos hn, wpD_some]
  exact h
end
theorem solid_osl {st : St} {L u n : Nat} {cs : List V} (ho : st.ob L = some ⟨u, .cells cs⟩) (hl : cs.length = n) (hro : st.ro ≤ u) (hp : cs.all V.pureLeaf = true) : solid st 6 (.osl L u 0 n 1) = some (.sl none false n cs) := by
  have hoc : objCells st.ob L u = some cs := by simp [objCells, ho]
  have hm : ∀ (k : Nat) (l : List V), l.all V.pureLeaf = true → l.mapM (solid st (k + 1)) = some l := by
    intro k l
    induction l with
    | nil => intro _; rfl
    | cons a l ih =>
      intro h
      simp only [List.all_cons, Bool.and_eq_true] at h
      rw [List.mapM_cons, ih h.2]
      have : solid st (k + 1) a = some a := by
        have := outLeaf_pure (st := st) (keep := false) (i := 0) h.1
        cases a with
        | sl t nl n cs => cases t with
          | none => rfl
          | some t => cases h.1
        | osl => cases h.1
        | _ => simp only [solid, h.1, if_true]
      rw [this]
      rfl
  show ((objCells st.ob L u).bind fun cs => if Nat.ble st.ro u = true ∧ 0 + n * 1 ≤ cs.length then (((cs.drop 0).take (n * 1)).mapM (solid st 5)).map fun cs' => V.sl none false n cs' else none) = _
  rw [hoc, Option.bind_some, if_pos ⟨Nat.ble_eq ▸ hro, by omega⟩, List.drop_zero, Nat.mul_one, List.take_of_length_le (by omega), hm 4 cs hp]
  rfl
end Go.Pv.T
