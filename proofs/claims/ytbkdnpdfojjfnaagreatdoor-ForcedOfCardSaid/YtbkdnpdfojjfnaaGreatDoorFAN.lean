/- Part of the proof. -/
import Derived.Test.YtbkdnpdfojjfnaaGreatDoorFAE
import Derived.Test.YtbkdnpdfojjfnaaGreatDoorFAI
import Derived.Test.YtbkdnpdfojjfnaaGreatDoorFAJ
import Derived.Test.YtbkdnpdfojjfnaaGreatDoorFAM
import Derived.Sort.AssemblyPlain
import Derived.Laws.Bits64
import Derived.KernelRfl
set_option maxRecDepth 100000
set_option maxHeartbeats 8000000
set_option linter.all false
namespace Go.Pv.T
open Go Go.Pv Go.Sort
def arr {α : Type} (f : α → List V) (d : Array α) : List V := d.toList.flatMap f
theorem arr_len {α : Type} {f : α → List V} {sz : Nat} (hf : ∀ a, (f a).length = sz) (d : Array α) : (arr f d).length = d.size * sz := by
  unfold arr; rw [flatMap_len hf, Array.length_toList]
section
end
@[simp] theorem arrI_len (d : Array Int) : (arr intC d).length = d.size := by rw [arr_len (sz := 1) intC_len, Nat.mul_one]
def At (l u : Nat) (cs : List V) (ob : Nat → Option Obj') (tk : Nat → Bool) (ub : Nat) (ob' : Nat → Option Obj') (tk' : Nat → Bool) (ub' : Nat) : Prop :=
  ob' l = some ⟨u, .cells cs⟩ ∧ (∀ key, key ≠ l → (∀ m, ub ≤ m → key ≠ 2 * m + 1) → ob' key = ob key) ∧ tk' = tk ∧ ub ≤ ub'
end Go.Pv.T
namespace Go.Pv.T
open Go Go.Pv Go.Sort
end Go.Pv.T
namespace Go.Pv.T
open Go Go.Pv Go.Sort
def retS (st : St) (d : Option Nat) (v : V) (ob : Nat → Option Obj') (tk : Nat → Bool) : St := { st with tm := put st.tm d v, ob := ob, tk := tk }
section
variable {st : St} {d : Option Nat} {v : V} {ob : Nat → Option Obj'} {tk : Nat → Bool}
@[simp] theorem retS_tm (e n : Nat) : (retS st (some e) v ob tk).tm n = if n = e then v else st.tm n := by simp [retS, put, upd_apply]
@[simp] theorem retS_tm0 (n : Nat) : (retS st none v ob tk).tm n = st.tm n := rfl
@[simp] theorem retS_ob : (retS st d v ob tk).ob = ob := rfl
@[simp] theorem retS_tk : (retS st d v ob tk).tk = tk := rfl
@[simp] theorem retS_ro : (retS st d v ob tk).ro = st.ro := rfl
@[simp] theorem retS_nx : (retS st d v ob tk).nx = st.nx := rfl
@[simp] theorem retS_fb : (retS st d v ob tk).fb = st.fb := rfl
@[simp] theorem retS_df : (retS st d v ob tk).df = st.df := rfl
end
@[simp] theorem nilCheckV_ptr (l u o : Nat) : nilCheckV (.ptr l u o) = some (.ptr l u o) := rfl
theorem At.refl {l u : Nat} {cs : List V} {ob : Nat → Option Obj'} {tk : Nat → Bool} {ub : Nat} (h : ob l = some ⟨u, .cells cs⟩) : At l u cs ob tk ub ob tk ub := ⟨h, fun _ _ _ => rfl, rfl, Nat.le_refl _⟩
theorem At.trans {l u : Nat} {cs cs' : List V} {ob ob1 ob2 : Nat → Option Obj'} {tk tk1 tk2 : Nat → Bool} {ub ub1 ub1' ub2 : Nat} (h : At l u cs ob tk ub ob1 tk1 ub1) (h' : At l u cs' ob1 tk1 ub1' ob2 tk2 ub2) (hu : ub1 ≤ ub1') : At l u cs' ob tk ub ob2 tk2 ub2 :=
  ⟨h'.1, fun key a b => (h'.2.1 key a (fun m hm => b m (by have := h.2.2.2; omega))).trans (h.2.1 key a b), h'.2.2.1.trans h.2.2.1, by have := h.2.2.2; have := h'.2.2.2; omega⟩
theorem At.same {l u : Nat} {cs : List V} {ob ob1 ob2 : Nat → Option Obj'} {tk tk1 tk2 : Nat → Bool} {ub ub1 ub2 : Nat} (h : At l u cs ob tk ub ob1 tk1 ub1) (h1 : ob2 = ob1) (h2 : tk2 = tk1) (hu : ub1 ≤ ub2) : At l u cs ob tk ub ob2 tk2 ub2 := by
  subst h1 h2
  exact ⟨h.1, h.2.1, h.2.2.1, Nat.le_trans h.2.2.2 hu⟩
def Cn (w uw : Nat) (ob : Nat → Option Obj') (tk : Nat → Bool) (ub : Nat) (ob' : Nat → Option Obj') (tk' : Nat → Bool) (ub' : Nat) : Prop :=
  (∃ c, ob' w = some ⟨uw, .cells [.int .i64 c]⟩) ∧ (∀ key, key ≠ w → ob' key = ob key) ∧ tk' = tk ∧ ub ≤ ub'
theorem Cn.trans {w uw : Nat} {ob ob1 ob2 : Nat → Option Obj'} {tk tk1 tk2 : Nat → Bool} {ub ub1 ub1' ub2 : Nat} (h : Cn w uw ob tk ub ob1 tk1 ub1) (h' : Cn w uw ob1 tk1 ub1' ob2 tk2 ub2) (hu : ub1 ≤ ub1') : Cn w uw ob tk ub ob2 tk2 ub2 :=
  ⟨h'.1, fun key a => (h'.2.1 key a).trans (h.2.1 key a), h'.2.2.1.trans h.2.2.1, by have := h.2.2.2; have := h'.2.2.2; omega⟩
end Go.Pv.T
namespace Go.Pv.T
open Go Go.Pv Go.Sort
end Go.Pv.T
namespace Go.Pv.T
open Go Go.Pv Go.Sort
def Calm (s s' : St) : Prop := s'.ob = s.ob ∧ s'.tk = s.tk ∧ s.nx ≤ s'.nx
theorem Calm.refl (s : St) : Calm s s := ⟨rfl, rfl, Nat.le_refl _⟩
theorem Calm.trans {a b c : St} (h : Calm a b) (h' : Calm b c) : Calm a c := ⟨h'.1.trans h.1, h'.2.1.trans h.2.1, Nat.le_trans h.2.2 h'.2.2⟩
end Go.Pv.T
namespace Go.Pv.T
open Go Go.Pv Go.Sort
end Go.Pv.T
namespace Go.Pv.T
open Go Go.Pv Go.Sort
end Go.Pv.T
namespace Go.Pv.T
open Go Go.Pv Go.Sort
@[simp] theorem convV_int (k k' : IntKind) (n : Int) : convV k (.int k' n) = some (.int k (k.wrap n)) := rfl
end Go.Pv.T
namespace Go.Pv.T
open Go Go.Pv Go.Sort
end Go.Pv.T
namespace Go.Pv.T
open Go Go.Pv Go.Sort
end Go.Pv.T
namespace Go.Pv.T
open Go Go.Pv Go.Sort
end Go.Pv.T
namespace Go.Pv.T
open Go Go.Pv
end Go.Pv.T
namespace Go.Pv.T
open Go Go.Pv
end Go.Pv.T
namespace Go.Pv.T
open Go Go.Pv
end Go.Pv.T
namespace Go.Pv.T
open Go Go.Pv
section
end
def IntsO (ob : Nat → Option Obj') (p : Nat → Prop) (l : List Int) (v : V) : Prop :=
  (l = [] ∧ v = .sl none true 0 []) ∨ (l ≠ [] ∧ ∃ u, v = .osl (2 * u + 1) u 0 l.length 1 ∧ ob (2 * u + 1) = some ⟨u, .cells (l.flatMap intC)⟩ ∧ p u)
theorem IntsO.frame {ob ob' : Nat → Option Obj'} {p p' : Nat → Prop} {l : List Int} {v : V} (h : IntsO ob p l v) (hf : ∀ u, p u → ob' (2 * u + 1) = ob (2 * u + 1)) (hh : ∀ u, p u → p' u) : IntsO ob' p' l v := by
  rcases h with h | ⟨h1, u, h2, h3, h4⟩
  · exact Or.inl h
  · exact Or.inr ⟨h1, u, h2, (hf u h4).trans h3, hh u h4⟩
theorem app_obl (st : St) (d : Option Nat) (v : V) (l : Nat) (o : Obj') (kl : List Nat) (k : Nat) : (st.app d { v := v, obs := [(l, o)], kill := kl }).ob k = if k = l then some o else if kl.any (Nat.beq k) then none else st.ob k := by
  simp [St.app, setObs, upd_apply]
theorem solid_ints (st : St) (k : Nat) : ∀ l : List Int, (l.flatMap intC).mapM (solid st (k + 1)) = some (l.flatMap intC)
  | [] => rfl
  | a :: l => by
    show ((V.int .i64 a) :: l.flatMap intC).mapM _ = _
    rw [List.mapM_cons, solid_ints st k l]
    rfl
def intsV (T : List Int) : V := if T.isEmpty then .sl none true 0 [] else .sl (some (0, 1)) false T.length (T.flatMap intC)
theorem numR_intsV (T : List Int) : NumR T (intsV T) := by
  cases T with
  | nil => exact ⟨true, none, rfl, by simp⟩
  | cons a T => exact ⟨false, some (0, 1), rfl, by simp⟩
theorem kEnd_ints {st : St} {p : Nat → Prop} {n : Nat} {T : List Int} {v : V} (hd : st.df = []) (hv : st.tm n = v) (h : IntsO st.ob p T v) (hro : ∀ u, p u → st.ro ≤ u) : kEnd [.t n] (intsV T) .ret st := by
  show endV [.t n] (.ret, st) = some (intsV T)
  rcases h with ⟨rfl, rfl⟩ | ⟨hne, u, rfl, hob, hp⟩
  · exact endV_1 hd (by rw [hv]; rfl) rfl
  · have hoc : objCells st.ob (2 * u + 1) u = some (T.flatMap intC) := by simp [objCells, hob]
    have hlen : (T.flatMap intC).length = T.length := by rw [flatMap_len intC_len]; omega
    have hemp : T.isEmpty = false := by cases T with | nil => exact absurd rfl hne | cons => rfl
    have hpos : 0 < T.length := List.length_pos_iff.2 hne
    have hs : solid st 6 (.osl (2 * u + 1) u 0 T.length 1) = some (.sl none false T.length (T.flatMap intC)) := by
      show ((objCells st.ob (2 * u + 1) u).bind fun cs => if Nat.ble st.ro u = true ∧ 0 + T.length * 1 ≤ cs.length then (((cs.drop 0).take (T.length * 1)).mapM (solid st 5)).map fun cs' => V.sl none false T.length cs' else none) = _
      rw [hoc, Option.bind_some]
      rw [if_pos ⟨Nat.ble_eq ▸ hro u hp, by omega⟩]
      rw [List.drop_zero, Nat.mul_one, List.take_of_length_le (by omega), solid_ints]
      rfl
    have ho : outLeaf st true 0 (.osl (2 * u + 1) u 0 T.length 1) = some (.sl (some (0, 1)) false T.length (T.flatMap intC)) := by
      simp only [outLeaf, hs, Option.bind_some, hoc, Option.map_some]
      have hb : (true && Nat.beq 0 0 && Nat.blt 0 T.length && Nat.beq (T.length * 1) (T.flatMap intC).length) = true := by
        rw [hlen, Nat.mul_one, Nat.beq_refl, Nat.beq_refl]
        simp
        exact hpos
      rw [hb]
      rfl
    have hto : outTop st true 0 (.osl (2 * u + 1) u 0 T.length 1) = some (.sl (some (0, 1)) false T.length (T.flatMap intC)) := ho
    have hr : [ARes.t n].mapM (resOf st) = some [.osl (2 * u + 1) u 0 T.length 1] := by simp [resOf, hv]
    simp only [endV, dfOk_of hd, noDf_of hd, if_true, hr, Option.bind_some, outRes]
    have hn : nodup ([V.osl (2 * u + 1) u 0 T.length 1].flatMap V.toks) = true := rfl
    rw [hn]
    simp only [outTops, hto, Option.bind_some, Option.map_some]
    rw [intsV, hemp]
    rfl
theorem kS_appendM {E : Env} {Yf : YF} {st : St} {ub : Nat} {K : St → Nat → Prop} {d : Option Nat} {p : Nat → Prop} {l : List Int} {z : Int} {v : V} {s x : A} {X uX : Nat} (hs : eval E st.tm s = v) (hv : IntsO st.ob p l v) (hx : eval E st.tm x = .osl X uX 0 1 1) (hX : st.ob X = some ⟨uX, .cells [.int .i64 z]⟩) (hro : ∀ u, p u → st.ro ≤ u) (hl : l.length ≤ 1000)
    (h : ∀ kl : List Nat, (∀ k ∈ kl, ∃ u, p u ∧ k = 2 * u + 1) → kApp K st d ub { v := .osl (2 * ub + 1) ub 0 (l ++ [z]).length 1, obs := [(2 * ub + 1, ⟨ub, .cells ((l ++ [z]).flatMap intC)⟩)], kill := kl }) :
    wpStep E Yf ⟨d, .append true 1 8 s x, none, true⟩ st ub K := by
  have hsc : slCells st.ob 1 (eval E st.tm x) = some [.int .i64 z] := by
    rw [hx]
    simp [slCells, objCells, hX]
  rcases hv with ⟨rfl, rfl⟩ | ⟨hne, u, rfl, hob, hp⟩
  · refine kS_appendO_nil hs hsc (by simp) (by decide) rfl (by simp) (by simp) ?_
    simpa [intC, objName] using h [] (by simp)
  · have hlen : (l.flatMap intC).length = l.length := by rw [flatMap_len intC_len]; omega
    refine kS_appendO (cs := l.flatMap intC) hs hsc hob (by simp) (hro u hp) (by omega) (by decide) rfl (by simp; omega) (by simp; omega) ?_
    have := h [2 * u + 1] (by simp; exact ⟨u, hp, rfl⟩)
    rw [Nat.mul_one, List.take_of_length_le (by omega)]
    simpa [intC, objName] using this
end Go.Pv.T
namespace Go.Pv.T
open Go Go.Pv
end Go.Pv.T
namespace Go.Pv.T
open Go Go.Pv
theorem endV_grow {st : St} {n lo hi : Nat} {l : List Int} {v : V} (hd : st.df = []) (hv : st.tm n = v) (h : Grow st.tk lo hi intC 1 l v) : endV [.t n] (.ret, st) = some (intsV l) := by
  rcases h with ⟨rfl, rfl⟩ | ⟨hne, u, rfl, htk, _⟩
  · exact endV_1 hd (by rw [hv]; rfl) rfl
  · have hemp : l.isEmpty = false := by cases l with | nil => exact absurd rfl hne | cons => rfl
    have hto : outTop st true 0 (.sl (some (u, 1)) false l.length (l.flatMap intC)) = some (.sl (some (0, 1)) false l.length (l.flatMap intC)) := by
      simp only [outTop, outLeaf, htk, Bool.and_self, if_true]
    have hr : [ARes.t n].mapM (resOf st) = some [.sl (some (u, 1)) false l.length (l.flatMap intC)] := by simp [resOf, hv]
    simp only [endV, dfOk_of hd, noDf_of hd, if_true, hr, Option.bind_some, outRes]
    have hn : nodup ([V.sl (some (u, 1)) false l.length (l.flatMap intC)].flatMap V.toks) = true := rfl
    rw [hn]
    simp only [outTops, hto, Option.bind_some, Option.map_some]
    rw [intsV, hemp]
    rfl
theorem ev18i {g : Hist'} (hs : Small g) (hm : mayH g = true) : Ev E 18 [.agg (histC g), .fn (.func 19) [] []] (intsV (infosH g)) := by
  have e70 := ev10 hs
  rw [may_err hm] at e70
  have hts := hs.ts
  refine Ev_wpK (af := F18) rfl ?_
  simp [F18, histC, objCells]
  refine kS_ev e70 (by simp [histC]) rfl (by simp [histC]) ?_
  simp [objCells]
  refine wp_loopUp [(4, 7), (14, 26)] g.ts.length (fun i s => s.tm 14 = .int .i64 i ∧ Grow s.tk 0 s.nx intC 1 (numsTo isInfo g.ts i) (s.tm 5)) rfl rfl ⟨by simp, by simp [numsTo]; exact Grow.nil _ _ _ _ _⟩ ?_
  rintro i s hi ⟨h14, hG⟩ f
  have f1 : s.tm 1 = .fn (.func 19) [] [] := by rw [f.t 1 (by simp)]; simp
  have f12 : s.tm 12 = slOf g.tn txnC g.ts := by rw [f.t 12 (by simp)]; simp
  have f13 : s.tm 13 = .int .i64 g.ts.length := by rw [f.t 13 (by simp)]; simp
  have fd : s.df = [] := by rw [f.d]; simp
  have fb : s.fb = 0 := by rw [f.b]; simp
  have fr : s.ro = 0 := by rw [f.r]; simp
  clear f
  by_cases hlt : i < g.ts.length
  · have hw := wrapU hlt (by omega)
    have hsn := numsTo_succ (p := isInfo) hlt
    obtain ⟨t, ht⟩ : ∃ t, g.ts[i] = t := ⟨_, rfl⟩
    rw [ht] at hsn
    have hll := numsTo_len isInfo g.ts i
    simp [h14, f12, f13, hlt, idx_slOf txnC_len, load_slOf txnC_len, ht, txnC, objCells, fb, fr, splice, f1]
    refine kS_evV (f := 19) (first := []) (captured := []) (ev19 t) (by simp) (by simp [txnC]) rfl (by simp [txnC]) ?_
    cases hi : isInfo t
    · rw [hi] at hsn
      simp only [Bool.false_eq_true, if_false, List.append_nil] at hsn
      simp [h14, hw]
      exact ⟨hlt, by rw [hsn]; exact hG.mono (fun u _ _ h => by simpa [app_tk0] using h) (by omega)⟩
    · rw [hi] at hsn
      simp only [if_true] at hsn
      simp
      refine kS_buildSl (cs := [.int .i64 i]) (by simp [splice]) rfl rfl ?_
      simp
      refine kS_appendG (f := intC) (lo := 0) (hi := s.nx) (l := numsTo isInfo g.ts i) (a := (i : Int)) (v := s.tm 5) (hG.mono (fun u _ _ h => by simp [app_tk, h]) (Nat.le_refl _)) (by simp) (by simp [slCells, intC]) intC_len (by decide) rfl (by omega) (by omega) (fun del hdel => ?_)
      have hne : numsTo isInfo g.ts (i + 1) ≠ [] := by rw [hsn]; simp
      have hlen : (numsTo isInfo g.ts i).length + 1 = (numsTo isInfo g.ts (i + 1)).length := by rw [hsn]; simp
      rw [← hsn, hlen]
      simp [h14, hw]
      exact ⟨hlt, .inr ⟨hne, _, rfl, by simp [app_tk], Nat.zero_le _, by omega⟩⟩
  · have : i = g.ts.length := by omega
    subst this
    simp [h14, f13]
    show endV [.t 4] (.ret, _) = some (intsV (infosH g))
    exact endV_grow (lo := 0) (hi := s.nx) (by simp [fd]) rfl (by simpa [infosH] using hG)
theorem ev9i {g : Hist'} (hs : Small g) (hm : mayH g = true) : Ev E 9 [.agg (histC g)] (intsV (infosH g)) := by
  refine Ev_wpK (af := F9) rfl ?_
  simp [F9, histC, objCells]
  refine kS_ev (ev18i hs hm) (by simp [histC]) rfl (by simp [histC]) ?_
  obtain ⟨l, hl⟩ : ∃ l, infosH g = l := ⟨_, rfl⟩
  rw [hl]
  cases l with
  | nil =>
    have hr : retA 192 (intsV []) = some { v := .sl none true 0 [] } := rfl
    rw [hr]
    simp
    show endV [.t 2] (.ret, _) = some (intsV [])
    exact endV_grow (lo := 0) (hi := 400) rfl rfl (.inl ⟨rfl, by simp⟩)
  | cons x r =>
    have hr : retA 192 (intsV (x :: r)) = some { v := .sl (some (192, 1)) false (x :: r).length ((x :: r).flatMap intC), add := [192] } := by
      rw [retA, if_pos (by simp [intsV, toksRes, V.toks, V.tok])]
      rfl
    rw [hr]
    simp
    show endV [.t 2] (.ret, _) = some (intsV (x :: r))
    exact endV_grow (lo := 0) (hi := 400) rfl rfl (.inr ⟨by simp, 192, by simp, by simp [app_tk], by omega, by omega⟩)
end Go.Pv.T
namespace Go.Pv.T
open Go Go.Pv
end Go.Pv.T
namespace Go.Pv.T
open Go Go.Pv
end Go.Pv.T
namespace Go.Pv.T
open Go Go.Pv
theorem retSl {ub : Nat} {v : V} {nl : Bool} {n : Nat} {cs : List V} {K : Delta → Prop} (hv : SlR v nl n cs) (h : ∀ t add, K { v := .sl t nl n cs, add := add }) : wpD (retA ub v) K := by
  obtain ⟨t, add, hr⟩ := retA_sl (ub := ub) hv
  rw [hr, wpD_some]
  exact h t add
theorem ev7 {a b : Bool} (l m : List Int) (hl : l.length ≤ 1000000000) (hm : m.length ≤ 1000000000) : Ev E 7 [slOf a intC l, slOf b intC m] (.bool (l == m)) := by
  refine Ev_wpK (af := F7) rfl ?_
  have il : ∀ (l : List Int) (i : Nat) (h : i < l.length), (l.flatMap intC)[i]? = some (.int .i64 l[i]) := fun l i h => by
    have := fld_at intC_len l h (by decide : 0 < 1)
    rw [Nat.mul_one, Nat.add_zero] at this
    rw [this]; rfl
  by_cases hlm : l.length = m.length
  · simp [F7, hlm]
    refine wp_loopUp [(4, 5), (11, 40)] l.length (fun i s => s.tm 5 = .int .i64 i ∧ l.take i = m.take i) rfl rfl ⟨by simp, by simp⟩ ?_
    rintro i s hi ⟨h5, hT⟩ f
    have f0 : s.tm 0 = slOf a intC l := by rw [f.t 0 (by simp)]; simp
    have f1 : s.tm 1 = slOf b intC m := by rw [f.t 1 (by simp)]; simp
    have fd : s.df = [] := by rw [f.d]; simp
    clear f
    by_cases hlt : i < l.length
    · have hw := wrapU hlt (by omega)
      have hlt2 : i < m.length := by omega
      have h1 := il l i hlt
      have h2 := il m i hlt2
      cases hne : (l[i] != m[i])
      · have he : l[i] = m[i] := by simpa using hne
        simp [h5, f0, f1, hlt, hlt2, idx_slOf intC_len, h1, h2, hne, hw]
        rw [List.take_succ_eq_append_getElem hlt, List.take_succ_eq_append_getElem hlt2, hT, he]
      · have hn : l[i] ≠ m[i] := by simpa using hne
        simp [h5, f0, f1, hlt, hlt2, idx_slOf intC_len, h1, h2, hne]
        refine endV_1 (by simp [fd]) ?_ rfl
        have : (l == m) = false := by
          rw [beq_eq_false_iff_ne]
          intro e
          subst e
          exact hn rfl
        simp [this]
    · have : i = l.length := by omega
      subst this
      simp [h5, f0]
      refine endV_1 (by simp [fd]) ?_ rfl
      have : l = m := by rw [List.take_length, hlm, List.take_length] at hT; exact hT
      simp [this]
  · have hne : ((l.length : Int) != m.length) = true := by simp; omega
    simp [F7, hne]
    refine endV_1 (by simp) ?_ rfl
    have : (l == m) = false := by
      rw [beq_eq_false_iff_ne]
      intro e
      subst e
      exact hlm rfl
    simp [this]
def blC (b : Bool) : List V := [.bool b]
@[simp] theorem blC_len (b : Bool) : (blC b).length = 1 := rfl
theorem bl_at (l : List Bool) {i : Nat} (h : i < l.length) : (l.flatMap blC)[i]? = some (.bool l[i]) := by
  have := fld_at blC_len l h (by decide : 0 < 1)
  simpa [blC] using this
theorem two_inj {a b : Nat} : (2 * a = 2 * b) = (a = b) := propext ⟨fun h => by omega, fun h => by rw [h]⟩
def pickTo (l : List Int) (b : List Bool) : Nat → List Int
  | 0 => []
  | i + 1 => pickTo l b i ++ (match l[i]?, b[i]? with | some x, some false => [x] | _, _ => [])
theorem pickTo_succ {l : List Int} {b : List Bool} {i : Nat} (h : i < l.length) (hb : i < b.length) : pickTo l b (i + 1) = pickTo l b i ++ if b[i] then [] else [l[i]] := by
  simp only [pickTo, List.getElem?_eq_getElem h, List.getElem?_eq_getElem hb]
  cases b[i] <;> rfl
theorem pickTo_len (l : List Int) (b : List Bool) : ∀ i, (pickTo l b i).length ≤ i
  | 0 => by simp [pickTo]
  | i + 1 => by
    have := pickTo_len l b i
    simp only [pickTo, List.length_append]
    split <;> simp <;> omega
def fndC (sat : Bool) (a b : Bool) (c d : List Bool) : List V := [.bool sat, .bool false, .sl none true 0 [], .sl none true 0 [], .sl none true 0 [], .sl none true 0 [], .sl none true 0 [], .sl none true 0 [], slOf a blC c, slOf b blC d]
theorem ev18n {g : Hist'} (hs : Small g) (hm : mayH g = false) : Ev E 18 [.agg (histC g), .fn (.func 19) [] []] (.sl none true 0 []) := by
  have e70 := ev10 hs
  have hb : (errH g != 0) = true := by simp [may_bad hm]
  refine Ev_wpK (af := F18) rfl ?_
  simp [F18, histC, objCells]
  refine kS_ev e70 (by simp [histC]) rfl (by simp [histC]) ?_
  simp [hb]
  exact endV_1 rfl (by simp) rfl
theorem ev9n {g : Hist'} (hs : Small g) (hm : mayH g = false) : Ev E 9 [.agg (histC g)] (.sl none true 0 []) := by
  refine Ev_wpK (af := F9) rfl ?_
  simp [F9, histC, objCells]
  refine kS_ev (ev18n hs hm) (by simp [histC]) rfl (by simp [histC]) ?_
  simp
  exact endV_1 rfl (by simp) rfl
section
variable {ob : Nat → Option Obj'} {ub k u : Nat} {sat a b : Bool} {c d : List Bool}
theorem evo12 (hk : ob k = some ⟨u, .cells (fndC sat a b c d)⟩) {i : Nat} (h : i < d.length) (tk : Nat → Bool) (base : Nat) : EvO E 12 [.int .i64 (i : Int), .ptr k u 0] ob tk base ub (.bool (!d[i])) := by
  have h1 := bl_at d h
  refine EvO_wpK (af := S12) rfl ?_
  simp [S12, objCells, hk, fndC, idx_slOf blC_len, h, h1]
  exact endV_1 (by simp) (by simp) rfl
theorem evo13 (hk : ob k = some ⟨u, .cells (fndC sat a b c d)⟩) {i : Nat} (h : i < c.length) (tk : Nat → Bool) (base : Nat) : EvO E 13 [.int .i64 (i : Int), .ptr k u 0] ob tk base ub (.bool (!c[i])) := by
  have h1 := bl_at c h
  refine EvO_wpK (af := S13) rfl ?_
  simp [S13, objCells, hk, fndC, idx_slOf blC_len, h, h1]
  exact endV_1 (by simp) (by simp) rfl
end
theorem evo11 {ob : Nat → Option Obj'} {ub : Nat} {gf : FuncId} {c1 c2 : Nat} (hs : E.sh true gf = false) {t : Option (Nat × Nat)} {nl : Bool} {L : List Int} {B : List Bool} (hl : L.length ≤ 1000) (hB : B.length = L.length)
    (hp : ∀ (i : Nat) (hi : i < B.length) (tk : Nat → Bool) (base ub' : Nat) (ob' : Nat → Option Obj'), ub ≤ ub' → ob' c1 = ob c1 → EvO E gf [.int .i64 (i : Int), .ptr c1 c2 0] ob' tk base ub' (.bool (!B[i]))) (hc : ∀ m, ub ≤ m → ¬ c1 = 2 * m + 1) (tk : Nat → Bool) (base : Nat) :
    EvO E 11 [.sl t nl L.length (L.flatMap intC), .fn (.func gf) [] [.ptr c1 c2 0]] ob tk base ub (intsV (pickTo L B L.length)) := by
  refine EvO_wpK (af := S11) rfl ?_
  simp [S11]
  refine wpC_gen fun st hst => ?_
  have g1 : st.tm 1 = .fn (.func gf) [] [.ptr c1 c2 0] := by rw [hst]; simp
  have g5 : st.tm 5 = .sl none true 0 [] := by rw [hst]; simp
  have g8 : st.tm 8 = .sl t nl L.length (L.flatMap intC) := by rw [hst]; simp
  have g9 : st.tm 9 = .int .i64 L.length := by rw [hst]; simp
  have g10 : st.tm 10 = .int .i64 0 := by rw [hst]; simp
  have gd : st.df = [] := by rw [hst]; simp
  have gr : st.ro = ub := by rw [hst]; simp
  have gn : ub ≤ st.nx := by rw [hst]; first | omega | (simp; done) | (simp; omega)
  have go : st.ob c1 = ob c1 := by rw [hst]; simp
  clear hst
  obtain ⟨P, hP⟩ : ∃ P : Nat → Nat → Prop, P = fun hi u => ub ≤ u ∧ u < hi := ⟨_, rfl⟩
  obtain ⟨J, hJ⟩ : ∃ J : Nat → St → Prop, J = fun k s => s.tm 10 = .int .i64 k ∧ IntsO s.ob (P s.nx) (pickTo L B k) (s.tm 5) ∧ ub ≤ s.nx ∧ s.ob c1 = ob c1 := ⟨_, rfl⟩
  refine wp_loopUp [(5, 7), (10, 22)] L.length J rfl rfl (by rw [hJ]; exact ⟨by simpa using g10, .inl ⟨by simp [pickTo], g5⟩, gn, go⟩) ?_
  clear g10 g5 gn go
  intro k s hk' hJs f
  rw [hJ] at hJs
  obtain ⟨s10, sI, sn, so⟩ := hJs
  have s1 := (f.t 1 (by simp)).trans g1
  have s8 := (f.t 8 (by simp)).trans g8
  have s9 := (f.t 9 (by simp)).trans g9
  have sd := f.d.trans gd
  have sr := f.r.trans gr
  clear f
  by_cases hlt : k < L.length
  · have hwk := wrapU hlt (by omega)
    have hix := idx_sl intC_len t nl L .i64 hlt
    have hia := int_at L hlt
    have hsu := pickTo_succ (b := B) hlt (by omega)
    have hsl := pickTo_len L B k
    have hkB : k < B.length := by omega
    have hcn : ∀ m, s.nx ≤ m → ¬ c1 = 2 * m + 1 := fun m hm => hc m (by omega)
    simp [s1, s8, s9, s10, hlt, hix, hia]
    refine kS_callVO (f := gf) (first := []) (captured := [.ptr c1 c2 0]) (by simp [s1]) hs (by simp [V.strip, V.pureTop, V.pureLeaf]) (v := .bool (!B[k])) (by simpa using hp k hkB _ _ _ _ (by omega) (by simpa using so)) ?_
    cases hbk : B[k]
    · rw [hbk] at hsu
      simp
      refine kS_buildSlO (cs := [.int .i64 L[k]]) (by simp [splice]) rfl rfl ?_
      simp
      refine kS_appendM (p := P s.nx) (l := pickTo L B k) (z := L[k]) (v := s.tm 5) (X := 2 * (s.nx + 704) + 1) (uX := s.nx + 704) (by simp) (sI.frame (fun u hu => ?_) fun _ h => h) (by simp [Nat.add_assoc]) (by simp [Nat.add_assoc]) (fun u hu => by rw [hP] at hu; simp [sr]; exact hu.1) (by omega) fun kl hkl => ?_
      · rw [hP] at hu
        have : ∀ m, s.nx ≤ m → ¬ u = m := fun m hm => by omega
        simp (disch := first | (simp; done) | omega) [two_inj, this]
      simp (disch := first | (simp; done) | omega) [s10, hwk, hlt]
      rw [hJ]
      refine ⟨by simp, .inr ⟨by rw [hsu]; simp, s.nx + 768, by rw [hsu]; simp [Nat.add_assoc], by rw [hsu]; simp [Nat.add_assoc, app_obl], ?_⟩, by first | omega | (simp; done) | (simp; omega), ?_⟩
      · rw [hP]
        simp
        omega
      · have h3 := hcn
        have h4 : kl.any (Nat.beq c1) = false := by
          rw [List.any_eq_false]
          intro x hx hb
          obtain ⟨u, hu, rfl⟩ := hkl x hx
          rw [hP] at hu
          exact hc u hu.1 (Nat.eq_of_beq_eq_true hb)
        simp (disch := first | (simp; done) | omega) [app_obl, h3, h4]
        exact so
    · rw [hbk] at hsu
      simp [s10, hwk, hlt]
      rw [hJ]
      refine ⟨by simp, ?_, by first | omega | (simp; done) | (simp; omega), by simpa using so⟩
      rw [hsu]
      simp
      exact sI.frame (fun u hu => by simp) fun u hu => by rw [hP] at hu ⊢; exact ⟨hu.1, by have := hu.2; first | omega | (simp; omega)⟩
  · have : k = L.length := by omega
    subst this
    simp [s9, s10]
    exact kEnd_ints (p := P s.nx) (v := s.tm 5) (by simpa using sd) (by simp) (by simpa using sI) (fun u hu => by rw [hP] at hu; simp [sr]; exact hu.1)
def forE (g : Hist') (sat : Bool) (c d : List Bool) : (List Int × List Int) × Int :=
  if mayH g = false ∨ c.length ≠ (infosH g).length ∨ d.length ≠ (infosH g).length then (([], []), 4) else if sat = false then (([], []), 0) else
    ((pickTo (infosH g) d (infosH g).length, pickTo (infosH g) c (infosH g).length), 0)
def ForR (X : (List Int × List Int) × Int) (v : V) : Prop := ∃ t1 t2 n1 n2, v = .tup [.agg [.sl t1 n1 X.1.1.length (X.1.1.flatMap intC), .sl t2 n2 X.1.2.length (X.1.2.flatMap intC)], .int .i64 X.2] ∧ ∀ q ∈ t1.toList ++ t2.toList, q.1 < 64
theorem toks2 (x y : V) (e : Int) : List.flatMap V.toks [.agg [x, y], .int .i64 e] = x.tok ++ y.tok := by
  simp [V.toks, show (V.int .i64 e).tok = [] from rfl]
theorem for_end {st : St} {p q l u : Nat} {x y : V} {e : Int} {n1 n2 : Bool} {C D : List Int} {P : V → Prop} (hP : ∀ v, ForR ((C, D), e) v → P v) (hd : st.df = []) (hp : st.tm p = .ptr l u 0) (ho : st.ob l = some ⟨u, .cells [x, y]⟩) (he : st.tm q = .int .i64 e)
    (hx : SlOut st x n1 C.length (C.flatMap intC)) (hy : SlOut st y n2 D.length (D.flatMap intC)) : kEndE [.cell p (some 2), .t q] P .ret st := by
  have h1 : objCells st.ob l u = some [x, y] := by simp [objCells, ho]
  have hres : [ARes.cell p (some 2), ARes.t q].mapM (resOf st) = some [.agg [x, y], .int .i64 e] := by
    simp [resOf, hp, h1, he]
  obtain ⟨a, ha, ha'⟩ := hx (nodup (List.flatMap V.toks [.agg [x, y], .int .i64 e])) 0
  obtain ⟨b, hb, hb'⟩ := hy (nodup (List.flatMap V.toks [.agg [x, y], .int .i64 e])) 1
  refine ⟨.tup [.agg [.sl a n1 C.length (C.flatMap intC), .sl b n2 D.length (D.flatMap intC)], .int .i64 e], ?_, hP _ ⟨a, b, n1, n2, rfl, ?_⟩⟩
  · simp only [endV, dfOk_of hd, noDf_of hd, if_true, hres, Option.bind_some, outRes]
    generalize nodup (List.flatMap V.toks [.agg [x, y], .int .i64 e]) = keep at *
    have hint : outTop st keep 16 (.int .i64 e) = some (.int .i64 e) := rfl
    simp only [outTops, outTop, outList, ha, hb, Nat.zero_add, Option.bind_some, Option.map_some]
    have hnd : nodup (List.flatMap V.toks [.agg [.sl a n1 C.length (C.flatMap intC), .sl b n2 D.length (D.flatMap intC)], .int .i64 e]) = true := by
      rw [toks2, toks_sl, toks_sl]
      rcases ha' with rfl | ⟨_, rfl⟩ <;> rcases hb' with rfl | ⟨_, rfl⟩ <;> rfl
    have hint2 : outLeaf st keep 16 (.int .i64 e) = some (.int .i64 e) := rfl
    simp only [hint2, Option.bind_some, Option.map_some]
    rw [if_pos hnd]
  · intro q hq
    rw [List.mem_append] at hq
    rcases ha' with rfl | ⟨_, rfl⟩ <;> rcases hb' with rfl | ⟨_, rfl⟩ <;> simp at hq <;> (try rcases hq with hq | hq) <;> (try subst hq) <;> (try simp)
theorem ev5 {g : Hist'} (hs : Small g) (sat a b : Bool) (c d : List Bool) (hn : (infosH g).length ≤ 1000) : ∃ v, Ev E 5 [.agg (histC g), .agg (fndC sat a b c d)] v ∧ ForR (forE g sat c d) v := by
  have e73 := ev10 hs
  generalize hP : ForR (forE g sat c d) = P
  have hP' : ∀ r, ForR (forE g sat c d) r → P r := fun r h => by rw [← hP]; exact h
  clear hP
  refine Ev_wpE (af := F5) rfl (by decide) ?_
  cases hm : mayH g
  · have hb : (errH g != 0) = true := by simp [may_bad hm]
    have hE : forE g sat c d = (([], []), 4) := by unfold forE; rw [if_pos (.inl hm)]
    rw [hE] at hP'
    simp [F5, histC, fndC, objCells]
    refine kS_ev (ev9n hs hm) (by simp [histC]) rfl (by simp [histC]) ?_
    simp [objCells]
    refine kS_ev e73 (by simp [histC]) rfl (by simp [histC]) ?_
    simp [hb, objCells, splice]
    exact for_end (C := []) (D := []) hP' (by simp) (l := 8) (u := 128) (x := .sl none true 0 []) (y := .sl none true 0 []) (by simp) (by simp) (by simp) (slOut_sl _ none true 0 []) (slOut_sl _ none true 0 [])
  have e72 := ev9i hs hm
  rw [may_err hm] at e73
  obtain ⟨L, hL⟩ : ∃ L, infosH g = L := ⟨_, rfl⟩
  unfold forE at hP'
  rw [hL] at hP' e72 hn
  simp [F5, histC, fndC, objCells]
  refine kS_ev e72 (by simp [histC]) rfl (by simp [histC]) ?_
  obtain ⟨nl, hv⟩ := numR_intsV L
  refine retSl hv fun t0 add0 => ?_
  simp [objCells]
  refine kS_ev e73 (by simp [histC]) rfl (by simp [histC]) ?_
  by_cases hc : c.length = L.length
  rotate_left
  · have hb : ((c.length : Int) != L.length) = true := by simp; omega
    rw [if_pos (.inr (.inl hc))] at hP'
    simp [hb, objCells, splice]
    exact for_end (C := []) (D := []) hP' (by simp) (l := 8) (u := 128) (x := .sl none true 0 []) (y := .sl none true 0 []) (by simp) (by simp) (by simp) (slOut_sl _ none true 0 []) (slOut_sl _ none true 0 [])
  by_cases hd : d.length = L.length
  rotate_left
  · have hb : ((d.length : Int) != L.length) = true := by simp; omega
    rw [if_pos (.inr (.inr hd))] at hP'
    simp [hb, hc, objCells, splice]
    exact for_end (C := []) (D := []) hP' (by simp) (l := 8) (u := 128) (x := .sl none true 0 []) (y := .sl none true 0 []) (by simp) (by simp) (by simp) (slOut_sl _ none true 0 []) (slOut_sl _ none true 0 [])
  rw [if_neg (by rw [hm]; simp; omega)] at hP'
  cases hsat : sat
  · rw [hsat, if_pos rfl] at hP'
    simp [hc, hd, hsat, objCells, splice]
    exact for_end (C := []) (D := []) hP' (by simp) (l := 8) (u := 128) (x := .sl none true 0 []) (y := .sl none true 0 []) (by simp) (by simp) (by simp) (slOut_sl _ none true 0 []) (slOut_sl _ none true 0 [])
  rw [hsat, if_neg (by decide)] at hP'
  simp [hc, hd, hsat, objCells, splice]
  have hB : ∀ (ob' : Nat → Option Obj') (i : Nat) (hi : i < d.length) (tk : Nat → Bool) (base ub' : Nat), ob' 6 = some ⟨64, .cells (fndC true a b c d)⟩ → EvO E 12 [.int .i64 (i : Int), .ptr 6 64 0] ob' tk base ub' (.bool (!d[i])) := fun ob' i hi tk base ub' h6 => evo12 h6 hi tk base
  have hA : ∀ (ob' : Nat → Option Obj') (i : Nat) (hi : i < c.length) (tk : Nat → Bool) (base ub' : Nat), ob' 6 = some ⟨64, .cells (fndC true a b c d)⟩ → EvO E 13 [.int .i64 (i : Int), .ptr 6 64 0] ob' tk base ub' (.bool (!c[i])) := fun ob' i hi tk base ub' h6 => evo13 h6 hi tk base
  refine kS_callO (vs := [.sl t0 nl L.length (L.flatMap intC), .fn (.func 12) [] [.ptr 6 64 0]]) (by simp) (by rfl) (by simp [V.strip, V.strip1, V.pureTop, V.pureLeaf]) (evo11 (t := t0) (nl := nl) (L := L) (B := d) rfl hn hd (fun i hi tk base ub' ob' hub hob => hB ob' i hi tk base ub' (hob.trans (by simp [fndC]))) (fun m hm => by omega) _ _) ?_
  obtain ⟨nA, hvA⟩ := numR_intsV (pickTo L d L.length)
  refine retSl hvA fun t1 add1 => ?_
  simp
  refine kS_callO (vs := [.sl t0 nl L.length (L.flatMap intC), .fn (.func 13) [] [.ptr 6 64 0]]) (by simp) (by rfl) (by simp [V.strip, V.strip1, V.pureTop, V.pureLeaf]) (evo11 (t := t0) (nl := nl) (L := L) (B := c) rfl hn hc (fun i hi tk base ub' ob' hub hob => hA ob' i hi tk base ub' (hob.trans (by simp [fndC]))) (fun m hm => by omega) _ _) ?_
  obtain ⟨nC, hvC⟩ := numR_intsV (pickTo L c L.length)
  refine retSl hvC fun t2 add2 => ?_
  simp [objCells, splice]
  exact for_end (C := pickTo L d L.length) (D := pickTo L c L.length) hP' (by simp) (l := 8) (u := 128) (by simp) (by simp) (by simp) (slOut_sl _ t1 nA _ _) (slOut_sl _ t2 nC _ _)
theorem Grow.keep {α : Type} {f : α → List V} {sz : Nat} {tk tk' : Nat → Bool} {lo nx nx' : Nat} {l : List α} {v : V} (h : Grow tk lo nx f sz l v) (ht : ∀ u ∈ v.tok, tk u = true → tk' u = true) (hn : nx ≤ nx') : Grow tk' lo nx' f sz l v := by
  rcases h with h | ⟨hne, u, hv, h1, h2, h3⟩
  · exact .inl h
  · exact .inr ⟨hne, u, hv, ht u (by rw [hv]; simp [V.tok]) h1, h2, by omega⟩
theorem ev6 {g : Hist'} (hs : Small g) (sat a b : Bool) (c d : List Bool) (hn : (infosH g).length ≤ 1000) : ∃ v, Ev E 6 [.agg (histC g), .agg (fndC sat a b c d)] v ∧ ForR (forE g sat c d) v := by
  have e14 := ev14 hs
  generalize hP : ForR (forE g sat c d) = P
  have hP' : ∀ r, ForR (forE g sat c d) r → P r := fun r h => by rw [← hP]; exact h
  clear hP
  refine Ev_wpE (af := F6) rfl (by decide) ?_
  cases hm : mayH g
  · have hb : (errH g != 0) = true := by simp [may_bad hm]
    have hE : forE g sat c d = (([], []), 4) := by unfold forE; rw [if_pos (.inl hm)]
    rw [hE] at hP'
    simp [F6, histC, fndC, objCells]
    refine kS_ev e14 (by simp [histC]) rfl (by simp [histC]) ?_
    simp [hb, objCells, splice]
    exact for_end (C := []) (D := []) hP' (by simp) (l := 8) (u := 128) (x := .sl none true 0 []) (y := .sl none true 0 []) (by simp) (by simp) (by simp) (slOut_sl _ none true 0 []) (slOut_sl _ none true 0 [])
  have e15 := ev15 g (by have := hs.ts; omega)
  rw [may_err hm] at e14
  obtain ⟨L, hL⟩ : ∃ L, infosH g = L := ⟨_, rfl⟩
  unfold forE at hP'
  rw [hL] at hP' e15 hn
  simp [F6, histC, fndC, objCells]
  refine kS_ev e14 (by simp [histC]) rfl (by simp [histC]) ?_
  simp [objCells]
  refine kS_ev e15 (by simp [histC]) rfl (by simp [histC]) ?_
  refine retSl ⟨_, rfl, by simp⟩ fun t0 add0 => ?_
  simp [objCells]
  by_cases hc : c.length = L.length
  rotate_left
  · have hb : ((c.length : Int) != L.length) = true := by simp; omega
    rw [if_pos (.inr (.inl hc))] at hP'
    simp [hb, objCells, splice]
    exact for_end (C := []) (D := []) hP' (by simp) (l := 8) (u := 128) (x := .sl none true 0 []) (y := .sl none true 0 []) (by simp) (by simp) (by simp) (slOut_sl _ none true 0 []) (slOut_sl _ none true 0 [])
  by_cases hd : d.length = L.length
  rotate_left
  · have hb : ((d.length : Int) != L.length) = true := by simp; omega
    rw [if_pos (.inr (.inr hd))] at hP'
    simp [hb, hc, objCells, splice]
    exact for_end (C := []) (D := []) hP' (by simp) (l := 8) (u := 128) (x := .sl none true 0 []) (y := .sl none true 0 []) (by simp) (by simp) (by simp) (slOut_sl _ none true 0 []) (slOut_sl _ none true 0 [])
  rw [if_neg (by rw [hm]; simp; omega)] at hP'
  simp [hc, hd, objCells, splice]
  refine wpC_gen fun st hst => ?_
  have g3 : st.tm 3 = .ptr 6 64 0 := by rw [hst]; simp
  have g4 : st.tm 4 = .ptr 8 128 0 := by rw [hst]; simp
  have g6 : st.tm 6 = .sl t0 false L.length (L.flatMap intC) := by rw [hst]; simp
  have g7 : st.tm 7 = .ptr 14 1600 0 := by rw [hst]; simp
  have g8 : st.tm 8 = .int .i64 0 := by rw [hst]; simp
  have gd : st.df = [] := by rw [hst]; simp
  have gr : st.ro = 0 := by rw [hst]; simp
  have gf : st.fb = 0 := by rw [hst]; simp
  have o6 : st.ob 6 = some ⟨64, .cells (fndC sat a b c d)⟩ := by rw [hst]; simp [fndC]
  have o8 : st.ob 8 = some ⟨128, .cells [.sl none true 0 [], .sl none true 0 []]⟩ := by rw [hst]; simp
  have o14 : st.ob 14 = some ⟨1600, .cells [.sl none true 0 [], .sl none true 0 []]⟩ := by rw [hst]; simp
  have gn : 1792 ≤ st.nx := by rw [hst]; simp
  clear hst
  obtain ⟨J, hJ⟩ : ∃ J : Nat → St → Prop, J = fun i s => s.tm 8 = .int .i64 i ∧ (sat = false → i = 0) ∧ 1792 ≤ s.nx ∧ s.ob 6 = some ⟨64, .cells (fndC sat a b c d)⟩ ∧ s.ob 8 = some ⟨128, .cells [.sl none true 0 [], .sl none true 0 []]⟩ ∧
      ∃ x y, s.ob 14 = some ⟨1600, .cells [x, y]⟩ ∧ Grow s.tk 0 s.nx intC 1 (pickTo L d i) x ∧ Grow s.tk 0 s.nx intC 1 (pickTo L c i) y ∧ ∀ u ∈ x.tok, u ∉ y.tok := ⟨_, rfl⟩
  refine wp_loopUp [(8, 8), (31, 70)] L.length J rfl rfl (by rw [hJ]; exact ⟨g8, fun _ => rfl, gn, o6, o8, _, _, o14, .inl ⟨by simp [pickTo], rfl⟩, .inl ⟨by simp [pickTo], rfl⟩, by simp [V.tok]⟩) ?_
  clear g8 gn o6 o8 o14
  intro i s hi hJs f
  rw [hJ] at hJs
  obtain ⟨s8, sz, sn, o6, o8, x, y, o14, gx, gy, gne⟩ := hJs
  have s3 := (f.t 3 (by simp)).trans g3
  have s4 := (f.t 4 (by simp)).trans g4
  have s6 := (f.t 6 (by simp)).trans g6
  have s7 := (f.t 7 (by simp)).trans g7
  have sd := f.d.trans gd
  have sr := f.r.trans gr
  clear f
  cases hsat : sat
  · have := sz hsat
    subst this
    rw [hsat, if_pos rfl] at hP'
    obtain ⟨_, rfl⟩ | ⟨h, _⟩ := gx
    rotate_left
    · exact absurd rfl h
    obtain ⟨_, rfl⟩ | ⟨h, _⟩ := gy
    rotate_left
    · exact absurd rfl h
    by_cases hlt : 0 < L.length
    · simp [s3, s4, s6, s7, s8, o6, o8, o14, fndC, objCells, splice, sr, hlt, hsat]
      exact for_end (C := []) (D := []) hP' (by simp [sd]) (l := 8) (u := 128) (by simp [s4]) (by simp) (by simp) (slOut_sl _ none true 0 []) (slOut_sl _ none true 0 [])
    · have hl0 : L.length = 0 := by omega
      simp [s3, s4, s6, s7, s8, o6, o8, o14, fndC, objCells, splice, sr, hl0]
      exact for_end (C := []) (D := []) hP' (by simp [sd]) (l := 8) (u := 128) (by simp [s4]) (by simp) (by simp) (slOut_sl _ none true 0 []) (slOut_sl _ none true 0 [])
  subst hsat
  rw [if_neg (by decide)] at hP'
  by_cases hlt : i < L.length
  rotate_left
  · have : i = L.length := by omega
    subst this
    obtain ⟨tx, hx⟩ := gx.form
    obtain ⟨ty, hy⟩ := gy.form
    generalize hA : pickTo L d L.length = A at *
    generalize hB : pickTo L c L.length = B at *
    generalize A.isEmpty = nA at *
    generalize B.isEmpty = nB at *
    subst hx hy
    simp [s3, s4, s6, s7, s8, o6, o8, o14, fndC, objCells, splice, sr]
    exact for_end (C := A) (D := B) hP' (by simp [sd]) (l := 8) (u := 128) (by simp [s4]) (by simp) (by simp) (slOut_sl _ tx nA _ _) (slOut_sl _ ty nB _ _)
  simp [s3, s4, s6, s7, s8, o6, o8, o14, fndC, objCells, splice, sr, hlt]
  have hdi : i < d.length := by omega
  have hci : i < c.length := by omega
  have hbd := bl_at d hdi
  have hbc := bl_at c hci
  have hia := int_at L hlt
  have hix := idx_sl intC_len t0 false L .i64 hlt
  have hwk := wrapU hlt (by omega)
  have hsd := pickTo_succ (b := d) hlt hdi
  have hsc := pickTo_succ (b := c) hlt hci
  have hld := pickTo_len L d i
  have hlc := pickTo_len L c i
  simp [idx_slOf blC_len, hdi, hbd]
  generalize hK : kSeq E noYF (T.sr (T.of 56 8 3 :: _) _) _ = K
  have rest : ∀ (s' : St) (x' : V), s'.tm 3 = .ptr 6 64 0 → s'.tm 4 = .ptr 8 128 0 → s'.tm 6 = .sl t0 false L.length (L.flatMap intC) → s'.tm 7 = .ptr 14 1600 0 → s'.tm 8 = .int .i64 i → s'.df = [] → s'.ro = 0 → 1792 ≤ s'.nx →
      s'.ob 6 = some ⟨64, .cells (fndC true a b c d)⟩ → s'.ob 8 = some ⟨128, .cells [.sl none true 0 [], .sl none true 0 []]⟩ → s'.ob 14 = some ⟨1600, .cells [x', y]⟩ → Grow s'.tk 0 s'.nx intC 1 (pickTo L d (i + 1)) x' → Grow s'.tk 0 s'.nx intC 1 (pickTo L c i) y → (∀ u ∈ x'.tok, u ∉ y.tok) → K .nrm s' := by
    clear s3 s4 s6 s7 s8 sd sr sn o6 o8 o14 gx gy gne
    intro s' x' s3 s4 s6 s7 s8 sd sr sn o6 o8 o14 gx gy gne
    subst hK
    simp [s3, s4, s6, s7, s8, o6, o8, o14, fndC, objCells, splice, sr, idx_slOf blC_len, hci, hbc]
    cases hb : c[i]
    · rw [hb] at hsc
      simp [s6, s7, s8, o14, objCells, hix, hia]
      refine kD_buildSl (cs := [.int .i64 L[i]]) (by simp [splice]) rfl rfl ?_
      simp
      refine kD_appendG2 (f := intC) (lo := 0) (hi := s'.nx) (l := pickTo L c i) (a := L[i]) (v := y) (gy.mono (fun u _ _ h => by simp [app_tk, h]) (Nat.le_refl _)) (by simp) (by simp [slCells, intC]) intC_len (by decide) rfl (by omega) (by omega) (fun del hdel => ?_)
      have hne : pickTo L c (i + 1) ≠ [] := by rw [hsc]; simp
      have hlen : (pickTo L c i).length + 1 = (pickTo L c (i + 1)).length := by rw [hsc]; simp
      rw [if_neg (by decide)] at hsc
      rw [← hsc, hlen]
      simp [s7, s8, o14, objCells, splice, sr, hwk]
      refine ⟨by simp [drawOk, indep, disj, fpOf, rdOb, rdTk, lOf, uOf, Delta.wo, Delta.wt], ?_⟩
      have hxs : ∀ u ∈ x'.tok, u < s'.nx := fun u hu => (gx.tok_lt u hu).2
      refine ⟨hlt, ?_⟩
      rw [hJ]
      refine ⟨by simp, by simp, by simp; omega, by simp [o6], by simp [o8], x', .sl (some (s'.nx + 64 + 64 + 64 + 64 + 64 + 64 + 64 + 64 + 64 + 64 + 64 + 64 + 64, 1)) false (pickTo L c (i + 1)).length ((pickTo L c (i + 1)).flatMap intC), by simp, ?_, .inr ⟨hne, _, rfl, by simp [app_tk], Nat.zero_le _, by simp⟩, ?_⟩
      · refine gx.keep (fun u hu h => ?_) (by simp; omega)
        have := hxs u hu
        have hdu : ¬ del = some u := fun e => gne u hu (hdel u e)
        simp [app_tk, h, hdu]
      · intro u hu hy
        have := hxs u hu
        simp [V.tok] at hy
        omega
    · rw [hb] at hsc
      simp [s8, hwk]
      refine ⟨hlt, ?_⟩
      rw [hJ]
      refine ⟨by simp, by simp, by simp; omega, by simp [o6], by simp [o8], x', y, by simp [o14], ?_, ?_, gne⟩
      · simp
        exact gx.mono (fun _ _ _ h => h) (by omega)
      · rw [hsc]
        simp
        exact gy.mono (fun _ _ _ h => h) (by omega)
  cases hb : d[i]
  · rw [hb] at hsd
    simp [s6, s7, s8, o14, objCells, hix, hia]
    refine kD_buildSl (cs := [.int .i64 L[i]]) (by simp [splice]) rfl rfl ?_
    simp
    refine kD_appendG2 (f := intC) (lo := 0) (hi := s.nx) (l := pickTo L d i) (a := L[i]) (v := x) (gx.mono (fun u _ _ h => by simp [app_tk, h]) (Nat.le_refl _)) (by simp) (by simp [slCells, intC]) intC_len (by decide) rfl (by omega) (by omega) (fun del hdel => ?_)
    have hne : pickTo L d (i + 1) ≠ [] := by rw [hsd]; simp
    have hlen : (pickTo L d i).length + 1 = (pickTo L d (i + 1)).length := by rw [hsd]; simp
    rw [if_neg (by decide)] at hsd
    rw [← hsd, hlen]
    simp [s7, o14, objCells, splice, sr]
    refine ⟨by simp [drawOk, indep, disj, fpOf, rdOb, rdTk, lOf, uOf, Delta.wo, Delta.wt], ?_⟩
    have hys : ∀ u ∈ y.tok, u < s.nx := fun u hu => (gy.tok_lt u hu).2
    refine rest _ _ (by simp [s3]) (by simp [s4]) (by simp [s6]) (by simp [s7]) (by simp [s8]) (by simp [sd]) (by simp [sr]) (by simp; omega) (by simp [o6]) (by simp [o8]) (by simp; try rfl) ?_ ?_ ?_
    · exact .inr ⟨hne, _, rfl, by simp [app_tk], Nat.zero_le _, by simp⟩
    · refine gy.keep (fun u hu h => ?_) (by simp; omega)
      have := hys u hu
      have hdu : ¬ del = some u := fun e => gne u (hdel u e) hu
      simp [app_tk, h, hdu]
    · intro u hu hy
      have := hys u hy
      simp [V.tok] at hu
      omega
  · rw [hb] at hsd
    simp
    refine rest _ x (by simp [s3]) (by simp [s4]) (by simp [s6]) (by simp [s7]) (by simp [s8]) (by simp [sd]) (by simp [sr]) (by simp; omega) (by simp [o6]) (by simp [o8]) (by simp [o14]) ?_ ?_ gne
    · rw [hsd]
      simp
      exact gx.mono (fun _ _ _ h => h) (by omega)
    · simp
      exact gy.mono (fun _ _ _ h => h) (by omega)
@[simp] theorem eqVV_bool (ob : Nat → Option Obj') (neg a b : Bool) : eqVV ob neg .bool (.bool a) (.bool b) = some (.bool (xor neg (a == b))) := rfl
theorem retHist {ub : Nat} {r : V} {g : Hist'} {K : Delta → Prop} (h : HistR r g)
    (hK : ∀ a b c add, K { v := .agg [.sl a g.sn g.ss.length (g.ss.flatMap strC), .sl b g.kn g.ks.length (g.ks.flatMap strC), .sl c g.tn g.ts.length (g.ts.flatMap txnC)], add := add }) : wpD (retA ub r) K := by
  obtain ⟨a, b, c, add, hr⟩ := retA_hist1 (ub := ub) h
  rw [hr, wpD_some]
  exact hK a b c add
theorem take_flat {α : Type} {f : α → List V} {k : Nat} (hf : ∀ a, (f a).length = k) : ∀ (l : List α) (n : Nat), (l.flatMap f).take (n * k) = (l.take n).flatMap f
  | [], n => by simp
  | a :: l, 0 => by simp
  | a :: l, n + 1 => by
    rw [List.flatMap_cons, List.take_succ_cons, List.flatMap_cons, Nat.succ_mul, Nat.add_comm, ← hf a, List.take_length_add_append, hf a, take_flat hf l n]
end Go.Pv.T
namespace Go.Pv
open Go
/-- Known answers: function, what it is handed, what it hands back. -/
abbrev Tbl := List (FuncId × List V × V)
def look : Tbl → FuncId → List V → Option V
  | [], _, _ => none
  | e :: t, f, a => cond (Nat.beq e.1 f && V.eqbs e.2.1 a) (some e.2.2) (look t f a)
/-- As callers, but for what is known. -/
def callersM (E : Env) (T : Tbl) : Nat → Y → Callers
  | 0, y => { d := fun f a => look T f a, o := fun _ _ _ _ _ _ => none, s := fun _ _ _ _ _ _ _ => none, y := y }
  | n + 1, y => {
    d := fun f args => match look T f args with
      | some r => some r
      | none => dOr E f args fun af => one1 (endV af.res) (codeL E (callersM E T n) noY n af.body (start args))
    o := fun f args ob _ base ub => if E.fz f then (args.mapM (frzTop ob)).bind fun args' => ((callersM E T n noY).d f args').bind fun r => if r.freeR then some r else none else
      (E.fs f).bind fun af => one1 (endV af.res) (codeL E (callersM E T n) noY n af.body (startS args ob (fun _ => false) ub base ub))
    s := fun f args ob tk ro base ub => if E.tw f then (args.mapM (frzTop ob)).bind fun args' => ((callersM E T n noY).d f args').bind fun r => (thawR ob tk ub r).map fun x => [x] else match E.srt f with
      | some m => (sortA m ob tk ro ub args).map fun x => [x]
      | none => (E.fs f).bind fun af => (codeL E (callersM E T n) y n af.body (startS args ob tk ro base ub)).bind fun l => if E.mn f then l.mapM (endS af.res) else match l with
        | [x] => (endS af.res x).map fun r => [r]
        | _ => none
    y := y }
def EvT (E : Env) (T : Tbl) : Prop := ∀ e ∈ T, Ev E e.1 e.2.1 e.2.2
theorem noY_le (y : Y) : YLe noY y := fun _ _ _ _ _ _ _ _ h => by cases h
theorem look_le {E : Env} {T : Tbl} (h : EvT E T) : ∃ N, ∀ f a, le (look T f a) ((callers E N noY).d f a) := by
  induction T with
  | nil => exact ⟨0, fun _ _ _ h => by cases h⟩
  | cons e t ih =>
    obtain ⟨N, hN⟩ := ih fun x hx => h x (List.mem_cons_of_mem _ hx)
    obtain ⟨k, hk⟩ := h e List.mem_cons_self
    refine ⟨max N k, fun f a r hr => ?_⟩
    simp only [look] at hr
    cases hc : (Nat.beq e.1 f && V.eqbs e.2.1 a) with
    | true =>
      rw [hc] at hr
      rw [Bool.and_eq_true] at hc
      cases hr
      have e1 := Nat.eq_of_beq_eq_true hc.1
      have e2 := eqbs_sound _ _ hc.2
      rw [← e1, ← e2]
      exact (callers_mono k (max N k) (by omega) _ _ (YLe.refl _)).d _ _ _ hk
    | false =>
      rw [hc] at hr
      exact (callers_mono N (max N k) (by omega) _ _ (YLe.refl _)).d _ _ _ (hN f a r hr)
theorem callersM_le {E : Env} {T : Tbl} {N : Nat} (h : ∀ f a, le (look T f a) ((callers E N noY).d f a)) : ∀ n, FLe (callersM E T n) (callers E (N + n))
  | 0 => fun y y' hy => ⟨fun f a r hr => (callers_mono N N (by omega) _ _ (noY_le y')).d f a r (h f a r hr), fun _ _ _ _ _ _ _ h => (by cases h), fun _ _ _ _ _ _ _ _ h => (by cases h), (by cases N <;> exact hy)⟩
  | n + 1 => by
    intro y y' hy
    have hi := callersM_le h n
    have hc := codeL_mono (E := E) hi (show n ≤ N + n by omega)
    have hl : ∀ f a, le (look T f a) ((callers E (N + (n + 1)) y').d f a) := fun f a r hr => (callers_mono N (N + (n + 1)) (by omega) _ _ (noY_le y')).d f a r (h f a r hr)
    refine ⟨fun f a r hr => ?_, fun f a ob tk b u => ?_, fun f a ob tk ro b u => ?_, hy⟩
    · cases hk : look T f a with
      | some r' =>
        simp only [callersM, hk] at hr
        exact hl f a r (hk.trans hr)
      | none =>
        simp only [callersM, hk] at hr
        exact (dOr_mono fun af => one1_mono (hc _ _ _ (YLe.refl _) _)) r hr
    · show le _ _
      simp only [callersM, callers]
      by_cases hz : E.fz f
      · simp only [hz, if_true]
        refine (le.rfl' _).bind fun a' => ?_
        exact ((hi _ _ (YLe.refl _)).d f a').bind fun r => le.rfl' _
      · simp only [hz, Bool.false_eq_true, if_false]
        exact (le.rfl' (E.fs f)).bind fun af => one1_mono (hc _ _ _ (YLe.refl _) _)
    · simp only [callersM, callers]
      by_cases hz : E.tw f
      · simp only [hz, if_true]
        refine (le.rfl' _).bind fun a' => ?_
        exact ((hi _ _ (YLe.refl _)).d f a').bind fun r => le.rfl' _
      simp only [hz, Bool.false_eq_true, if_false]
      cases hs : E.srt f with
      | some m => exact le.rfl' _
      | none =>
      exact (le.rfl' (E.fs f)).bind fun af => (hc _ _ _ hy _).bind fun l => le.rfl' _
/-- One answer more is known. -/
theorem EvT.more {E : Env} {T : Tbl} (h : EvT E T) {f : FuncId} {a : List V} {r : V} (n : Nat) (k : (callersM E T n noY).d f a = some r) : EvT E ((f, a, r) :: T) := by
  obtain ⟨N, hN⟩ := look_le h
  intro e he
  rcases List.mem_cons.1 he with rfl | he
  · exact ⟨N + n, (callersM_le hN n _ _ (YLe.refl _)).d _ _ _ k⟩
  · exact h e he
theorem EvT.nil {E : Env} : EvT E [] := fun _ h => by cases h
theorem EvT.head {E : Env} {T : Tbl} {f : FuncId} {a : List V} {r : V} (h : EvT E ((f, a, r) :: T)) : Ev E f a r := h _ List.mem_cons_self
end Go.Pv
namespace Go.Pv.T
open Go Go.Pv
def pn36v4 : V := .sl none false 2 [(.str [115]), (.str [116])]
def pn36v3 : V := .sl none false 1 [(.bool true), (.int .i64 0), (.int .i64 1), (.int .i64 1)]
def pn36v2 : V := .sl none false 1 [(.bool false), (.int .i64 0), (.int .i64 1), (.int .i64 1)]
def pn36v0 : V := .agg [pn36v4, (.sl none false 1 [(.str [120])]), (.sl none false 2 [(.int .i64 0), (.int .i64 3), pn36v3, (.int .i64 1), (.int .i64 1), pn36v2])]
def pn36v1 : V := .agg [pn36v4, (.sl none false 1 [(.str [120])]), (.sl none false 2 [(.int .i64 0), (.int .i64 1), pn36v3, (.int .i64 1), (.int .i64 1), pn36v2])]
def pn36v5 : V := .sl none false 2 [(.int .i64 0), (.int .i64 1)]
def pn36t0 : Tbl := []
theorem pn36k0 : EvT E pn36t0 := EvT.nil
-- deemster/line.Runes: 208
def pn36t1 : Tbl := (59, [(.str [119, 114, 105, 116, 101, 32, 115, 32, 120, 32, 49])], (.tup [(.int .i64 11), (.bool true)])) :: pn36t0
theorem pn36k1 : EvT E pn36t1 := pn36k0.more 300 (by kernel_rfl)
-- deemster/log.Parse: 7359
def pn36t2 : Tbl := (29, [(.str [98, 101, 103, 105, 110, 32, 115, 10, 119, 114, 105, 116, 101, 32, 115, 32, 120, 32, 49, 10, 105, 110, 102, 111, 32, 115, 10, 98, 101, 103, 105, 110, 32, 116, 10, 114, 101, 97, 100, 32, 116, 32, 120, 32, 49, 10, 111, 107, 32, 116])], (.tup [(.sl (some (0, 6)) false 6 [(.int .i64 1), (.str [115]), (.str []), (.int .i64 0), (.int .i64 0), (.int .i64 1), (.int .i64 3), (.str [115]), (.str [120]), (.int .i64 1), (.int .i64 1), (.int .i64 2), (.int .i64 6), (.str [115]), (.str []), (.int .i64 0), (.int .i64 0), (.int .i64 3), (.int .i64 1), (.str [116]), (.str []), (.int .i64 0), (.int .i64 0), (.int .i64 4), (.int .i64 2), (.str [116]), (.str [120]), (.int .i64 1), (.int .i64 1), (.int .i64 5), (.int .i64 4), (.str [116]), (.str []), (.int .i64 0), (.int .i64 0), (.int .i64 6)]), (.int .i64 0), (.int .i64 0)])) :: pn36t1
theorem pn36k2 : EvT E pn36t2 := pn36k1.more 300 (by kernel_rfl)
-- deemster/table.Is: 367
def pn36t3 : Tbl := (32, [pn36v4], (.bool true)) :: pn36t2
theorem pn36k3 : EvT E pn36t3 := pn36k2.more 300 (by kernel_rfl)
-- deemster/pair.History: 3655
def pn36t4 : Tbl := (30, [(.sl none false 6 [(.int .i64 1), (.str [115]), (.str []), (.int .i64 0), (.int .i64 0), (.int .i64 1), (.int .i64 3), (.str [115]), (.str [120]), (.int .i64 1), (.int .i64 1), (.int .i64 2), (.int .i64 6), (.str [115]), (.str []), (.int .i64 0), (.int .i64 0), (.int .i64 3), (.int .i64 1), (.str [116]), (.str []), (.int .i64 0), (.int .i64 0), (.int .i64 4), (.int .i64 2), (.str [116]), (.str [120]), (.int .i64 1), (.int .i64 1), (.int .i64 5), (.int .i64 4), (.str [116]), (.str []), (.int .i64 0), (.int .i64 0), (.int .i64 6)])], (.tup [(.agg [(.sl (some (0, 1)) false 2 [(.str [115]), (.str [116])]), (.sl (some (1, 1)) false 1 [(.str [120])]), (.sl (some (2, 3)) false 2 [(.int .i64 0), (.int .i64 3), pn36v3, (.int .i64 1), (.int .i64 1), pn36v2])]), (.int .i64 0), (.int .i64 0)])) :: pn36t3
theorem pn36k4 : EvT E pn36t4 := pn36k3.more 300 (by kernel_rfl)
-- deemster/hist.May: 700
def pn36t5 : Tbl := (10, [pn36v0], (.int .i64 0)) :: pn36t4
theorem pn36k5 : EvT E pn36t5 := pn36k4.more 300 (by kernel_rfl)
-- deemster/writer.Of: 401
def pn36t6 : Tbl := (204, [pn36v0, (.agg [(.int .i64 1), (.int .i64 0)])], (.sl (some (0, 1)) false 1 [(.int .i64 0)])) :: pn36t5
theorem pn36k6 : EvT E pn36t6 := pn36k5.more 300 (by kernel_rfl)
-- deemster/world.May: 201
def pn36t7 : Tbl := (103, [pn36v0, (.agg [(.sl none false 1 [(.bool false)]), (.sl none true 0 [])])], (.bool true)) :: pn36t6
theorem pn36k7 : EvT E pn36t7 := pn36k6.more 300 (by kernel_rfl)
-- deemster/world.May: 201
def pn36t8 : Tbl := (103, [pn36v0, (.agg [(.sl none false 1 [(.bool true)]), (.sl none true 0 [])])], (.bool true)) :: pn36t7
theorem pn36k8 : EvT E pn36t8 := pn36k7.more 300 (by kernel_rfl)
-- deemster/hist.May: 700
def pn36t9 : Tbl := (10, [pn36v1], (.int .i64 0)) :: pn36t8
theorem pn36k9 : EvT E pn36t9 := pn36k8.more 300 (by kernel_rfl)
-- deemster/whole.Committed: 220
def pn36t10 : Tbl := (169, [pn36v1], (.sl (some (0, 1)) false 2 [(.int .i64 0), (.int .i64 1)])) :: pn36t9
theorem pn36k10 : EvT E pn36t10 := pn36k9.more 300 (by kernel_rfl)
-- deemster/wr.Reads: 214
def pn36t11 : Tbl := (206, [pn36v1], (.sl (some (0, 2)) false 1 [(.int .i64 1), (.int .i64 0)])) :: pn36t10
theorem pn36k11 : EvT E pn36t11 := pn36k10.more 300 (by kernel_rfl)
-- deemster/writer.Of: 401
def pn36t12 : Tbl := (204, [pn36v1, (.agg [(.int .i64 1), (.int .i64 0)])], (.sl (some (0, 1)) false 1 [(.int .i64 0)])) :: pn36t11
theorem pn36k12 : EvT E pn36t12 := pn36k11.more 300 (by kernel_rfl)
-- deemster/satur.Order: 3463
def pn36t13 : Tbl := (175, [(.int .i64 1), pn36v1, (.sl none false 1 [(.int .i64 0)])], (.tup [pn36v5, (.int .i64 0)])) :: pn36t12
theorem pn36k13 : EvT E pn36t13 := pn36k12.more 300 (by kernel_rfl)
-- deemster/search.All: 9575
def pn36t14 : Tbl := (31, [(.int .i64 1), pn36v0, (.int .i64 100)], (.tup [(.agg [(.bool true), (.bool true), (.sl (some (2, 1)) false 1 [(.bool true)]), (.sl none true 0 []), (.sl (some (4, 1)) false 1 [(.bool false)]), (.sl none true 0 []), (.sl (some (6, 1)) false 1 [(.int .i64 0)]), pn36v5, (.sl (some (8, 1)) false 1 [(.bool true)]), (.sl (some (9, 1)) false 1 [(.bool false)])]), (.int .i64 2), (.int .i64 0)])) :: pn36t13
theorem pn36k14 : EvT E pn36t14 := pn36k13.more 300 (by kernel_rfl)
-- works: 0
def pn36t15 : Tbl := (8, [], (.bool true)) :: pn36t14
theorem pn36k15 : EvT E pn36t15 := pn36k14.more 300 (by kernel_rfl)
end Go.Pv.T
