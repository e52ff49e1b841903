/- Part of the proof. -/
import Derived.Test.YtbkdnpdfojjfnaaGreatDoorFAG
import Derived.Test.YtbkdnpdfojjfnaaGreatDoorFAI
import Derived.Test.YtbkdnpdfojjfnaaGreatDoorFAN
import Derived.WalkKit
import Derived.Test.YtbkdnpdfojjfnaaGreatDoorRows
set_option maxRecDepth 100000
set_option maxHeartbeats 8000000
set_option linter.all false
namespace Go.Pv.T
open Go Go.Pv
section
variable {E : Env} {st : St} {ub : Nat} {K : List FP → St → Prop} {d : Option Nat} {nm : Bool} {r : List AOpr}
theorem kD_app0 {sz bytes n : Nat} {t : Option (Nat × Nat)} {cs : List V} {s x : A} (hs : eval E st.tm s = .sl t false n cs) (hx : slCells st.ob sz (eval E st.tm x) = some []) (hl : cs.length = n * sz)
    (h : kDApp E r K (eval E st.tm) (.append false sz bytes s x) st d ub { v := .sl t false n cs }) : wpDraw E (⟨d, .append false sz bytes s x, none, nm⟩ :: r) st ub K := by
  rw [wpDraw_of rfl]
  simp only [aop, hs, hx, Option.bind_some, if_true]
  rw [if_pos hl, wpD_one]
  exact h
theorem kD_appT {sz bytes u n : Nat} {cs ys : List V} {s x : A} (hs : eval E st.tm s = .sl (some (u, sz)) false n cs) (htk : st.tk u = true) (hx : slCells st.ob sz (eval E st.tm x) = some ys) (hne : ys ≠ []) (hlen : cs.length = n * sz) (h0 : 0 < sz)
    (hp : ys.all V.pureLeaf = true) (hb : (n + ys.length / sz) * bytes ≤ 140737488355328) (hb2 : n + ys.length / sz ≤ 140737488355328) (h : kDApp E r K (eval E st.tm) (.append false sz bytes s x) st d ub { v := .sl (some (ub, sz)) false (n + ys.length / sz) (cs ++ ys), del := some u, add := [ub] }) :
    wpDraw E (⟨d, .append false sz bytes s x, none, nm⟩ :: r) st ub K := by
  rw [wpDraw_of rfl]
  simp only [aop, hs, hx, Option.bind_some, if_neg hne, Bool.false_and, Bool.false_eq_true, if_false]
  rw [if_pos ⟨hlen, h0, hp, hb, hb2⟩, if_pos (by simp [htk]), wpD_some]
  exact h
theorem kD_append_allT {α : Type} {f : α → List V} {sz bytes u : Nat} {l : List α} {s x : A} (hs : eval E st.tm s = .sl (some (u, sz)) false 0 []) (hu : st.tk u = true) (hx : slCells st.ob sz (eval E st.tm x) = some (l.flatMap f)) (hf : ∀ a, (f a).length = sz) (h0 : 0 < sz)
    (hp : (l.flatMap f).all V.pureLeaf = true) (hb : l.length * bytes ≤ 140737488355328) (hb2 : l.length ≤ 140737488355328)
    (h : ∀ b : Bool, kDApp E r K (eval E st.tm) (.append false sz bytes s x) st d ub { v := .sl (some (if b then u else ub, sz)) false l.length (l.flatMap f), del := if b then none else some u, add := if b then [] else [ub] }) : wpDraw E (⟨d, .append false sz bytes s x, none, nm⟩ :: r) st ub K := by
  cases l with
  | nil => exact kD_app0 hs hx (by simp) (h true)
  | cons a l =>
    have h1 : ((a :: l).flatMap f).length / sz = (a :: l).length := by rw [flatMap_len hf]; exact Nat.mul_div_cancel _ h0
    have hne : (a :: l).flatMap f ≠ [] := fun e => by have := congrArg List.length e; rw [flatMap_len hf] at this; have := Nat.mul_pos (show 0 < (a :: l).length by simp) h0; simp_all
    refine kD_appT hs hu hx hne (by simp) h0 hp (by rw [h1, Nat.zero_add]; exact hb) (by rw [h1, Nat.zero_add]; exact hb2) ?_
    rw [h1, Nat.zero_add, List.nil_append]
    exact h false
end
theorem slSl_any {α : Type} {f : α → List V} {k : Nat} (hf : ∀ a, (f a).length = k) (nl : Bool) (l : List α) (n : Nat) (kk : IntKind) : slSlV k none (some (.int kk ((min l.length n : Nat) : Int))) (slOf nl f l) = some (.sl none nl (min l.length n) ((l.take n).flatMap f)) := by
  have h1 := slSl_to (kk := kk) (t := none) (nl := nl) (sz := k) (cs := l.flatMap f) (n := l.length) (k := min l.length n) (Nat.min_le_left _ _) (flatMap_len hf _)
  refine Eq.trans h1 ?_
  rw [take_flat hf]
  congr 2
  rcases Nat.le_total l.length n with h | h
  · rw [Nat.min_eq_left h, List.take_length, List.take_of_length_le h]
  · rw [Nat.min_eq_right h]
theorem retFor {ub : Nat} {v : V} {X : (List Int × List Int) × Int} {K : Delta → Prop} (hv : ForR X v)
    (h : ∀ t1 t2 n1 n2 add, K { v := .tup [.agg [.sl t1 n1 X.1.1.length (X.1.1.flatMap intC), .sl t2 n2 X.1.2.length (X.1.2.flatMap intC)], .int .i64 X.2], add := add }) : wpD (retA ub v) K := by
  obtain ⟨t1, t2, n1, n2, rfl, ht⟩ := hv
  obtain ⟨x, hx⟩ : ∃ x, x = V.sl t1 n1 X.1.1.length (X.1.1.flatMap intC) := ⟨_, rfl⟩
  obtain ⟨y, hy⟩ : ∃ y, y = V.sl t2 n2 X.1.2.length (X.1.2.flatMap intC) := ⟨_, rfl⟩
  have hall : (toksRes (.tup [.agg [x, y], .int .i64 X.2])).all (fun i => Nat.blt i 64) = true := by
    show (List.flatMap V.toks [.agg [x, y], .int .i64 X.2]).all _ = true
    rw [toks2, List.all_eq_true]
    intro i hi
    have : ∃ p ∈ t1.toList ++ t2.toList, p.1 = i := by
      rw [List.mem_append, hx, hy, tokm, tokm] at hi
      rcases hi with ⟨p, hp, h⟩ | ⟨p, hp, h⟩
      · exact ⟨p, by simp [hp], h⟩
      · exact ⟨p, by simp [hp], h⟩
    obtain ⟨p, hp, rfl⟩ := this
    simpa [Nat.blt_eq] using ht p hp
  rw [← hx, ← hy, retA, if_pos hall, wpD_some]
  have e : ∀ (t : Option (Nat × Nat)) nl n cs, ∃ t', inLeaf ub (.sl t nl n cs) = .sl t' nl n cs := fun t nl n cs => by
    cases t with
    | none => exact ⟨none, rfl⟩
    | some p => exact ⟨_, rfl⟩
  obtain ⟨a1, e1⟩ := e t1 n1 X.1.1.length (X.1.1.flatMap intC)
  obtain ⟨a2, e2⟩ := e t2 n2 X.1.2.length (X.1.2.flatMap intC)
  have := h a1 a2 n1 n2 ((toksRes (.tup [.agg [x, y], .int .i64 X.2])).map (ub + ·))
  have q2 : ∀ e, inTop ub (.int .i64 e) = .int .i64 e := fun _ => rfl
  have q3 : inRes ub (.tup [.agg [x, y], .int .i64 X.2]) = .tup [.agg [.sl a1 n1 X.1.1.length (X.1.1.flatMap intC), .sl a2 n2 X.1.2.length (X.1.2.flatMap intC)], .int .i64 X.2] := by
    simp only [inRes, List.map_cons, List.map_nil, q2]
    simp only [inTop, List.map_cons, List.map_nil, hx, hy, e1, e2]
  rw [q3]
  exact this
theorem ev3 (h : Hist') (sat n2 n3 : Bool) (l2 l3 : List Bool) : Ev E 3 [.agg (histC h), .bool sat, slOf n2 blC l2, slOf n3 blC l3] (.bool true) := by
  have e8 := pn36k15.head
  obtain ⟨r, ev, hr⟩ := ev4 h
  obtain ⟨r2, ev2, hr2⟩ := ev4 (fewH h)
  rw [fewH_few] at hr2
  have hs := small_few h
  have hin : (infosH (fewH h)).length ≤ 1000 := by
    have := numsTo_len isInfo (fewH h).ts (fewH h).ts.length
    have := hs.ts
    unfold infosH
    omega
  generalize fewH h = g at *
  have hm2 := min_len l2.length 50
  have hm3 := min_len l3.length 50
  rw [show ((50 : Nat) : Int) = 50 from rfl] at hm2 hm3
  have hs2 := slSl_any blC_len n2 l2 50 .i64
  have hs3 := slSl_any blC_len n3 l3 50 .i64
  obtain ⟨C, hC⟩ : ∃ C, l2.take 50 = C := ⟨_, rfl⟩
  obtain ⟨D, hD⟩ : ∃ D, l3.take 50 = D := ⟨_, rfl⟩
  have hCl : min l2.length 50 = C.length := by rw [← hC, List.length_take, Nat.min_comm]
  have hDl : min l3.length 50 = D.length := by rw [← hD, List.length_take, Nat.min_comm]
  rw [hC, hCl] at hs2
  rw [hD, hDl] at hs3
  rw [hCl] at hm2
  rw [hDl] at hm3
  have hC5 : C.length ≤ 50 := by omega
  have hD5 : D.length ≤ 50 := by omega
  obtain ⟨v5, e5, hv5⟩ := ev5 hs sat false false C D hin
  obtain ⟨v6, e6, hv6⟩ := ev6 hs sat false false C D hin
  have e7 : ∀ (a b : Bool) (l : List Int), l.length ≤ 1000 → Ev E 7 [slOf a intC l, slOf b intC l] (.bool true) := fun a b l hl => by
    have := ev7 (a := a) (b := b) l l (by omega) (by omega)
    rwa [beq_self_eq_true] at this
  have hX1 : (forE g sat C D).1.1.length ≤ 1000 := by
    have := pickTo_len (infosH g) D (infosH g).length
    unfold forE
    split
    · simp
    · split <;> simp <;> omega
  have hX2 : (forE g sat C D).1.2.length ≤ 1000 := by
    have := pickTo_len (infosH g) C (infosH g).length
    unfold forE
    split
    · simp
    · split <;> simp <;> omega
  have hbC : (C.flatMap blC).all V.pureLeaf = true := by
    rw [List.all_eq_true]
    intro y hy
    obtain ⟨a, _, ha⟩ := List.mem_flatMap.1 hy
    simp [blC] at ha
    rw [ha]; rfl
  have hbD : (D.flatMap blC).all V.pureLeaf = true := by
    rw [List.all_eq_true]
    intro y hy
    obtain ⟨a, _, ha⟩ := List.mem_flatMap.1 hy
    simp [blC] at ha
    rw [ha]; rfl
  generalize forE g sat C D = X at *
  refine Ev_wpK (af := F3) rfl ?_
  simp [F3, histC, objCells]
  refine kS_ev ev (by simp [histC]) rfl (by simp [histC]) ?_
  refine retHist hr fun a1 b1 c1 add1 => ?_
  simp [splice, objCells, hm2, hs2, hm3, hs3]
  refine kD_buildSl (cs := []) rfl rfl rfl ?_
  simp [hm2, hs2]
  refine kD_append_allT (f := blC) (l := C) (u := 320) (by simp) (by simp [app_tk]) (by simp [slCells, -List.length_flatMap, flatMap_len blC_len]) blC_len (by decide) hbC (by omega) (by omega) fun q1 => ?_
  simp
  refine kD_buildSl (cs := []) rfl rfl rfl ?_
  simp [hm3, hs3]
  refine kD_append_allT (f := blC) (l := D) (u := 768) (by simp) (by simp [app_tk]) (by simp [slCells, -List.length_flatMap, flatMap_len blC_len]) blC_len (by decide) hbD (by omega) (by omega) fun q2 => ?_
  simp
  refine ⟨by cases q1 <;> simp [drawOk, indep, disj, fpOf, rdOb, rdTk, lOf, uOf, Delta.wo, Delta.wt] <;> decide, ?_⟩
  simp [objCells]
  refine kS_ev ev2 (by simp [histC, slOf]) rfl (by simp [histC]) ?_
  refine retHist hr2 fun a2 b2 c2 add2 => ?_
  simp
  refine kS_buildSl (cs := []) rfl rfl rfl ?_
  simp
  refine kS_append_allT (f := blC) (l := C) (u := 1536) (by simp) (by simp [app_tk]) (by simp [slCells, -List.length_flatMap, flatMap_len blC_len]) blC_len (by decide) hbC (by omega) (by omega) fun t3 del3 add3 _ _ => ?_
  simp
  refine kS_buildSl (cs := []) rfl rfl rfl ?_
  simp
  refine kS_append_allT (f := blC) (l := D) (u := 1728) (by simp) (by simp [app_tk]) (by simp [slCells, -List.length_flatMap, flatMap_len blC_len]) blC_len (by decide) hbD (by omega) (by omega) fun t4 del4 add4 _ _ => ?_
  simp [splice]
  refine kS_ev e5 (by simp [histC, slOf, fndC]) rfl (by simp [histC, slOf, fndC]) ?_
  refine retFor hv5 fun t5 s5 n5 m5 add5 => ?_
  simp [objCells, splice]
  refine kS_ev e6 (by simp [histC, slOf, fndC]) rfl (by simp [histC, slOf, fndC]) ?_
  refine retFor hv6 fun t6 s6 n6 m6 add6 => ?_
  simp [objCells, splice]
  refine kS_ev (e7 n5 n6 X.1.1 hX1) (by simp [slOf]) rfl (by simp [slOf]) ?_
  simp [objCells]
  refine kS_ev (e7 m5 m6 X.1.2 hX2) (by simp [slOf]) rfl (by simp [slOf]) ?_
  simp
  refine kS_ev e8 rfl rfl rfl ?_
  simp
  exact endV_1 rfl (by simp) rfl
end Go.Pv.T
namespace Go.Pv.T
open Go Go.Pv Go.Proofs
theorem new_any (p : Option Addr) (cap : Nat) (w : World) : Calls Tryz.prog 212 #[.slice p 0 cap] w fun e w' => e = .returned (.pointer (some ⟨w.heap.size, 0, none⟩)) ∧ ∃ t, w' = w.alloc (.cells #[.int .u64 0, .int .u64 0, .int .u64 0, .int .u64 0, .int .u64 0, .int .u64 0, .int .u64 0, .int .u64 0] t) := by
  go_enter Tryz.func212, Tryz.ntmps212
  go_wp2
  refine wp_loop_rounds 1 ?_
  rw [rounds_succ]
  go_wp2
  go_ret
  exact ⟨rfl, _, rfl⟩
theorem mkLaw : MkLaw Tryz.prog 212 setZ := by
  refine ⟨⟨_, _, Tryz.func212, rfl, by kernel_rfl⟩, fun p cap w => (new_any p cap w).mono ?_⟩
  rintro e w' ⟨rfl, t, rfl⟩
  refine ⟨rfl, _, t, rfl, rfl, fun j x v hx hv => ?_⟩
  match j with
  | 0 | 1 | 2 | 3 | 4 | 5 | 6 | 7 =>
    simp [setZ] at hx hv
    subst hx hv
    exact ⟨rfl, fun I => .int _ _⟩
  | j + 8 => simp [setZ] at hv
end Go.Pv.T
