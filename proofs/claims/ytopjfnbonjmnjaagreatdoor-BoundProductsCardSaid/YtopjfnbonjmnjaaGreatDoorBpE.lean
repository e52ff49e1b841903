/- A slice of ints that comes in. -/
import Derived.Test.YtopjfnbonjmnjaaGreatDoorBpD
import Derived.Handed
import Derived.Test.YtopjfnbonjmnjaaGreatDoorCards
import Derived.SevenTiedAt
namespace Go.Pv.T
open Go Go.Pv Go.Proofs Go.ChangeShapes Go.WideShapes Go.ChangeAt Go.RowKit Go.Proofs.YtopjfnbonjmnjaaGreatDoor

theorem cells3 : Tryz.prog.cellsOf 3 = 1 := by kernel_rfl
theorem bytes3 : Tryz.prog.bytesOf 3 = 8 := by kernel_rfl

set_option maxRecDepth 100000 in
/-- A slice of ints that comes in, as the interpreter has it. -/
theorem ints_rep {H : Type} {enc : TypeId × Value → H} {W : World} {v : Value} {d : DataW H} {p : List MemPlace} {base : Nat} (hval : Value.okWide Tryz.prog W .any base 32 v)
    (h : DataW.Trod enc Tryz.prog W 0 (fun _ => true) true 32 v d p) (hw : (d.weights Tryz.prog 32).all (· ≤ reachBytes) = true) : ∃ b l, l.length ≤ 17592186044415 ∧ RepP (cellsI W) v (slI b l) := by
  obtain ⟨a0, len, cap, rfl⟩ := okWide_slice Tryz.underlying32 hval
  obtain ⟨fuel, hf⟩ := h
  rcases open_ints Tryz.underlying32 Tryz.underlying3 cells3 hf with ⟨hcs, hx⟩ | ⟨a, len', cap', zs, hcs, _, hl, hm, hz, hx, hcell, hwz⟩
  · simp [Value.cells] at hcs
    obtain ⟨rfl, rfl, rfl⟩ := hcs
    exact ⟨true, [], by simp, RepP.slnil⟩
  · simp [Value.cells] at hcs
    obtain ⟨rfl, rfl, rfl⟩ := hcs
    simp only [Prod.mk.injEq] at hx
    obtain ⟨rfl, rfl⟩ := hx
    simp only [if_true] at hz
    have hlen : (zs.take len).length = len := by rw [List.length_take]; omega
    refine ⟨false, zs.take len, ?_, ?_⟩
    · simp only [DataW.weights, Tryz.underlying32, bytes3, lits, List.length_map, List.length_drop] at hw
      have h8 := of_decide_eq_true (List.all_eq_true.1 hw _ (List.mem_cons_self ..))
      have hR : reachBytes = 140737488351232 := rfl
      rw [hR] at h8
      omega
    · rw [show slI false (zs.take len) = .sl none false len (ints (zs.take len)) from by rw [slI, hlen]]
      refine RepP.sl a len cap _ (fun j => .int .i64 (zs.getD j 0)) (fun hne => ?_) hl hm (fun j hj => ?_) (fun j v hj => ?_) (fun j v hj => ?_)
      · have h0 : 0 < zs.length := by
          rcases Nat.eq_zero_or_pos zs.length with h | h
          · exact absurd (by rw [List.length_eq_zero_iff.1 h]; simp [ints]) hne
          · exact h
        simpa [Addr.add] using World.cell?_spot (hcell 0 h0)
      · rw [ints_length, hlen] at hj
        have h1 := hcell j (by omega)
        have hs : a.spot = none := by simpa [Addr.add] using World.cell?_spot (hcell 0 (by omega))
        obtain ⟨b, off, spot⟩ := a
        simp only at hs
        subst hs
        rw [add_plain] at h1
        exact h1
      · exact List.all_eq_true.1 (ints_pure _) v (List.mem_of_getElem? hj)
      · rw [ints_get, List.getElem?_take] at hj
        split at hj
        · cases hzj : zs[j]? with
          | none => rw [hzj] at hj; cases hj
          | some z =>
            rw [hzj] at hj
            cases hj
            rw [List.getD_eq_getElem?_getD, hzj]
            exact RepP.int .i64 z
        · cases hj

end Go.Pv.T

/- The row of BoundProducts. -/
namespace Go.Pv.T
open Go Go.Pv Go.Proofs Go.ChangeShapes Go.WideShapes Go.ChangeAt Go.RowKit Go.Proofs.YtopjfnbonjmnjaaGreatDoor

/-- What the call of a law answers, out of the interpreter's word. -/
theorem calls_true {f : FuncId} {W : World} {args : Array Value} {vs : List V} (hL : laidMetH Tryz.prog laidL W) (hlen : args.size = vs.length) (hr : ∀ (j : Nat) (x : Value) (v : V), args[j]? = some x → vs[j]? = some v → RepP (cellsI W) x v)
    (he : Ev E f vs (.bool true)) : Calls Tryz.prog f args W fun e w' => e = .returned (.bool true) ∧ W.grownBy w' none := by
  refine (Ev.sound mixed envOk he W (cellsI W) args (cellsI_ok W) (glOk hL) hlen hr).mono fun e w' ⟨x, τ, I', h1, h2, _, _, _, h3, _⟩ => ⟨?_, h2⟩
  rw [h1]
  have h4 : RepP I' x (.bool true) := h3
  cases h4
  rfl

set_option maxRecDepth 100000 in
theorem lifted4 (os : Os) (started : os.Started) (H : Type) (enc : TypeId × Value → H) :
    ReturnsInHanded {} Tryz.checked os 4 .any (fun w args => (Rows.boundProductsSpec.pre enc Tryz.prog Tryz.f4 [] false w args ∧ laidMetH Tryz.prog laidL w) ∧ sizedMet enc Tryz.prog Tryz.f4 (OpenSpec.ofChange Rows.boundProductsSpec) false w args)
      (Rows.boundProductsSpec.post enc Tryz.prog Tryz.f4 false true false false) := by
  refine returnsInHanded_of_change_and (C := Tryz.checked) (X := fun w _ => laidMetH Tryz.prog laidL w) (fun _ _ _ hh h => h.of_heap hh) own started (by kernel_rfl) Tryz.func4
    (ChangeSpec.witness_shaped (enc := enc) (C := Tryz.checked) (os := os) (X := fun w _ => laidMetH Tryz.prog laidL w) false (laidWorld os) #[.slice none 0 0] 8 rfl (World.shaped_of_RefB (by kernel_rfl) (by kernel_rfl)) (by kernel_rfl) (by kernel_rfl) (by kernel_rfl) (door_met os _)) ?_
  intro W base args ds gs before hval0 hW _ hwt hL _
  have hval : ∀ (j : Nat) t v, Tryz.f4.params[j]? = some t → args[j]? = some v → Value.okWide Tryz.prog W .any base t v := hval0
  have hW' := hW
  obtain ⟨p, q, hA0, hV, rfl, hfz, hnd⟩ := hW
  have hA : DataW.TrodAll enc Tryz.prog W 0 (fun _ => true) true Tryz.f4.params.toList args.toList ds p := hA0
  rw [Tryz.params4] at hA hval
  obtain ⟨v0, d0, rfl, rfl, h0⟩ := trodAll_one hA
  obtain ⟨rfl, rfl⟩ := trodVars_none hV
  have hw0 : (d0.weights Tryz.prog 32).all (· ≤ reachBytes) = true := by
    have : (DataW.weightsEach Tryz.prog (Tryz.f4.params.toList ++ Rows.boundProductsSpec.plain.varTypes Tryz.prog) ([d0] ++ [])).all (· ≤ reachBytes) = true := hwt
    simp only [Tryz.params4] at this
    simpa [DataW.weightsEach] using this
  obtain ⟨b, l, hl, hrep⟩ := ints_rep (hval 0 32 v0 rfl rfl) h0 hw0
  refine (calls_true hL (vs := [slI b l]) rfl (fun j x v hx hv => ?_) (ev4 b l hl)).mono fun e W' ⟨he, hg⟩ => ⟨_, he, ?_⟩
  · match j, hx, hv with
    | 0, hx, hv => cases hx; cases hv; exact hrep
    | j + 1, _, hv => simp at hv
  · exact post_true hW' rfl (by kernel_rfl) rfl rfl rfl (by rw [Tryz.params4]; intro t ht; obtain rfl := List.mem_singleton.1 ht; exact ⟨by kernel_rfl, of_decide_eq_true (by kernel_rfl)⟩) hg

theorem boundProducts_holds : Rows.BoundProductsSaid :=
  OpenClaim.holds_of_wide 4 Tryz.f4 rfl rfl rfl rfl rfl rfl rfl ⟨rfl, rfl, rfl, rfl, rfl⟩ rfl rfl rfl rfl rfl (by kernel_rfl) Tryz.func4 (by kernel_rfl)
    (of_decide_eq_true (by kernel_rfl)) (by unfold Func.isWrapper; first | (rw [if_pos (by decide +kernel)]; kernel_rfl) | (rw [if_neg (by decide +kernel)]; exact ⟨rfl, rfl⟩))
    (fun os started H enc _ => lifted4 os started H enc)
end Go.Pv.T

/- The tied card of deemsterlaw41.BoundProducts: whatever slice of ints comes in, the call returns true and the slice reads as it did; condition: the listed package variables start as the program lays them (the card ties them). -/
namespace Go.Pv.T
open Go Go.Pv Go.Proofs Go.Proofs.YtopjfnbonjmnjaaGreatDoor

theorem stands (ts : List TypeId) (h : (ts.all fun u => !Tryz.prog.wantsStandIn u) = true) {t : TypeId} (ht : t ∈ ts) : Tryz.prog.wantsStandIn t = false := by
  simpa using List.all_eq_true.1 h t ht

theorem boundProducts_card_holds : Rows.BoundProductsCardSaid :=
  Claim7.holds_tied_plain_at .later [] [.data, .data, .pinned] true (true, "1de7925f41e92f3b985b91f6151c619ab6f5f33192a818afc04002d78f2b0e76") true
    boundProducts_holds (fun _ h => by cases h) (by kernel_rfl) (fun _ h => by cases h) boundProducts_row_tie rfl ⟨rfl, rfl⟩ (by kernel_rfl) rfl
    (fun f fn hf hfn => by
      obtain rfl : f = 4 := Option.some.inj ((show Tryz.prog.funcNamed "deemster/deemsterlaw41.BoundProducts" = some 4 by kernel_rfl).symm.trans hf) |>.symm
      obtain rfl : fn = Tryz.f4 := (Option.some.inj (Tryz.func4.symm.trans hfn)).symm
      exact ⟨by kernel_rfl, fun j t ht => by
        rw [Tryz.params4] at ht
        have hm : t ∈ [32] := by simpa using Array.mem_of_getElem? ht
        exact stands [32] (by kernel_rfl) hm⟩)
    (by kernel_rfl)
end Go.Pv.T
namespace Go.Proofs.YtopjfnbonjmnjaaGreatDoor
open Go
/-- The statement. -/
theorem boundProducts_proved : Rows.BoundProductsCardSaid := Go.Pv.T.boundProducts_card_holds
end Go.Proofs.YtopjfnbonjmnjaaGreatDoor
