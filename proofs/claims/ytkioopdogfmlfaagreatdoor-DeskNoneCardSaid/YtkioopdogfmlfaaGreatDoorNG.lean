/- Part of the proof. -/
import Derived.Test.YtkioopdogfmlfaaGreatDoorNF
import Derived.RangeFuncLeaves
set_option maxRecDepth 100000
set_option maxHeartbeats 8000000
set_option linter.all false
namespace Go.Pv
open Go
theorem dstOk_mono {n m : Nat} (h : n ≤ m) : ∀ c : C, c.dstOk n = true → c.dstOk m = true := by
  have one : ∀ ops : List AOpr, (ops.all fun o => match o.dst with | some d => Nat.blt d n | none => true) = true → (ops.all fun o => match o.dst with | some d => Nat.blt d m | none => true) = true := by
    intro ops hd
    refine List.all_eq_true.2 fun o ho => ?_
    have := List.all_eq_true.1 hd o ho
    split
    · rename_i d hdd
      simp only [hdd, Nat.blt_eq] at this
      simp only [Nat.blt_eq]
      omega
    · rfl
  intro c
  induction c with
  | region ops => exact one ops
  | draw ops f => exact one ops
  | pin o fs => exact one (o :: fs)
  | seq a b iha ihb => simp only [C.dstOk, Bool.and_eq_true]; exact fun ⟨h1, h2⟩ => ⟨iha h1, ihb h2⟩
  | cond q a b iha ihb => simp only [C.dstOk, Bool.and_eq_true]; exact fun ⟨h1, h2⟩ => ⟨iha h1, ihb h2⟩
  | block i a ih => exact ih
  | loop a ih => exact ih
  | rangeFunc f ps a b iha ihb =>
    simp only [C.dstOk, Bool.and_eq_true]
    rintro ⟨⟨h1, h2⟩, h3⟩
    refine ⟨⟨List.all_eq_true.2 fun p hp => ?_, iha h2⟩, ihb h3⟩
    have := List.all_eq_true.1 h1 p hp
    simp only [Nat.blt_eq] at this ⊢
    omega
  | _ => exact fun _ => rfl
section
variable {P : Program} {E : Env}
theorem init_tm {γ : Nat → Option Place} {I : IMap} {xs : Array Value} {args : List V} {k : Nat} (hs : xs.size = args.length) (h : ∀ (j : Nat) (x : Value) (v : V), xs[j]? = some x → args[j]? = some v → Rep γ I x v) (t : Nat) :
    Rep γ I ((xs ++ Array.replicate k undef).getD t undef) (args.getD t none') := by
  by_cases ht : t < xs.size
  · have h1 : (xs ++ Array.replicate k undef).getD t undef = xs[t] := by
      simp [ht, Array.getElem?_append_left]
    have h2 : args.getD t none' = args[t]'(by omega) := by
      have : t < args.length := by omega
      simp [this]
    rw [h1, h2]
    exact h t _ _ (Array.getElem?_eq_getElem ht) (List.getElem?_eq_getElem (by omega))
  · have h1 : (xs ++ Array.replicate k undef).getD t undef = undef := by
      simp only [Array.getD_eq_getD_getElem?]
      rw [Array.getElem?_append_right (by omega)]
      by_cases hk : t - xs.size < k <;> simp [hk]
    have h2 : args.getD t none' = none' := by
      have : args.length ≤ t := by omega
      simp [this]
    rw [h1, h2]
    exact rep_undef
/-- The marks are come to, one by one. -/
theorem leaves_ok {w0 : World} {I0 I : IMap} {γ : Nat → Option Place} {fn : Func} {tmps : Array Value} {Rp : Ending → World → Prop} {st : St} : ∀ (df : List (Nat × Nat)) (ds : List Deferred) (ob : Nat → Option Obj') (w : World),
    Sh E w0 I0 γ I { st with ob := ob } w → DfOk γ df ds → (∀ x ∈ df, ob x.1 = some ⟨x.2, .dfr⟩ ∧ Nat.ble st.ro x.2 = true) → (df.map (·.1)).Nodup →
    (∀ w', Sh E w0 I0 γ I { st with ob := fun k => if df.any (fun x => Nat.beq x.1 k) then none else ob k } w' → LeavesIn (FW none) 0 P fn tmps Rp [] .returning w') → LeavesInM (FW none) 0 P fn tmps Rp ds .returning w
  | [], [], ob, w, hSh, _, _, _, hK => hK w (hSh.congr (funext fun k => by simp) rfl rfl)
  | x :: df, d :: ds, ob, w, hSh, hdf, hob, hnd, hK => by
    obtain ⟨⟨b, k, rfl, hu⟩, hdf'⟩ := hdf
    obtain ⟨h1, h2⟩ := hob x (List.mem_cons_self ..)
    have hblk : w.heap[b]? = some (.deferred (some [])) := ob_get hSh h1 hu
    have htk := run_takeDeferred (P := P) hblk
    simp only [List.map_cons, List.nodup_cons] at hnd
    have hSh2 := hSh.turn (ob' := fun k => if Nat.beq x.1 k then none else ob k) (o' := .deferred none) h1 hu h2 (fun l2 y hy => by
      split at hy
      · cases hy
      · rename_i hne; exact .inl ⟨fun e => hne (by rw [e]; exact Nat.beq_refl _), hy⟩)
    refine ⟨(fun h => by cases h), .inl ⟨b, _, rfl, htk, ?_⟩⟩
    refine leaves_ok df ds (fun k => if Nat.beq x.1 k then none else ob k) _ (hSh2.congr rfl rfl rfl) hdf' (fun y hy => ?_) hnd.2 (fun w' h => ?_)
    · obtain ⟨q1, q2⟩ := hob y (List.mem_cons_of_mem _ hy)
      refine ⟨?_, q2⟩
      have hne : ¬ Nat.beq x.1 y.1 = true := fun e => hnd.1 (by rw [Nat.eq_of_beq_eq_true e]; exact List.mem_map.2 ⟨y, hy, rfl⟩)
      simp only [hne, Bool.false_eq_true, if_false]
      exact q1
    · refine hK w' (h.congr (funext fun k => ?_) rfl rfl)
      simp only [List.any_cons, Bool.or_eq_true]
      have key : ∀ p q : Bool, (if p = true ∨ q = true then none else ob k) = if q = true then none else if p = true then none else ob k := by
        intro p q
        cases p <;> cases q <;> rfl
      exact key _ _
  | [], _ :: _, _, _, _, h, _, _, _ => h.elim
  | _ :: _, [], _, _, _, h, _, _, _ => h.elim
/-- A function is left: its marks are come to; then its results are read. -/
theorem leave_ok {w0 w : World} {I0 I : IMap} {γ : Nat → Option Place} {nt : Nat} {fn : Func} {st : St} {a : Act} {Rp : Ending → World → Prop} (hR : R E w0 I0 nt γ I st a w) (hd : dfOk st = true)
    (hK : ∀ w', R E w0 I0 nt γ I st.noDf { tmps := a.tmps, defers := [] } w' → ∃ v, (results fn a.tmps).run P w' = .ok v w' ∧ Rp (.returned v) w') : LeavesInM (FW none) 0 P fn a.tmps Rp a.defers .returning w := by
  unfold dfOk at hd
  simp only [Bool.and_eq_true] at hd
  refine leaves_ok (st := st) st.df a.defers st.ob w (hR.sh.congr rfl rfl rfl) hR.df (fun x hx => ?_) (nodup_spec hd.2) (fun w' h => ?_)
  · have := List.all_eq_true.1 hd.1 x hx
    split at this
    · rename_i u hu
      simp only [Bool.and_eq_true] at this
      have e := Nat.eq_of_beq_eq_true this.1
      subst e
      exact ⟨hu, this.2⟩
    · cases this
  · have hn : st.noDf.tm = st.tm ∧ st.noDf.tk = st.tk ∧ st.noDf.ro = st.ro ∧ st.noDf.df = [] ∧ st.noDf.ob = fun k => if st.df.any (fun x => Nat.beq x.1 k) then none else st.ob k := by
      unfold St.noDf
      split
      · rename_i e; exact ⟨rfl, rfl, rfl, e, by rw [e]; funext k; simp⟩
      · exact ⟨rfl, rfl, rfl, rfl, rfl⟩
    exact hK w' ⟨hR.sz, by rw [hn.2.2.2.1]; trivial, by rw [hn.1]; exact hR.tm, h.congr hn.2.2.2.2 hn.2.1 hn.2.2.1⟩
theorem bodyPostM_of {fn : Func} {Rp : Ending → World → Prop} {e : Ex} {a : Act} {w : World} (h : e = .nrm ∨ e = .ret) (hl : LeavesInM (FW none) 0 P fn a.tmps Rp a.defers .returning w) : bodyPostM (FW none) 0 P fn Rp (exOf e) a w := by
  rcases h with rfl | rfl <;> exact hl
theorem mapM_mem {α β : Type} {f : α → Option β} {l : List α} {L : List β} (h : l.mapM f = some L) {z : α} (hz : z ∈ l) : ∃ r ∈ L, f z = some r := by
  obtain ⟨h1, h2⟩ := mapM_some h
  obtain ⟨i, hi, rfl⟩ := List.getElem_of_mem hz
  have hi' : i < L.length := by omega
  exact ⟨L[i], List.getElem_mem hi', h2 i _ _ (List.getElem?_eq_getElem hi) (List.getElem?_eq_getElem hi')⟩
theorem callers_ok (hm : P.follows .mixedOrders = true) (hE : EnvOk P E) : ∀ n, CallersOk P E (callers E n)
  | 0 => fun γ0 Iy y hy => ⟨fun f args r h => (by cases h), fun f args ob tk b u r h => (by cases h), fun f args ob tk ro base ub l h => (by cases h), hy, hE.nw⟩
  | n + 1 => by
    have ih := callers_ok hm hE n
    intro γ0 Iy y hy
    -- the results of a function that shares nothing, and of one that only looks
    have alone : ∀ {fn : Func} {af : AF} {r : V} {w0 w : World} {I0 I : IMap} {γ : Nat → Option Place} {nt : Nat} {st : St} {a : Act} {e : Ex} {Rp : Ending → World → Prop}, fn.results.toList.mapM (compRes P) = some af.res → R E w0 I0 nt γ I st a w → endV af.res (e, st) = some r →
        (∀ x τ I' w', w0.grownBy w' none → (∀ b o x, I b o = some x → I' b o = some x) → ImmOk I' w' → (∀ b o, b < w0.heap.size → I' b o = I0 b o) → RRep τ I' x r → TokNew w0.heap.size τ I' w' r → Rp (.returned x) w') →
        bodyPostM (FW none) 0 P fn Rp (exOf e) a w := by
      intro fn af r w0 w I0 I γ nt st a e Rp hres hR he hK
      have hne : e = .nrm ∨ e = .ret := by cases e <;> first | exact .inl rfl | exact .inr rfl | cases he
      have he' : (if dfOk st then (af.res.mapM (resOf st.noDf)).bind (outRes st.noDf) else none) = some r := by rcases hne with rfl | rfl <;> exact he
      simp only [Option.ite_none_right_eq_some] at he'
      obtain ⟨hd, he'⟩ := he'
      refine bodyPostM_of hne (leave_ok hR hd fun w' hR' => ?_)
      obtain ⟨vs, hvs, hout⟩ := bind_some he'
      obtain ⟨ys, k1, k2, k3⟩ := results_ok hR' hres hvs
      obtain ⟨τ, I2, q1, q2, q3, q4, q5⟩ := out_ok hR' k1 k3 hout
      exact ⟨_, k2, hK _ τ I2 _ hR'.fr q1 q2 (fun b o hb => (q3 b o hb).trans (hR'.old b o hb)) q4 q5⟩
    refine ⟨fun f args r h => ?_, fun f args ob tk base ub r h => ?_, fun f args ob tk ro base ub L h => ?_, hy, hE.nw⟩
    · simp only [callers, dOr] at h
      split at h
      case h_2 => exact hE.kn f args r h
      rename_i af haf
      obtain ⟨m, fn, c, hfn, hb, hcomp, hres, hname, hdst⟩ := hE.fc f af haf
      refine ⟨⟨fn, c, hfn, hb, hname⟩, fun w I xs himm hgl hsz hrep => ?_⟩
      obtain ⟨l, hx, hall⟩ := one1_spec h
      refine callsWide (callsIn_of_wp_marks (F := FW none) (n := 0) hfn hb trivial ?_)
      have hnt : fn.ntmps ≤ (xs ++ Array.replicate (fn.ntmps - xs.size) undef).size := by simp; omega
      have hR : R E w I (xs ++ Array.replicate (fn.ntmps - xs.size) undef).size (fun _ => none) I (start args) { tmps := xs ++ Array.replicate (fn.ntmps - xs.size) undef, defers := [] } w :=
        ⟨rfl, trivial, fun t => init_tm hsz (fun j x v hx hv => .pure _ _ (hrep j x v hx hv)) t, ⟨himm, hgl, ⟨fun _ => none, ⟨fun l o h => (by cases h), fun u h => (by cases h), fun b o h => (by cases h)⟩⟩, ⟨rfl, rfl, rfl, Nat.le_refl _, fun _ _ _ => rfl⟩, fun _ _ _ => rfl⟩⟩
      refine code_ok hm ih n (y := noY) (γ0 := fun _ => none) (Iy := I) noY_ok c af.body m false none (.inr rfl) hcomp (dstOk_mono hnt _ hdst) w I _ _ l _ _ _ _ (SubG.refl _) (SubI.refl _) hx hR (fun _ _ => rfl) (fun y hy => ?_)
      obtain ⟨e, s⟩ := y
      intro γ' I' a' w' hR' hf' hg hI
      refine alone hres hR' (hall _ hy) (fun x τ I2 w2 h2 h3 h4 h5 h6 h7 => ?_)
      exact ⟨x, τ, I2, rfl, h2, fun b o x h => h3 b o x (hI b o x h), h4, h5, h6, h7⟩
    · simp only [callers] at h
      by_cases hfz : E.fz f
      · simp only [hfz, if_true] at h
        obtain ⟨args', ha, h⟩ := bind_some h
        obtain ⟨r', h1, h2⟩ := bind_some h
        simp only [Option.ite_none_right_eq_some, Option.some.injEq] at h2
        obtain ⟨h2, rfl⟩ := h2
        have hd := (ih γ0 Iy noY noY_ok).d f args' r' h1
        exact ⟨hd.1, frz_ok hd.2 ha h2⟩
      simp only [hfz, Bool.false_eq_true, if_false] at h
      obtain ⟨af, haf, h⟩ := bind_some h
      obtain ⟨m, fn, c, hfn, hb, hcomp, hres, hname, hdst⟩ := hE.fs f af haf
      refine ⟨⟨fn, c, hfn, hb, hname⟩, fun w0 w I0 I γ xs st hob hSh hfr hsz hrep => ?_⟩
      obtain ⟨l, hx, hall⟩ := one1_spec h
      refine callsWide (callsIn_of_wp_marks (F := FW none) (n := 0) hfn hb trivial ?_)
      have hnt : fn.ntmps ≤ (xs ++ Array.replicate (fn.ntmps - xs.size) undef).size := by simp; omega
      have hR : R E w I (xs ++ Array.replicate (fn.ntmps - xs.size) undef).size γ I (startS args ob (fun _ => false) ub base ub) { tmps := xs ++ Array.replicate (fn.ntmps - xs.size) undef, defers := [] } w := by
        obtain ⟨Ω, ho⟩ := hSh.own
        refine ⟨rfl, trivial, fun t => init_tm hsz hrep t, ⟨hSh.imm, hSh.gl, ⟨Ω, ⟨fun l o hl => ?_, fun u h => (by cases h), ho.lt⟩⟩, ⟨rfl, rfl, rfl, Nat.le_refl _, fun _ _ _ => rfl⟩, fun _ _ _ => rfl⟩⟩
        have hl' : st.ob l = some o := hob l o hl
        obtain ⟨b, k, h1, h2, h3, h4, h5⟩ := ho.ob l o hl'
        refine ⟨b, k, h1, h2, fun hro => ?_, h4.keep (fun l2 u2 ver' es' mb mk _ hl2 => .inl ⟨hob _ _ hl2, fun m c hm => hm⟩), h5⟩
        rw [hfr _ hro] at h1
        cases h1
      refine code_ok hm ih n (y := noY) (γ0 := γ) (Iy := I) noY_ok c af.body m true none (.inr rfl) hcomp (dstOk_mono hnt _ hdst) w I _ _ l _ _ _ _ (SubG.refl _) (SubI.refl _) hx hR hfr (fun y hy => ?_)
      obtain ⟨e, s⟩ := y
      intro γ' I' a' w' hR' hf' hg hI
      refine alone hres hR' (hall _ hy) (fun x τ I2 w2 h2 h3 h4 h5 h6 h7 => ?_)
      exact ⟨x, τ, I2, rfl, h2, fun b o x h => h3 b o x (hI b o x h), h4, h5, h6, h7⟩
    · simp only [callers] at h
      by_cases htw : E.tw f
      · simp only [htw, if_true] at h
        obtain ⟨args', ha, h⟩ := bind_some h
        obtain ⟨r', h1, h2⟩ := bind_some h
        have hd := (ih γ0 Iy noY noY_ok).d f args' r' h1
        obtain ⟨⟨_, _, _, _⟩, h3, rfl⟩ := map_some h2
        exact ⟨hd.1, thaw_ok hd.2 ha h3⟩
      simp only [htw, Bool.false_eq_true, if_false] at h
      cases hst : E.srt f with
      | some m =>
        simp only [hst] at h
        obtain ⟨⟨_, _, _, _⟩, h3, rfl⟩ := map_some h
        exact ⟨(hE.srt f m hst).1, sort_ok (hE.srt f m hst) h3⟩
      | none =>
      simp only [hst] at h
      obtain ⟨af, haf, h⟩ := bind_some h
      obtain ⟨m, fn, c, hfn, hb, hcomp, hres, hname, hdst⟩ := hE.fs f af haf
      refine ⟨⟨fn, c, hfn, hb, hname⟩, fun w0 w I0 I γ xs st hg0 hI0 hob htk hro hSh hfr hsz hrep => ?_⟩
      obtain ⟨l0, hx, h⟩ := bind_some h
      have h : l0.mapM (endS af.res) = some L := by
        split at h
        · exact h
        · split at h
          · obtain ⟨r, h1, rfl⟩ := map_some h
            simp only [List.mapM_cons, h1, List.mapM_nil]
            rfl
          · cases h
      refine callsWide (callsIn_of_wp_marks (F := FW none) (n := 0) hfn hb trivial ?_)
      have hnt : fn.ntmps ≤ (xs ++ Array.replicate (fn.ntmps - xs.size) undef).size := by simp; omega
      have hR : R E w0 I0 (xs ++ Array.replicate (fn.ntmps - xs.size) undef).size γ I (startS args ob tk ro base ub) { tmps := xs ++ Array.replicate (fn.ntmps - xs.size) undef, defers := [] } w :=
        ⟨rfl, trivial, fun t => init_tm hsz hrep t, hSh.congr hob.symm htk.symm hro.symm⟩
      refine code_ok hm ih n (y := y) hy c af.body m true none (.inr rfl) hcomp (dstOk_mono hnt _ hdst) w0 I0 _ _ l0 _ _ _ _ hg0 hI0 hx hR hfr (fun z hz => ?_)
      have hro' := codeL_ro _ hx _ hz
      obtain ⟨⟨r, ob', tk', ub'⟩, hrL, h⟩ := mapM_mem h hz
      obtain ⟨e, s⟩ := z
      intro γ' I' a' w' hR' hf' hg hI
      have hne : e = .nrm ∨ e = .ret := by cases e <;> first | exact .inl rfl | exact .inr rfl | cases h
      have h' : (if s.df.isEmpty then (af.res.mapM (resOf s)).map fun l => (match l with | [v] => v | l => .tup l, s.ob, s.tk, s.nx) else none) = some (r, ob', tk', ub') := by rcases hne with rfl | rfl <;> exact h
      simp only [Option.ite_none_right_eq_some] at h'
      obtain ⟨hde, h'⟩ := h'
      have hde : s.df = [] := List.isEmpty_iff.1 hde
      have hdn : a'.defers = [] := by
        have := hR'.df
        simp only [hde] at this
        cases hds : a'.defers with
        | nil => rfl
        | cons d ds => rw [hds] at this; exact this.elim
      refine bodyPostM_of hne ?_
      rw [hdn]
      obtain ⟨vs, hvs, he⟩ := map_some h'
      obtain ⟨ys, k1, k2, k3⟩ := results_ok hR' hres hvs
      simp only [Prod.mk.injEq] at he
      obtain ⟨he, rfl, rfl, rfl⟩ := he
      refine ⟨_, k2, _, hrL, _, γ', I', rfl, fun st' h1 h2 h3 => hR'.sh.congr h1 h2 (h3.trans hro'.symm), ?_, hg, hI, hf'⟩
      match ys, vs, k1, k3, he with
      | [], [], _, _, rfl => exact .tup _ _ rfl (fun j y u hy => by simp at hy)
      | [y], [v], _, k3, rfl => exact k3 0 y v rfl rfl
      | y :: y' :: ys, v :: v' :: vs, e, k3, rfl => exact .tup _ _ (by simpa using e) (fun j z u hz hu => k3 j z u (by simpa using hz) hu)
/-- What the interpreter says of a call is so. -/
theorem Ev.sound (hm : P.follows .mixedOrders = true) (hE : EnvOk P E) {f : FuncId} {args : List V} {r : V} (h : Ev E f args r) : PureOk P E f args r := by
  obtain ⟨n, h⟩ := h
  exact ((callers_ok hm hE n (fun _ => none) (fun _ _ => none) noY noY_ok).d f args r h).2
end
/-- A call that looks at the objects of who calls answers so. -/
def EvO (E : Env) (f : FuncId) (args : List V) (ob : Nat → Option Obj') (tk : Nat → Bool) (base ub : Nat) (r : V) : Prop := ∃ n, (callers E n noY).o f args ob tk base ub = some r
/-- A call that shares does so. -/
def EvS (E : Env) (y : Nat → Y) (f : FuncId) (args : List V) (ob : Nat → Option Obj') (tk : Nat → Bool) (ro base ub : Nat) (r : V × (Nat → Option Obj') × (Nat → Bool) × Nat) : Prop := ∃ n, (callers E n (y n)).s f args ob tk ro base ub = some [r]
/-- A call that shares does one of what is so. -/
def EvSL (E : Env) (y : Nat → Y) (f : FuncId) (args : List V) (ob : Nat → Option Obj') (tk : Nat → Bool) (ro base ub : Nat) (Q : V × (Nat → Option Obj') × (Nat → Bool) × Nat → Prop) : Prop := ∃ n l, (callers E n (y n)).s f args ob tk ro base ub = some l ∧ l ≠ [] ∧ ∀ r ∈ l, Q r
theorem EvS.list {E : Env} {y : Nat → Y} {f : FuncId} {args : List V} {ob : Nat → Option Obj'} {tk : Nat → Bool} {ro base ub : Nat} {Q : V × (Nat → Option Obj') × (Nat → Bool) × Nat → Prop} (h : ∃ r, EvS E y f args ob tk ro base ub r ∧ Q r) : EvSL E y f args ob tk ro base ub Q := by
  obtain ⟨r, ⟨n, h1⟩, h2⟩ := h
  exact ⟨n, [r], h1, by simp, fun x hx => by rw [List.mem_singleton] at hx; exact hx ▸ h2⟩
/-- The one who is yielded to, by how deep it is looked. -/
structure YF where
  y : Nat → Y
  mono : ∀ {n m : Nat}, n ≤ m → YLe (y n) (y m)
def noYF : YF := ⟨fun _ => noY, fun _ => YLe.refl _⟩
def EvY (Yf : YF) (l u : Nat) (xs : List V) (ob : Nat → Option Obj') (tk : Nat → Bool) (ro ub : Nat) (r : V × (Nat → Option Obj') × (Nat → Bool) × Nat) : Prop := ∃ n, Yf.y n l u xs ob tk ro ub = some r
def WY (E : Env) (Yf : YF) (c : C) (st : St) (Q : Ex → St → Prop) : Prop := ∃ n l, codeL E (callers E n) (Yf.y n) n c st = some l ∧ l ≠ [] ∧ ∀ x ∈ l, Q x.1 x.2
/-- A call alone, and what the caller has of it. -/
def wpCall (E : Env) (f : FuncId) (xs : List V) (st : St) (dst : Option Nat) (ub : Nat) (K : St → Nat → Prop) : Prop :=
  xs.all V.pureTop = true ∧ ∃ v, Ev E f xs v ∧ ∃ δ, retA ub v = some δ ∧ K (st.app dst δ) (ub + 64)
def wpStep (E : Env) (Yf : YF) (o : AOpr) (st : St) (ub : Nat) (K : St → Nat → Prop) : Prop :=
  match wanted o st.tm with
  | none => False
  | some false => K { st with tm := put st.tm o.dst none' } ub
  | some true => match yieldCall (eval E st.tm) o.op with
   | some (l, u, xs) => ∃ r, EvY Yf l u xs st.ob st.tk st.ro ub r ∧ K { st with tm := put st.tm o.dst r.1, ob := r.2.1, tk := r.2.2.1 } r.2.2.2
   | none => match sharedCall E o.nm (eval E st.tm) o.op with
    | some (f, xs) => (E.sh o.nm f = true ∧ EvSL E Yf.y f xs st.ob st.tk st.ro ((st.fb + o.dst.getD 0 + 1) * 1024) ub fun r => K { st with tm := put st.tm o.dst r.1, ob := r.2.1, tk := r.2.2.1 } r.2.2.2) ∨
        (E.sh o.nm f = false ∧ ∃ v, EvO E f xs st.ob st.tk ((st.fb + o.dst.getD 0 + 1) * 1024) ub v ∧ ∃ δ, retA ub v = some δ ∧ K (st.app o.dst δ) (ub + 64))
    | none => match o.op with
      | .call f xs => wpCall E f (xs.map fun x => (eval E st.tm x).strip) st o.dst ub K
      | .callV q xs => ∃ f first captured, eval E st.tm q = .fn (.func f) first captured ∧ wpCall E f ((first ++ xs.map (eval E st.tm) ++ captured).map V.strip) st o.dst ub K
      | .nextMap x => ∃ l, nextL st.ob st.ro (eval E st.tm x) = some l ∧ ∀ δ ∈ l, K (st.app o.dst δ) (ub + 64)
      | op => ∃ δ, aop (fun _ _ => none) (eval E st.tm) st.ob st.tk st.ro (o.name st.fb ub) ub op = some δ ∧ K (st.app o.dst δ) (ub + 64)
def wpOps' (E : Env) (Yf : YF) : List AOpr → St → Nat → (St → Prop) → Prop
  | [], st, ub, K => K { st with nx := ub }
  | o :: r, st, ub, K => wpStep E Yf o st ub fun st ub => wpOps' E Yf r st ub K
/-- A region of which any order may be drawn: with what each operation looks at and writes. -/
def wpDraw (E : Env) : List AOpr → St → Nat → (List FP → St → Prop) → Prop
  | [], st, ub, K => K [] { st with nx := ub }
  | o :: r, st, ub, K =>
    match wanted o st.tm with
    | none => False
    | some false => wpDraw E r (st.app o.dst { v := none' }) (ub + 64) fun fs s => K ({} :: fs) s
    | some true => match sharedCall E o.nm (eval E st.tm) o.op with
      | some (f, xs) => (E.sh o.nm f = false ∧ ∃ v, EvO E f xs st.ob st.tk ((st.fb + o.dst.getD 0 + 1) * 1024) (ub + 64 * (r.length + 1)) v ∧ ∃ δ, retA ub v = some δ ∧
          wpDraw E r (st.app o.dst δ) (ub + 64) fun fs s => K ({ wt := δ.wt, all := true, seen := fun l => (st.ob l).isSome } :: fs) s) ∨
          (E.sh o.nm f = true ∧ E.tw f = true ∧ ∃ a' v, xs.mapM (frzTop st.ob) = some a' ∧ Ev E f a' v ∧ ∃ δ, thawD (o.name st.fb ub) ub v = some δ ∧
          wpDraw E r (st.app o.dst δ) (ub + 64) fun fs s => K ({ wo := δ.wo, all := true, seen := fun l => (st.ob l).isSome, nw := true } :: fs) s) ∨
          (E.sh o.nm f = true ∧ E.tw f = false ∧ ∃ δ, mkD E f xs (o.name st.fb ub) ub = some δ ∧ wpDraw E r (st.app o.dst δ) (ub + 64) fun fs s => K ({ wo := δ.wo, nw := true } :: fs) s)
      | none => o.op.far = false ∧ match o.op with
        | .call f xs => (xs.all fun x => (eval E st.tm x).strip.pureTop) = true ∧ ∃ v, Ev E f (xs.map fun x => (eval E st.tm x).strip) v ∧ ∃ δ, retA ub v = some δ ∧ wpDraw E r (st.app o.dst δ) (ub + 64) fun fs s => K (fpOf (eval E st.tm) o.op δ :: fs) s
        | .callV q xs => ∃ f first captured, eval E st.tm q = .fn (.func f) first captured ∧ ((first ++ xs.map (eval E st.tm) ++ captured).map V.strip).all V.pureTop = true ∧ ∃ v, Ev E f ((first ++ xs.map (eval E st.tm) ++ captured).map V.strip) v ∧ ∃ δ, retA ub v = some δ ∧
            wpDraw E r (st.app o.dst δ) (ub + 64) fun fs s => K (fpOf (eval E st.tm) o.op δ :: fs) s
        | op => ∃ δ, aop (fun _ _ => none) (eval E st.tm) st.ob st.tk st.ro (o.name st.fb ub) ub op = some δ ∧ wpDraw E r (st.app o.dst δ) (ub + 64) fun fs s => K (fpOf (eval E st.tm) o.op δ :: fs) s
def wpLoop (W : St → (Ex → St → Prop) → Prop) : Nat → St → (Ex → St → Prop) → Prop
  | 0, _, _ => False
  | n + 1, st, Q => W st fun e s => match e with
    | .nrm => wpLoop W n s Q
    | e => Q e s
def wpC (E : Env) (Yf : YF) : C → St → (Ex → St → Prop) → Prop
  | .skip, st, Q => Q .nrm st
  | .region ops, st, Q => wpOps' E Yf ops st st.nx fun s => Q .nrm s
  | .draw ops free, st, Q => wpDraw E ops st st.nx fun fs s => drawOk free fs = true ∧ newOk fs = true ∧ Q .nrm s
  | .pin o fs, st, Q => wpStep E Yf o st st.nx fun s ub => wpDraw E fs s ub fun _ s' => sameF fs st s' = true ∧ Q .nrm s'
  | .seq a b, st, Q => wpC E Yf a st fun e s => match e with
    | .nrm => wpC E Yf b s Q
    | e => Q e s
  | .cond c a b, st, Q => ∃ t, eval E st.tm c = .bool t ∧ (t = true → wpC E Yf a st Q) ∧ (t = false → wpC E Yf b st Q)
  | .block id a, st, Q => wpC E Yf a st fun e s => match e with
    | .exit i => if i = id then Q .nrm s else Q (.exit i) s
    | e => Q e s
  | .loop a, st, Q => ∃ N, wpLoop (wpC E Yf a) N st Q
  | .exit id, st, Q => Q (.exit id) st
  | .ret, st, Q => Q .ret st
  | .rangeFunc f ps as bd, st, Q => WY E Yf (.rangeFunc f ps as bd) st Q
  | .stuck, _, _ => False
theorem callers_d (E : Env) (n : Nat) (y : Y) : (callers E n y).d = (callers E n noY).d := by cases n <;> rfl
theorem callers_o (E : Env) (n : Nat) (y : Y) : (callers E n y).o = (callers E n noY).o := by cases n <;> rfl
theorem callers_y (E : Env) (n : Nat) (y : Y) : (callers E n y).y = y := by cases n <;> rfl
section
variable {E : Env} {Yf : YF}
theorem mem_append_all {α : Type} {p : α → Prop} {l m : List α} (h1 : ∀ x ∈ l, p x) (h2 : ∀ x ∈ m, p x) : ∀ x ∈ l ++ m, p x := fun x hx => (List.mem_append.1 hx).elim (h1 x) (h2 x)
/-- Many runs, one bound. -/
theorem bindLs_of {α β : Type} {f : Nat → α → Option (List β)} (hmono : ∀ n m, n ≤ m → ∀ a, le (f n a) (f m a)) {Q : β → Prop} : ∀ (l : List α), l ≠ [] → (∀ a ∈ l, ∃ n r, f n a = some r ∧ r ≠ [] ∧ ∀ x ∈ r, Q x) →
    ∃ n r, (∀ m, n ≤ m → bindLs (f m) l = some r) ∧ r ≠ [] ∧ ∀ x ∈ r, Q x
  | [], h, _ => absurd rfl h
  | [x], _, h => by
    obtain ⟨n, r, h1, h2, h3⟩ := h x (List.mem_singleton.2 rfl)
    exact ⟨n, r, fun m hm => hmono n m hm x r h1, h2, h3⟩
  | x :: y :: l, _, h => by
    obtain ⟨n, r, h1, h2, h3⟩ := h x (List.mem_cons_self ..)
    obtain ⟨n', r', h1', h2', h3'⟩ := bindLs_of hmono (y :: l) (by simp) (fun a ha => h a (List.mem_cons_of_mem _ ha))
    refine ⟨max n n', r ++ r', fun m hm => ?_, by simp [h2], mem_append_all h3 h3'⟩
    simp only [bindLs]
    rw [hmono n m (by omega) x r h1, h1' m (by omega)]
    rfl
abbrev cs (E : Env) (n : Nat) : Y → Callers := callers E n
theorem cs_mono (n m : Nat) (h : n ≤ m) : FLe (cs E n) (cs E m) := callers_mono n m h
theorem step_of {o : AOpr} {st : St} {ub : Nat} {K : St → Nat → Prop} (h : wpStep E Yf o st ub K) : ∃ n l, step E (cs E n (Yf.y n)) o st ub = some l ∧ l ≠ [] ∧ ∀ x ∈ l, K x.1 x.2 := by
  have one : ∀ {s : St} {u : Nat}, K s u → ∀ x ∈ [(s, u)], K x.1 x.2 := fun h x hx => by rw [List.mem_singleton] at hx; subst hx; exact h
  unfold wpStep at h
  unfold step
  cases hw : wanted o st.tm with
  | none => simp only [hw] at h
  | some b =>
    cases b with
    | false =>
      simp only [hw] at h
      exact ⟨0, _, rfl, List.cons_ne_nil _ _, one h⟩
    | true =>
      simp only [hw] at h
      cases hy : yieldCall (eval E st.tm) o.op with
      | some x =>
       obtain ⟨l, u, xs⟩ := x
       simp only [hy] at h
       obtain ⟨r, ⟨n, hr⟩, hK⟩ := h
       exact ⟨n, [({ st with tm := put st.tm o.dst r.1, ob := r.2.1, tk := r.2.2.1 }, r.2.2.2)], by simp only [cs, callers_y, hr, Option.map_some], List.cons_ne_nil _ _, one hK⟩
      | none =>
      simp only [hy] at h ⊢
      cases hsh : sharedCall E o.nm (eval E st.tm) o.op with
      | some fx =>
        obtain ⟨f, xs⟩ := fx
        simp only [hsh] at h
        rcases h with ⟨h1, n, l, hr, hne, hK⟩ | ⟨h1, v, ⟨n, hv⟩, δ, hδ, hK⟩
        · refine ⟨n, l.map fun x => ({ st with tm := put st.tm o.dst x.1, ob := x.2.1, tk := x.2.2.1 }, x.2.2.2), ?_, by simpa using hne, fun x hx => ?_⟩
          · simp only [h1, if_true, cs, hr, Option.map_some]
          · obtain ⟨r, hr2, rfl⟩ := List.mem_map.1 hx
            exact hK r hr2
        · refine ⟨n, [(st.app o.dst δ, ub + 64)], ?_, List.cons_ne_nil _ _, one hK⟩
          simp only [h1, Bool.false_eq_true, if_false, cs, callers_o, hv, Option.bind_some, hδ, Option.map_some]
      | none =>
        simp only [hsh] at h
        have call : ∀ {f : FuncId} {xs : List V}, wpCall E f xs st o.dst ub K → ∃ n δ, callA (cs E n (Yf.y n)).d ub f xs = some δ ∧ K (st.app o.dst δ) (ub + 64) := by
          rintro f xs ⟨hp, v, ⟨n, hv⟩, δ, hδ, hK⟩
          exact ⟨n, δ, by simp only [callA, hp, if_true, cs, callers_d, hv, Option.bind_some, hδ], hK⟩
        split at h
        · rename_i f xs ho
          obtain ⟨n, δ, hc, hK⟩ := call h
          refine ⟨n, [(st.app o.dst δ, ub + 64)], ?_, List.cons_ne_nil _ _, one hK⟩
          simp only [ho, AOp.next?, aop, hc, Option.map_some]
        · rename_i q xs ho
          obtain ⟨f, first, captured, hev, h⟩ := h
          obtain ⟨n, δ, hc, hK⟩ := call h
          refine ⟨n, [(st.app o.dst δ, ub + 64)], ?_, List.cons_ne_nil _ _, one hK⟩
          simp only [ho, AOp.next?, aop, hev, hc, Option.map_some]
        · rename_i x ho
          obtain ⟨l, hl, hK⟩ := h
          refine ⟨0, l.map fun δ => (st.app o.dst δ, ub + 64), ?_, ?_, fun y hy => ?_⟩
          · simp only [ho, AOp.next?, hl, Option.map_some]
          · intro e
            have hl0 : l = [] := List.map_eq_nil_iff.1 e
            subst hl0
            unfold nextL at hl
            split at hl
            · split at hl
              · split at hl
                · split at hl
                  · cases hl
                  · rename_i es hne
                    simp only [Option.some.injEq] at hl
                    unfold picks at hl
                    split at hl
                    · exact hne rfl
                    · cases hl
                · cases hl
              · split at hl
                · cases hl
                · cases hl
              · cases hl
            · cases hl
          · obtain ⟨δ, hδ, rfl⟩ := List.mem_map.1 hy
            exact hK δ hδ
        · rename_i op h1 h2 h3
          obtain ⟨δ, hδ, hK⟩ := h
          refine ⟨0, [(st.app o.dst δ, ub + 64)], ?_, List.cons_ne_nil _ _, one hK⟩
          have hn : o.op.next? = none := by
            cases ho : o.op with
            | nextMap x => exact absurd ho (h3 x)
            | _ => rfl
          have hδ' : aop (cs E 0 (Yf.y 0)).d (eval E st.tm) st.ob st.tk st.ro (o.name st.fb ub) ub o.op = some δ := aop_mono (fun _ _ _ h => by cases h) _ _ _ _ _ _ _ _ hδ
          simp only [hn, hδ', Option.map_some]
theorem ops_of : ∀ {ops : List AOpr} {st : St} {ub : Nat} {K : St → Prop}, wpOps' E Yf ops st ub K → ∃ n l, opsR E (cs E n (Yf.y n)) ops st ub = some l ∧ l ≠ [] ∧ ∀ x ∈ l, K x
  | [], st, ub, K, h => ⟨0, _, rfl, List.cons_ne_nil _ _, fun x hx => by rw [List.mem_singleton] at hx; subst hx; exact h⟩
  | o :: r, st, ub, K, h => by
    obtain ⟨n, l, h1, h2, h3⟩ := step_of h
    obtain ⟨n', l', h1', h2', h3'⟩ := bindLs_of (f := fun n (x : St × Nat) => opsR E (cs E n (Yf.y n)) r x.1 x.2) (fun n m hm x => opsR_mono (cs_mono n m hm _ _ (Yf.mono hm)) r x.1 x.2) l h2 (fun x hx => ops_of (h3 x hx))
    refine ⟨max n n', l', ?_, h2', h3'⟩
    simp only [opsR, bindL]
    rw [step_mono (cs_mono n (max n n') (by omega) _ _ (Yf.mono (by omega))) o st ub l h1]
    exact h1' _ (by omega)
theorem draw_of : ∀ {ops : List AOpr} {st : St} {ub : Nat} {K : List FP → St → Prop}, wpDraw E ops st ub K → ∃ n p, drawR E (cs E n (Yf.y n)) ops st ub = some p ∧ K p.1 p.2
  | [], st, ub, K, h => ⟨0, _, rfl, h⟩
  | o :: r, st, ub, K, h => by
    unfold wpDraw at h
    unfold drawR
    cases hw : wanted o st.tm with
    | none => simp only [hw] at h
    | some b =>
      cases b with
      | false =>
        simp only [hw] at h
        obtain ⟨n, p, h1, h2⟩ := draw_of h
        exact ⟨n, ({} :: p.1, p.2), by simp only [h1, Option.map_some], h2⟩
      | true =>
        simp only [hw] at h
        simp only
        cases hsh : sharedCall E o.nm (eval E st.tm) o.op with
        | some fx =>
          obtain ⟨f, xs⟩ := fx
          simp only [hsh] at h
          rcases h with h | ⟨h0, htw, a', v, ha', ⟨n, hv⟩, δ, hδ, h⟩ | ⟨h0, htw, δ, hδ, h⟩
          case inr.inr =>
            obtain ⟨n', p, h1, h2⟩ := draw_of h
            refine ⟨n', ({ wo := δ.wo, nw := true } :: p.1, p.2), ?_, h2⟩
            simp only [h0, htw, if_true, Bool.false_eq_true, if_false, hδ, Option.bind_some, h1, Option.map_some]
          case inr.inl =>
            obtain ⟨n', p, h1, h2⟩ := draw_of h
            refine ⟨max n n', ({ wo := δ.wo, all := true, seen := fun l => (st.ob l).isSome, nw := true } :: p.1, p.2), ?_, h2⟩
            have hv' : (cs E n (Yf.y n)).d f a' = some v := by rw [cs, callers_d]; exact hv
            simp only [h0, htw, if_true, ha', Option.bind_some]
            rw [(cs_mono n (max n n') (by omega) _ _ (Yf.mono (by omega))).d _ _ _ hv']
            simp only [Option.bind_some, hδ]
            rw [drawR_mono (cs_mono n' (max n n') (by omega) _ _ (Yf.mono (by omega))) _ _ _ _ h1]
            rfl
          obtain ⟨h0, v, ⟨n, hv⟩, δ, hδ, h⟩ := h
          obtain ⟨n', p, h1, h2⟩ := draw_of h
          refine ⟨max n n', ({ wt := δ.wt, all := true, seen := fun l => (st.ob l).isSome } :: p.1, p.2), ?_, h2⟩
          simp only [h0, Bool.false_eq_true, if_false]
          have hv' : (cs E n (Yf.y n)).o f xs st.ob st.tk ((st.fb + o.dst.getD 0 + 1) * 1024) (ub + 64 * (r.length + 1)) = some v := by rw [cs, callers_o]; exact hv
          rw [(cs_mono n (max n n') (by omega) _ _ (Yf.mono (by omega))).o _ _ _ _ _ _ _ hv']
          simp only [Option.bind_some, hδ]
          rw [drawR_mono (cs_mono n' (max n n') (by omega) _ _ (Yf.mono (by omega))) _ _ _ _ h1]
          rfl
        | none =>
          simp only [hsh] at h
          obtain ⟨hfar, h⟩ := h
          simp only [hfar, Bool.false_eq_true, if_false]
          have fin : ∀ {n : Nat} {δ : Delta}, aop (cs E n (Yf.y n)).d (eval E st.tm) st.ob st.tk st.ro (o.name st.fb ub) ub o.op = some δ → wpDraw E r (st.app o.dst δ) (ub + 64) (fun fs s => K (fpOf (eval E st.tm) o.op δ :: fs) s) →
              ∃ n p, ((aop (cs E n (Yf.y n)).d (eval E st.tm) st.ob st.tk st.ro (o.name st.fb ub) ub o.op).bind fun δ => (drawR E (cs E n (Yf.y n)) r (st.app o.dst δ) (ub + 64)).map fun x => (fpOf (eval E st.tm) o.op δ :: x.1, x.2)) = some p ∧ K p.1 p.2 := by
            intro n δ hδ h
            obtain ⟨n', p, h1, h2⟩ := draw_of h
            refine ⟨max n n', (fpOf (eval E st.tm) o.op δ :: p.1, p.2), ?_, h2⟩
            rw [aop_mono (cs_mono n (max n n') (by omega) _ _ (Yf.mono (by omega))).d _ _ _ _ _ _ _ _ hδ, Option.bind_some, drawR_mono (cs_mono n' (max n n') (by omega) _ _ (Yf.mono (by omega))) _ _ _ _ h1]
            rfl
          split at h
          · rename_i f xs ho
            obtain ⟨hp, v, ⟨n, hv⟩, δ, hδ, h⟩ := h
            refine fin (n := n) (δ := δ) ?_ h
            have hp' : (xs.map fun x => (eval E st.tm x).strip).all V.pureTop = true := by rw [List.all_map]; exact hp
            simp only [ho, aop, callA, hp', if_true, cs, callers_d, hv, Option.bind_some, hδ]
          · rename_i q xs ho
            obtain ⟨f, first, captured, hev, hp, v, ⟨n, hv⟩, δ, hδ, h⟩ := h
            refine fin (n := n) (δ := δ) ?_ h
            simp only [ho, aop, hev, callA, hp, if_true, cs, callers_d, hv, Option.bind_some, hδ]
          · obtain ⟨δ, hδ, h⟩ := h
            exact fin (n := 0) (aop_mono (fun _ _ _ h => by cases h) _ _ _ _ _ _ _ _ hδ) h
theorem wp_of : ∀ {c : C} {st : St} {Q : Ex → St → Prop}, wpC E Yf c st Q → WY E Yf c st Q := by
  intro c
  induction c with
  | skip => intro st Q h; exact ⟨0, _, rfl, by simp, fun x hx => by rw [List.mem_singleton] at hx; subst hx; exact h⟩
  | ret => intro st Q h; exact ⟨0, _, rfl, by simp, fun x hx => by rw [List.mem_singleton] at hx; subst hx; exact h⟩
  | exit id => intro st Q h; exact ⟨0, _, rfl, by simp, fun x hx => by rw [List.mem_singleton] at hx; subst hx; exact h⟩
  | stuck => intro st Q h; exact h.elim
  | rangeFunc f ps a b => intro st Q h; exact h
  | region ops =>
    intro st Q h
    obtain ⟨n, l, h1, h2, h3⟩ := ops_of h
    refine ⟨n, l.map fun s => (.nrm, s), by simp only [codeL]; rw [h1]; rfl, by simpa using h2, fun x hx => ?_⟩
    obtain ⟨s, hs, rfl⟩ := List.mem_map.1 hx
    exact h3 s hs
  | pin o fs =>
    intro st Q h
    obtain ⟨n, l, h1, h2, h3⟩ := step_of h
    obtain ⟨n', l', h1', h2', h3'⟩ := bindLs_of (f := fun n (x : St × Nat) => (drawR E (cs E n (Yf.y n)) fs x.1 x.2).bind fun p => if sameF fs st p.2 then some [(Ex.nrm, p.2)] else none) (Q := fun x => Q x.1 x.2) (fun n m hm x => (drawR_mono (cs_mono n m hm _ _ (Yf.mono hm)) fs x.1 x.2).bind fun _ => le.rfl' _) l h2 (fun x hx => by
      obtain ⟨k, p, hp, hs, hQ⟩ := draw_of (h3 x hx)
      exact ⟨k, [(.nrm, p.2)], by rw [hp, Option.bind_some, if_pos hs], List.cons_ne_nil _ _, fun y hy => by rw [List.mem_singleton] at hy; subst hy; exact hQ⟩)
    refine ⟨max n n', l', ?_, h2', h3'⟩
    simp only [codeL, bindL]
    rw [step_mono (cs_mono n (max n n') (by omega) _ _ (Yf.mono (by omega))) o st st.nx l h1]
    exact h1' _ (by omega)
  | draw ops free =>
    intro st Q h
    obtain ⟨n, p, h1, h2, h2', h3⟩ := draw_of h
    refine ⟨n, [(.nrm, p.2)], ?_, by simp, fun x hx => by rw [List.mem_singleton] at hx; subst hx; exact h3⟩
    simp only [codeL]
    rw [h1]
    simp only [Option.bind_some, h2, h2', Bool.and_self, if_true]
  | seq a b iha ihb =>
    intro st Q h
    obtain ⟨n, l, h1, h2, h3⟩ := iha h
    obtain ⟨n', l', h1', h2', h3'⟩ := bindLs_of (f := fun n (x : Ex × St) => match x with
      | (.nrm, st') => codeL E (cs E n) (Yf.y n) n b st'
      | (e, st') => some [(e, st')]) (Q := fun x => Q x.1 x.2) (fun n m hm x => by
        obtain ⟨e, s⟩ := x
        cases e
        · exact codeL_mono (cs_mono n m hm) hm b _ _ (Yf.mono hm) s
        · exact le.rfl' _
        · exact le.rfl' _) l h2 (fun x hx => by
        obtain ⟨e, s⟩ := x
        have := h3 _ hx
        cases e with
        | nrm => exact ihb this
        | exit i => exact ⟨0, _, rfl, by simp, fun x hx => by rw [List.mem_singleton] at hx; subst hx; exact this⟩
        | ret => exact ⟨0, _, rfl, by simp, fun x hx => by rw [List.mem_singleton] at hx; subst hx; exact this⟩)
    refine ⟨max n n', l', ?_, h2', h3'⟩
    simp only [codeL, bindL]
    rw [codeL_mono (cs_mono n (max n n') (by omega)) (by omega) a _ _ (Yf.mono (by omega)) st l h1]
    exact h1' _ (by omega)
  | cond q a b iha ihb =>
    intro st Q h
    obtain ⟨t, ht, h1, h2⟩ := h
    cases t with
    | true =>
      obtain ⟨n, l, k1, k2, k3⟩ := iha (h1 rfl)
      exact ⟨n, l, by simp only [codeL, ht]; exact k1, k2, k3⟩
    | false =>
      obtain ⟨n, l, k1, k2, k3⟩ := ihb (h2 rfl)
      exact ⟨n, l, by simp only [codeL, ht]; exact k1, k2, k3⟩
  | block id a ih =>
    intro st Q h
    obtain ⟨n, l, h1, h2, h3⟩ := ih h
    refine ⟨n, _, by simp only [codeL]; rw [h1]; rfl, by simpa using h2, fun x hx => ?_⟩
    obtain ⟨p, hp, rfl⟩ := List.mem_map.1 hx
    have := h3 p hp
    obtain ⟨e, s⟩ := p
    cases e with
    | nrm => exact this
    | ret => exact this
    | exit i =>
      simp only at this ⊢
      split at this
      · rename_i hi; simp only [hi, if_true]; exact this
      · rename_i hi; simp only [hi, if_false]; exact this
  | loop a ih =>
    intro st Q h
    obtain ⟨N, h⟩ := h
    have key : ∀ (N : Nat) (st : St), wpLoop (wpC E Yf a) N st Q → ∃ n l, (∀ m k, n ≤ m → n ≤ k → loopL (codeL E (cs E m) (Yf.y m) m a) k st = some l) ∧ l ≠ [] ∧ ∀ x ∈ l, Q x.1 x.2 := by
      intro N
      induction N with
      | zero => intro st h; exact h.elim
      | succ N ihN =>
        intro st h
        obtain ⟨n, l, h1, h2, h3⟩ := ih h
        obtain ⟨n', l', h1', h2', h3'⟩ := bindLs_of (f := fun n (x : Ex × St) => match x with
          | (.nrm, st') => loopL (codeL E (cs E n) (Yf.y n) n a) n st'
          | (e, st') => some [(e, st')]) (Q := fun x => Q x.1 x.2) (fun n m hm x => by
            obtain ⟨e, s⟩ := x
            cases e
            · exact loopL_mono (fun s => codeL_mono (cs_mono n m hm) hm a _ _ (Yf.mono hm) s) n m hm s
            · exact le.rfl' _
            · exact le.rfl' _) l h2 (fun x hx => by
            obtain ⟨e, s⟩ := x
            have := h3 _ hx
            cases e with
            | nrm =>
              obtain ⟨k, r, q1, q2, q3⟩ := ihN s this
              exact ⟨k, r, q1 k k (Nat.le_refl _) (Nat.le_refl _), q2, q3⟩
            | exit i => exact ⟨0, _, rfl, by simp, fun x hx => by rw [List.mem_singleton] at hx; subst hx; exact this⟩
            | ret => exact ⟨0, _, rfl, by simp, fun x hx => by rw [List.mem_singleton] at hx; subst hx; exact this⟩)
        refine ⟨max n n' + 1, l', fun m k hm hk => ?_, h2', h3'⟩
        obtain ⟨k, rfl⟩ : ∃ k', k = k' + 1 := ⟨k - 1, by omega⟩
        simp only [loopL, bindL]
        rw [codeL_mono (cs_mono n m (by omega)) (by omega) a _ _ (Yf.mono (by omega)) st l h1]
        have e1 := h1' (max n n') (by omega)
        refine bindLs_mono (fun x => ?_) l l' e1
        obtain ⟨e, s⟩ := x
        cases e
        · exact loopL_mono (fun s => codeL_mono (cs_mono _ m (by omega)) (by omega) a _ _ (Yf.mono (by omega)) s) _ k (by omega) s
        · exact le.rfl' _
        · exact le.rfl' _
    obtain ⟨n, l, h1, h2, h3⟩ := key N st h
    exact ⟨n, l, h1 n n (Nat.le_refl _) (Nat.le_refl _), h2, h3⟩
/-- A call answers so, by what its code does. -/
theorem Ev_wp {f : FuncId} {af : AF} {args : List V} {r : V} (hf : E.fc f = some af) (h : wpC E noYF af.body (start args) fun e s => endV af.res (e, s) = some r) : Ev E f args r := Ev_of hf (wp_of h)
theorem wpStep_mono {o : AOpr} {st : St} {ub : Nat} {K K' : St → Nat → Prop} (h : ∀ s u, K s u → K' s u) (hk : wpStep E Yf o st ub K) : wpStep E Yf o st ub K' := by
  have call : ∀ {f : FuncId} {xs : List V}, wpCall E f xs st o.dst ub K → wpCall E f xs st o.dst ub K' := by
    rintro f xs ⟨hp, v, hv, δ, hδ, hK⟩
    exact ⟨hp, v, hv, δ, hδ, h _ _ hK⟩
  unfold wpStep at hk ⊢
  cases hw : wanted o st.tm with
  | none => simp only [hw] at hk
  | some b =>
    cases b with
    | false => simp only [hw] at hk ⊢; exact h _ _ hk
    | true =>
      simp only [hw] at hk ⊢
      cases hy : yieldCall (eval E st.tm) o.op with
      | some x =>
       obtain ⟨l, u, xs⟩ := x
       simp only [hy] at hk ⊢
       obtain ⟨r, hr, hK⟩ := hk
       exact ⟨r, hr, h _ _ hK⟩
      | none =>
      simp only [hy] at hk ⊢
      cases hsh : sharedCall E o.nm (eval E st.tm) o.op with
      | some fx =>
        simp only [hsh] at hk ⊢
        rcases hk with ⟨h1, n, l, hr, hne, hK⟩ | ⟨h1, v, hv, δ, hδ, hK⟩
        · exact .inl ⟨h1, n, l, hr, hne, fun r hm => h _ _ (hK r hm)⟩
        · exact .inr ⟨h1, v, hv, δ, hδ, h _ _ hK⟩
      | none =>
        simp only [hsh] at hk ⊢
        cases ho : o.op <;> simp only [ho] at hk ⊢
        case call f xs => exact call hk
        case callV q xs =>
          obtain ⟨f, first, captured, hev, hk⟩ := hk
          exact ⟨f, first, captured, hev, call hk⟩
        case nextMap x =>
          obtain ⟨l, hl, hK⟩ := hk
          exact ⟨l, hl, fun δ hδ => h _ _ (hK δ hδ)⟩
        all_goals
          obtain ⟨δ, hδ, hK⟩ := hk
          exact ⟨δ, hδ, h _ _ hK⟩
theorem wpOps_mono : ∀ {ops : List AOpr} {st : St} {ub : Nat} {K K' : St → Prop}, (∀ s, K s → K' s) → wpOps' E Yf ops st ub K → wpOps' E Yf ops st ub K'
  | [], _, _, _, _, h, hk => h _ hk
  | _ :: _, _, _, _, _, h, hk => wpStep_mono (fun _ _ => wpOps_mono h) hk
theorem wpDraw_mono : ∀ {ops : List AOpr} {st : St} {ub : Nat} {K K' : List FP → St → Prop}, (∀ f s, K f s → K' f s) → wpDraw E ops st ub K → wpDraw E ops st ub K'
  | [], _, _, _, _, h, hk => h _ _ hk
  | o :: r, st, ub, K, K', h, hk => by
    unfold wpDraw at hk ⊢
    cases hw : wanted o st.tm with
    | none => simp only [hw] at hk
    | some b =>
      cases b with
      | false => simp only [hw] at hk ⊢; exact wpDraw_mono (fun _ _ => h _ _) hk
      | true =>
        simp only [hw] at hk ⊢
        cases hsh : sharedCall E o.nm (eval E st.tm) o.op with
        | some fx =>
          simp only [hsh] at hk ⊢
          rcases hk with ⟨h1, v, hv, δ, hδ, hK⟩ | ⟨h1, h2, a', v, ha, hv, δ, hδ, hK⟩ | ⟨h1, h2, δ, hδ, hK⟩
          · exact .inl ⟨h1, v, hv, δ, hδ, wpDraw_mono (fun _ _ => h _ _) hK⟩
          · exact .inr (.inl ⟨h1, h2, a', v, ha, hv, δ, hδ, wpDraw_mono (fun _ _ => h _ _) hK⟩)
          · exact .inr (.inr ⟨h1, h2, δ, hδ, wpDraw_mono (fun _ _ => h _ _) hK⟩)
        | none =>
          simp only [hsh] at hk ⊢
          refine ⟨hk.1, ?_⟩
          have hk := hk.2
          cases ho : o.op <;> simp only [ho] at hk ⊢
          case call f xs =>
            obtain ⟨h1, v, hv, δ, hδ, hK⟩ := hk
            exact ⟨h1, v, hv, δ, hδ, wpDraw_mono (fun _ _ => h _ _) hK⟩
          case callV q xs =>
            obtain ⟨f, first, captured, hev, h1, v, hv, δ, hδ, hK⟩ := hk
            exact ⟨f, first, captured, hev, h1, v, hv, δ, hδ, wpDraw_mono (fun _ _ => h _ _) hK⟩
          all_goals
            obtain ⟨δ, hδ, hK⟩ := hk
            exact ⟨δ, hδ, wpDraw_mono (fun _ _ => h _ _) hK⟩
theorem wpLoop_mono {W : St → (Ex → St → Prop) → Prop} (hW : ∀ (st : St) (Q Q' : Ex → St → Prop), (∀ e s, Q e s → Q' e s) → W st Q → W st Q') : ∀ {n : Nat} {st : St} {Q Q' : Ex → St → Prop}, (∀ e s, Q e s → Q' e s) → wpLoop W n st Q → wpLoop W n st Q'
  | 0, _, _, _, _, h => h
  | n + 1, st, Q, Q', h, hk => hW st _ _ (fun e s he => by
    cases e
    · exact wpLoop_mono (W := W) hW h he
    · exact h _ _ he
    · exact h _ _ he) hk
theorem wpC_mono : ∀ {c : C} {st : St} {Q Q' : Ex → St → Prop}, (∀ e s, Q e s → Q' e s) → wpC E Yf c st Q → wpC E Yf c st Q' := by
  intro c
  induction c with
  | skip => intro st Q Q' h hk; exact h _ _ hk
  | ret => intro st Q Q' h hk; exact h _ _ hk
  | exit id => intro st Q Q' h hk; exact h _ _ hk
  | stuck => intro st Q Q' h hk; exact hk
  | rangeFunc f ps a b => intro st Q Q' h hk; obtain ⟨n, l, h1, h2, h3⟩ := hk; exact ⟨n, l, h1, h2, fun x hx => h _ _ (h3 x hx)⟩
  | region ops => intro st Q Q' h hk; exact wpOps_mono (fun s => h _ s) hk
  | draw ops free => intro st Q Q' h hk; exact wpDraw_mono (fun f s hs => ⟨hs.1, hs.2.1, h _ _ hs.2.2⟩) hk
  | pin o fs => intro st Q Q' h hk; exact wpStep_mono (fun s u hs => wpDraw_mono (fun f s hs => ⟨hs.1, h _ _ hs.2⟩) hs) hk
  | seq a b iha ihb =>
    intro st Q Q' h hk
    refine iha (fun e s he => ?_) hk
    cases e
    · exact ihb h he
    · exact h _ _ he
    · exact h _ _ he
  | cond q a b iha ihb =>
    intro st Q Q' h hk
    obtain ⟨t, ht, h1, h2⟩ := hk
    exact ⟨t, ht, fun e => iha h (h1 e), fun e => ihb h (h2 e)⟩
  | block id a ih =>
    intro st Q Q' h hk
    refine ih (fun e s he => ?_) hk
    cases e
    · exact h _ _ he
    · simp only at he ⊢
      split at he
      · rename_i hi; simp only [hi, if_true]; exact h _ _ he
      · rename_i hi; simp only [hi, if_false]; exact h _ _ he
    · exact h _ _ he
  | loop a ih =>
    intro st Q Q' h hk
    obtain ⟨N, hk⟩ := hk
    exact ⟨N, wpLoop_mono (W := wpC E Yf a) (fun _ _ _ h hk => ih h hk) h hk⟩
/-- A loop, by what is so at the head of each round, with so many rounds left at most. -/
theorem wp_loop {a : C} {Q : Ex → St → Prop} (I : Nat → St → Prop) {n : Nat} {st : St} (h0 : I n st)
    (hs : ∀ k s, I k s → wpC E Yf a s fun e s' => match e with | .nrm => ∃ j, j < k ∧ I j s' | e => Q e s') : wpC E Yf (.loop a) st Q := by
  refine ⟨n + 1, ?_⟩
  have key : ∀ n st j, j ≤ n → I j st → wpLoop (wpC E Yf a) (n + 1) st Q := by
    intro n
    induction n with
    | zero =>
      intro st j hj hI
      refine wpC_mono (fun e s he => ?_) (hs j st hI)
      cases e
      · obtain ⟨i, hi, _⟩ := he; omega
      · exact he
      · exact he
    | succ n ih =>
      intro st j hj hI
      refine wpC_mono (fun e s he => ?_) (hs j st hI)
      cases e
      · obtain ⟨i, hi, hI'⟩ := he
        exact ih s i (by omega) hI'
      · exact he
      · exact he
  exact key n st n (Nat.le_refl _) h0
end
/-- An operation under a guard. -/
def wpGuard : V → Bool → Prop → Prop → Prop
  | .bool c, b, p, q => (c = b → p) ∧ (c = !b → q)
  | .tup [], _, _, q => q
  | _, _, _, _ => False
def wpIf : V → Prop → Prop → Prop
  | .bool c, p, q => (c = true → p) ∧ (c = false → q)
  | _, _, _ => False
def wpV (o : Option V) (k : V → Prop) : Prop := ∃ v, o = some v ∧ k v
def wpD (o : Option Delta) (k : Delta → Prop) : Prop := ∃ v, o = some v ∧ k v
theorem wpGuard_bool (c b : Bool) (p q : Prop) : wpGuard (.bool c) b p q = ((c = b → p) ∧ (c = !b → q)) := rfl
theorem wpGuard_tup (b : Bool) (p q : Prop) : wpGuard (.tup []) b p q = q := rfl
theorem wpIf_bool (c : Bool) (p q : Prop) : wpIf (.bool c) p q = ((c = true → p) ∧ (c = false → q)) := rfl
theorem wpV_some (v : V) (k : V → Prop) : wpV (some v) k = k v := by simp [wpV]
theorem wpV_none (k : V → Prop) : wpV none k = False := by simp [wpV]
theorem wpV_ite (c : Prop) [Decidable c] (o : Option V) (k : V → Prop) : wpV (if c then o else none) k = (c ∧ wpV o k) := by by_cases h : c <;> simp [h, wpV]
theorem wpV_ite' (c : Prop) [Decidable c] (o : Option V) (k : V → Prop) : wpV (if c then none else o) k = (¬ c ∧ wpV o k) := by by_cases h : c <;> simp [h, wpV]
theorem wpD_some (v : Delta) (k : Delta → Prop) : wpD (some v) k = k v := by simp [wpD]
theorem wpD_none (k : Delta → Prop) : wpD none k = False := by simp [wpD]
theorem wpD_ite (c : Prop) [Decidable c] (o : Option Delta) (k : Delta → Prop) : wpD (if c then o else none) k = (c ∧ wpD o k) := by by_cases h : c <;> simp [h, wpD]
theorem wpD_ite' (c : Prop) [Decidable c] (o : Option Delta) (k : Delta → Prop) : wpD (if c then none else o) k = (¬ c ∧ wpD o k) := by by_cases h : c <;> simp [h, wpD]
/-- What is behind an operation that answers a value. -/
def St.setT (st : St) (d : Option Nat) (v : V) : St := { st with tm := put st.tm d v }
theorem app_v (st : St) (d : Option Nat) (v : V) : st.app d { v := v } = st.setT d v := by simp [St.app, setObs, setToks, St.setT]
theorem setT_tm (st : St) (d n : Nat) (v : V) : (st.setT (some d) v).tm n = if n = d then v else st.tm n := by simp [St.setT, put, upd_apply]
theorem setT_tm0 (st : St) (n : Nat) (v : V) : (st.setT none v).tm n = st.tm n := rfl
theorem setT_ob (st : St) (d : Option Nat) (v : V) : (st.setT d v).ob = st.ob := rfl
theorem setT_tk (st : St) (d : Option Nat) (v : V) : (st.setT d v).tk = st.tk := rfl
theorem setT_ro (st : St) (d : Option Nat) (v : V) : (st.setT d v).ro = st.ro := rfl
theorem setT_nx (st : St) (d : Option Nat) (v : V) : (st.setT d v).nx = st.nx := rfl
theorem setT_fb (st : St) (d : Option Nat) (v : V) : (st.setT d v).fb = st.fb := rfl
theorem setT_df (st : St) (d : Option Nat) (v : V) : (st.setT d v).df = st.df := rfl
def St.setN (st : St) (n : Nat) : St := { st with nx := n }
theorem setN_tm (st : St) (n : Nat) : (st.setN n).tm = st.tm := rfl
theorem setN_ob (st : St) (n : Nat) : (st.setN n).ob = st.ob := rfl
theorem setN_tk (st : St) (n : Nat) : (st.setN n).tk = st.tk := rfl
theorem setN_ro (st : St) (n : Nat) : (st.setN n).ro = st.ro := rfl
theorem setN_nx (st : St) (n : Nat) : (st.setN n).nx = n := rfl
theorem setN_fb (st : St) (n : Nat) : (st.setN n).fb = st.fb := rfl
theorem setN_df (st : St) (n : Nat) : (st.setN n).df = st.df := rfl
theorem app_tm (st : St) (d n : Nat) (δ : Delta) : (st.app (some d) δ).tm n = if n = d then δ.v else st.tm n := by simp [St.app, put, upd_apply]
theorem app_tm0 (st : St) (n : Nat) (δ : Delta) : (st.app none δ).tm n = st.tm n := rfl
theorem app_ro (st : St) (d : Option Nat) (δ : Delta) : (st.app d δ).ro = st.ro := rfl
theorem app_nx (st : St) (d : Option Nat) (δ : Delta) : (st.app d δ).nx = st.nx := rfl
theorem app_fb (st : St) (d : Option Nat) (δ : Delta) : (st.app d δ).fb = st.fb := rfl
theorem app_df (st : St) (d : Option Nat) (δ : Delta) : (st.app d δ).df = st.df := rfl
theorem app_ob (st : St) (d : Option Nat) (v : V) (del : Option Nat) (add : List Nat) : (st.app d { v := v, del := del, add := add }).ob = st.ob := by simp [St.app, setObs]
theorem app_tk (st : St) (d : Option Nat) (δ : Delta) (u : Nat) : (st.app d δ).tk u = if u ∈ δ.add then true else if u ∈ δ.del.toList then false else st.tk u := by simp only [St.app, setToks_one]
theorem app_ob1 (st : St) (d : Option Nat) (v : V) (l k : Nat) (o : Obj') (add : List Nat) : (st.app d { v := v, obs := [(l, o)], add := add }).ob k = if k = l then some o else st.ob k := by simp [St.app, setObs, upd_apply]
theorem start_tm (args : List V) (n : Nat) : (start args).tm n = args.getD n none' := rfl
theorem start_ob (args : List V) (n : Nat) : (start args).ob n = none := rfl
theorem start_tk (args : List V) (n : Nat) : (start args).tk n = false := rfl
theorem start_ro (args : List V) : (start args).ro = 0 := rfl
theorem start_nx (args : List V) : (start args).nx = 0 := rfl
theorem start_fb (args : List V) : (start args).fb = 0 := rfl
theorem start_df (args : List V) : (start args).df = [] := rfl
theorem eval_t (E : Env) (tm : Nat → V) (n : Nat) : eval E tm (.t n) = tm n := rfl
theorem eval_c (E : Env) (tm : Nat → V) (v : V) : eval E tm (.c v) = v := rfl
def pickV : V → V → V → Option V
  | .bool t, a, b => some (cond t a b)
  | _, _, _ => none
theorem pickV_bool (t : Bool) (a b : V) : pickV (.bool t) a b = some (cond t a b) := rfl
def loadV (ob : Nat → Option Obj') (g : Option Nat) : V → Option V
  | .eptr cs off => pick1 g cs off
  | .ptr l u off => (objCells ob l u).bind fun cs => pick1 g cs off
  | _ => none
theorem loadV_e (ob : Nat → Option Obj') (g : Option Nat) (cs : List V) (off : Nat) : loadV ob g (.eptr cs off) = pick1 g cs off := rfl
theorem loadV_p (ob : Nat → Option Obj') (g : Option Nat) (l u off : Nat) : loadV ob g (.ptr l u off) = (objCells ob l u).bind fun cs => pick1 g cs off := rfl
def nilCheckV : V → Option V
  | .ptr l u o => some (.ptr l u o)
  | .eptr cs o => some (.eptr cs o)
  | .fn (.func f) a b => some (.fn (.func f) a b)
  | _ => none
def fieldAddrV (off : Nat) : V → Option V
  | .ptr l u o => some (.ptr l u (o + off))
  | .eptr cs o => some (.eptr cs (o + off))
  | _ => none
def idxSlV (sz : Nat) : V → V → Option V
  | .sl _ _ n cs, .int _ i => if 0 ≤ i ∧ i < n ∧ cs.length = n * sz then some (.eptr cs (i.toNat * sz)) else none
  | .osl l u off n sz', .int _ i => if 0 ≤ i ∧ i < n ∧ sz' = sz then some (.ptr l u (off + i.toNat * sz)) else none
  | _, _ => none
def idxArrV (len sz : Nat) : V → V → Option V
  | .ptr l u off, .int _ i => if 0 ≤ i ∧ i < len then some (.ptr l u (off + i.toNat * sz)) else none
  | .eptr cs off, .int _ i => if 0 ≤ i ∧ i < len then some (.eptr cs (off + i.toNat * sz)) else none
  | _, _ => none
def partV (g : Option Nat) (off : Nat) : V → Option V
  | .agg cs => pick1 g cs off
  | _ => none
def idxStrV : V → V → Option V
  | .str s, .int _ i => if 0 ≤ i then (s[i.toNat]?).map fun b => .int .u8 b.toNat else none
  | _, _ => none
def idxValV (g : Option Nat) (len sz : Nat) : V → V → Option V
  | .agg cs, .int _ i => if 0 ≤ i ∧ i < len then pick1 g cs (i.toNat * sz) else none
  | _, _ => none
def slStrV (lo hi : Option V) : V → Option V
  | .str s => (bounds s.length s.length lo hi).map fun (l, h) => .str ((s.take h).drop l)
  | _ => none
def slSlV (sz : Nat) (lo hi : Option V) : V → Option V
  | .sl _ nl n cs => if cs.length = n * sz then (bounds n n lo hi).map fun (l, h) => .sl none nl (h - l) ((cs.take (h * sz)).drop (l * sz)) else none
  | .osl a u off n sz' => if sz' = sz then (bounds n n lo hi).map fun (l, h) => .osl a u (off + l * sz) (h - l) sz else none
  | _ => none
def lenStrV : V → Option V
  | .str s => some (.int .i64 s.length)
  | _ => none
def lenSlV : V → Option V
  | .sl _ _ n _ => some (.int .i64 n)
  | .osl _ _ _ n _ => some (.int .i64 n)
  | _ => none
def lenMapV (ob : Nat → Option Obj') : V → Option V
  | .nilmap => some (.int .i64 0)
  | .map l u => (objMap ob l u).map fun es => .int .i64 es.length
  | _ => none
def extractV (i : Nat) : V → Option V
  | .tup vs => vs[i]?
  | _ => none
def convV (k : IntKind) : V → Option V
  | .int _ n => some (.int k (k.wrap n))
  | _ => none
def minmaxV (isMax : Bool) : List V → Option V
  | [] => none
  | x :: r => minmaxL isMax x r
def eqVV (ob : Nat → Option Obj') (neg : Bool) (k : EqK) (x y : V) : Option V :=
  match k, x, y with
  | .ptr, .ptr l u off, .ptr l' u' off' => if (objCells ob l u).isSome && (objCells ob l' u').isSome then some (.bool (xor neg (Nat.beq l l' && Nat.beq off off'))) else none
  | k, a, b => (eqV k a b).map fun b => .bool (xor neg b)
def lookupV (ob : Nat → Option Obj') (q : LK) (zero : V) (ok : Bool) (m k : V) : Option V :=
  if isKey q k then match m with
    | .nilmap => some (if ok then .tup [zero, .bool false] else zero)
    | .map l u => (objMap ob l u).bind fun es => (findKey q k es).map fun r => match r with
      | some (_, v) => if ok then .tup [v, .bool true] else v
      | none => if ok then .tup [zero, .bool false] else zero
    | _ => none else none
section
variable {E : Env} {Yf : YF} {st : St} {ub : Nat} {K : St → Nat → Prop} {d : Option Nat} {nm : Bool}
theorem wpC_skip {Q : Ex → St → Prop} : wpC E Yf .skip st Q = Q .nrm st := rfl
theorem wpC_ret {Q : Ex → St → Prop} : wpC E Yf .ret st Q = Q .ret st := rfl
theorem wpC_exit {i : Nat} {Q : Ex → St → Prop} : wpC E Yf (.exit i) st Q = Q (.exit i) st := rfl
theorem wpC_region {ops : List AOpr} {Q : Ex → St → Prop} : wpC E Yf (.region ops) st Q = wpOps' E Yf ops st st.nx fun s => Q .nrm s := rfl
theorem wpC_seq {a b : C} {Q : Ex → St → Prop} : wpC E Yf (.seq a b) st Q = wpC E Yf a st fun e s => match e with
    | .nrm => wpC E Yf b s Q
    | e => Q e s := rfl
theorem wpC_cond {c : A} {a b : C} {Q : Ex → St → Prop} : wpC E Yf (.cond c a b) st Q = wpIf (eval E st.tm c) (wpC E Yf a st Q) (wpC E Yf b st Q) := by
  simp only [wpC]
  cases h : eval E st.tm c <;> simp [wpIf]
theorem wpC_block {i : Nat} {a : C} {Q : Ex → St → Prop} : wpC E Yf (.block i a) st Q = wpC E Yf a st fun e s => match e with
    | .exit j => if j = i then Q .nrm s else Q (.exit j) s
    | e => Q e s := rfl
theorem wpOps_nil {K : St → Prop} : wpOps' E Yf [] st ub K = K (st.setN ub) := rfl
theorem wpOps_cons {o : AOpr} {r : List AOpr} {K : St → Prop} : wpOps' E Yf (o :: r) st ub K = wpStep E Yf o st ub fun st ub => wpOps' E Yf r st ub K := rfl
theorem wpStep_guard {op : AOp} {t : Nat} {b : Bool} : wpStep E Yf ⟨d, op, some (t, b), nm⟩ st ub K = wpGuard (st.tm t) b (wpStep E Yf ⟨d, op, none, nm⟩ st ub K) (K (st.setT d none') ub) := by
  have hn : AOpr.name ⟨d, op, some (t, b), nm⟩ = AOpr.name ⟨d, op, none, nm⟩ := rfl
  unfold wpStep
  simp only [wanted, hn]
  cases h : st.tm t with
  | bool c =>
    simp only [wpGuard]
    cases c <;> cases b <;> simp [St.setT]
  | tup l => cases l <;> simp [wpGuard, St.setT]
  | _ => simp [wpGuard]
theorem wpStep_of (op : AOp) (h : op.isCall = false) (h2 : op.isNext = false) : wpStep E Yf ⟨d, op, none, nm⟩ st ub K = wpD (aop (fun _ _ => none) (eval E st.tm) st.ob st.tk st.ro (AOpr.name ⟨d, op, none, nm⟩ st.fb ub) ub op) fun δ => K (st.app d δ) (ub + 64) := by
  cases op <;> first | cases h; done | cases h2; done | simp only [wpStep, wanted, yieldCall, sharedCall, wpD]
theorem wpD_one (v : V) (k : Delta → Prop) : wpD (one v) k = k { v := v } := by simp [one, wpD]
theorem wpD_bind (o : Option V) (k : Delta → Prop) : wpD (o.bind one) k = wpV o fun v => k { v := v } := by cases o <;> simp [wpD, wpV, one]
theorem wpS_mov {x : A} : wpStep E Yf ⟨d, .mov x, none, nm⟩ st ub K = K (st.setT d (eval E st.tm x)) (ub + 64) := by rw [wpStep_of _ rfl rfl]; simp only [aop, wpD_one, app_v]
theorem wpS_pick {c a b : A} : wpStep E Yf ⟨d, .pick c a b, none, nm⟩ st ub K = wpV (pickV (eval E st.tm c) (eval E st.tm a) (eval E st.tm b)) fun v => K (st.setT d v) (ub + 64) := by
  rw [wpStep_of _ rfl rfl]; simp only [aop]; cases eval E st.tm c <;> simp only [pickV, wpD_one, wpV_some, wpV_none, wpD_none, app_v]
theorem wpS_bin {op : BinOp} {x y : A} : wpStep E Yf ⟨d, .bin op x y, none, nm⟩ st ub K = wpV (binV op (eval E st.tm x) (eval E st.tm y)) fun v => K (st.setT d v) (ub + 64) := by
  rw [wpStep_of _ rfl rfl]; simp only [aop, wpD_bind, app_v]
theorem wpS_un {op : UnOp} {x : A} : wpStep E Yf ⟨d, .un op x, none, nm⟩ st ub K = wpV (unV op (eval E st.tm x)) fun v => K (st.setT d v) (ub + 64) := by
  rw [wpStep_of _ rfl rfl]; simp only [aop, wpD_bind, app_v]
theorem bind_map_one {α : Type} (o : Option α) (f : α → V) : (o.bind fun x => one (f x)) = (o.map f).bind one := by cases o <;> rfl
theorem ite_bind_one (c : Prop) [Decidable c] (v : Option V) : (if c then v.bind one else none) = (if c then v else none).bind one := by split <;> rfl
theorem ite_one (c : Prop) [Decidable c] (v : V) : (if c then one v else none) = (if c then some v else none).bind one := by split <;> rfl
theorem ite_bind_map {α : Type} (c : Prop) [Decidable c] (o : Option α) (f : α → V) : (if c then o.bind fun x => one (f x) else none) = (if c then o.map f else none).bind one := by split; exact bind_map_one _ _; rfl
theorem wpS_val {op : AOp} {o : Option V} (h : op.isCall = false) (h2 : op.isNext = false) (ha : ∀ du, aop (fun _ _ => none) (eval E st.tm) st.ob st.tk st.ro du ub op = o.bind one) : wpStep E Yf ⟨d, op, none, nm⟩ st ub K = wpV o fun v => K (st.setT d v) (ub + 64) := by
  rw [wpStep_of _ h h2, ha, wpD_bind]
  simp only [app_v]
theorem wpS_eq {neg : Bool} {k : EqK} {x y : A} : wpStep E Yf ⟨d, .eq neg k x y, none, nm⟩ st ub K = wpV (eqVV st.ob neg k (eval E st.tm x) (eval E st.tm y)) fun v => K (st.setT d v) (ub + 64) := by
  refine wpS_val rfl rfl fun du => ?_
  simp only [aop, eqVV]
  generalize eval E st.tm x = vx
  generalize eval E st.tm y = vy
  cases k <;> first | rfl | exact bind_map_one _ _ | (cases vx <;> first | rfl | exact bind_map_one _ _ | (cases vy <;> (first | rfl | exact ite_one _ _ | exact ite_bind_one _ _ | exact bind_map_one _ _ | exact (Option.bind_assoc ..).symm)))
theorem wpS_load {g : Option Nat} {x : A} : wpStep E Yf ⟨d, .load g x, none, nm⟩ st ub K = wpV (loadV st.ob g (eval E st.tm x)) fun v => K (st.setT d v) (ub + 64) := by
  refine wpS_val rfl rfl fun du => ?_
  simp only [aop, loadV]
  generalize eval E st.tm x = vx
  cases vx <;> (first | rfl | exact ite_one _ _ | exact ite_bind_one _ _ | exact bind_map_one _ _ | exact (Option.bind_assoc ..).symm)
theorem wpS_nilCheck {x : A} : wpStep E Yf ⟨d, .nilCheck x, none, nm⟩ st ub K = wpV (nilCheckV (eval E st.tm x)) fun v => K (st.setT d v) (ub + 64) := by
  refine wpS_val rfl rfl fun du => ?_
  simp only [aop, nilCheckV]
  generalize eval E st.tm x = vx
  cases vx <;> (first | rfl | exact ite_one _ _ | exact ite_bind_one _ _ | exact bind_map_one _ _ | exact (Option.bind_assoc ..).symm | (rename_i f _ _; cases f <;> rfl) | exact ite_bind_map _ _ _)
theorem wpS_fieldAddr {off : Nat} {x : A} : wpStep E Yf ⟨d, .fieldAddr off x, none, nm⟩ st ub K = wpV (fieldAddrV off (eval E st.tm x)) fun v => K (st.setT d v) (ub + 64) := by
  refine wpS_val rfl rfl fun du => ?_
  simp only [aop, fieldAddrV]
  generalize eval E st.tm x = vx
  cases vx <;> (first | rfl | exact ite_one _ _ | exact ite_bind_one _ _ | exact bind_map_one _ _ | exact (Option.bind_assoc ..).symm)
theorem wpS_idxSl {sz : Nat} {x i : A} : wpStep E Yf ⟨d, .idxSl sz x i, none, nm⟩ st ub K = wpV (idxSlV sz (eval E st.tm x) (eval E st.tm i)) fun v => K (st.setT d v) (ub + 64) := by
  refine wpS_val rfl rfl fun du => ?_
  simp only [aop, idxSlV]
  generalize eval E st.tm x = vx
  generalize eval E st.tm i = vi
  cases vx <;> first | rfl | (cases vi <;> (first | rfl | exact ite_one _ _ | exact ite_bind_one _ _ | exact bind_map_one _ _ | exact (Option.bind_assoc ..).symm))
theorem wpS_idxArr {len sz : Nat} {x i : A} : wpStep E Yf ⟨d, .idxArr len sz x i, none, nm⟩ st ub K = wpV (idxArrV len sz (eval E st.tm x) (eval E st.tm i)) fun v => K (st.setT d v) (ub + 64) := by
  refine wpS_val rfl rfl fun du => ?_
  simp only [aop, idxArrV]
  generalize eval E st.tm x = vx
  generalize eval E st.tm i = vi
  cases vx <;> first | rfl | (cases vi <;> (first | rfl | exact ite_one _ _ | exact ite_bind_one _ _ | exact bind_map_one _ _ | exact (Option.bind_assoc ..).symm))
theorem wpS_part {g : Option Nat} {off : Nat} {x : A} : wpStep E Yf ⟨d, .part g off x, none, nm⟩ st ub K = wpV (partV g off (eval E st.tm x)) fun v => K (st.setT d v) (ub + 64) := by
  refine wpS_val rfl rfl fun du => ?_
  simp only [aop, partV]
  generalize eval E st.tm x = vx
  cases vx <;> (first | rfl | exact ite_one _ _ | exact ite_bind_one _ _ | exact bind_map_one _ _ | exact (Option.bind_assoc ..).symm)
theorem wpS_idxStr {x i : A} : wpStep E Yf ⟨d, .idxStr x i, none, nm⟩ st ub K = wpV (idxStrV (eval E st.tm x) (eval E st.tm i)) fun v => K (st.setT d v) (ub + 64) := by
  refine wpS_val rfl rfl fun du => ?_
  simp only [aop, idxStrV]
  generalize eval E st.tm x = vx
  generalize eval E st.tm i = vi
  cases vx <;> first | rfl | (cases vi <;> (first | rfl | exact ite_one _ _ | exact ite_bind_one _ _ | exact bind_map_one _ _ | exact (Option.bind_assoc ..).symm | (rename_i f _ _; cases f <;> rfl) | exact ite_bind_map _ _ _))
theorem wpS_idxVal {g : Option Nat} {len sz : Nat} {x i : A} : wpStep E Yf ⟨d, .idxVal g len sz x i, none, nm⟩ st ub K = wpV (idxValV g len sz (eval E st.tm x) (eval E st.tm i)) fun v => K (st.setT d v) (ub + 64) := by
  refine wpS_val rfl rfl fun du => ?_
  simp only [aop, idxValV]
  generalize eval E st.tm x = vx
  generalize eval E st.tm i = vi
  cases vx <;> first | rfl | (cases vi <;> (first | rfl | exact ite_one _ _ | exact ite_bind_one _ _ | exact bind_map_one _ _ | exact (Option.bind_assoc ..).symm))
theorem wpS_slStr {x : A} {lo hi : Option A} : wpStep E Yf ⟨d, .slStr x lo hi, none, nm⟩ st ub K = wpV (slStrV (lo.map (eval E st.tm)) (hi.map (eval E st.tm)) (eval E st.tm x)) fun v => K (st.setT d v) (ub + 64) := by
  refine wpS_val rfl rfl fun du => ?_
  simp only [aop, slStrV]
  generalize eval E st.tm x = vx
  cases vx <;> (first | rfl | exact ite_one _ _ | exact ite_bind_one _ _ | exact bind_map_one _ _ | exact (Option.bind_assoc ..).symm)
theorem wpS_slSl {sz : Nat} {x : A} {lo hi : Option A} : wpStep E Yf ⟨d, .slSl sz x lo hi, none, nm⟩ st ub K = wpV (slSlV sz (lo.map (eval E st.tm)) (hi.map (eval E st.tm)) (eval E st.tm x)) fun v => K (st.setT d v) (ub + 64) := by
  refine wpS_val rfl rfl fun du => ?_
  simp only [aop, slSlV]
  generalize eval E st.tm x = vx
  cases vx <;> (first | rfl | exact ite_one _ _ | exact ite_bind_one _ _ | exact bind_map_one _ _ | exact (Option.bind_assoc ..).symm | (rename_i f _ _; cases f <;> rfl) | exact ite_bind_map _ _ _)
theorem wpS_lenStr {x : A} : wpStep E Yf ⟨d, .lenStr x, none, nm⟩ st ub K = wpV (lenStrV (eval E st.tm x)) fun v => K (st.setT d v) (ub + 64) := by
  refine wpS_val rfl rfl fun du => ?_
  simp only [aop, lenStrV]
  generalize eval E st.tm x = vx
  cases vx <;> (first | rfl | exact ite_one _ _ | exact ite_bind_one _ _ | exact bind_map_one _ _ | exact (Option.bind_assoc ..).symm)
theorem wpS_lenSl {x : A} : wpStep E Yf ⟨d, .lenSl x, none, nm⟩ st ub K = wpV (lenSlV (eval E st.tm x)) fun v => K (st.setT d v) (ub + 64) := by
  refine wpS_val rfl rfl fun du => ?_
  simp only [aop, lenSlV]
  generalize eval E st.tm x = vx
  cases vx <;> (first | rfl | exact ite_one _ _ | exact ite_bind_one _ _ | exact bind_map_one _ _ | exact (Option.bind_assoc ..).symm)
theorem wpS_lenMap {x : A} : wpStep E Yf ⟨d, .lenMap x, none, nm⟩ st ub K = wpV (lenMapV st.ob (eval E st.tm x)) fun v => K (st.setT d v) (ub + 64) := by
  refine wpS_val rfl rfl fun du => ?_
  simp only [aop, lenMapV]
  generalize eval E st.tm x = vx
  cases vx <;> (first | rfl | exact ite_one _ _ | exact ite_bind_one _ _ | exact bind_map_one _ _ | exact (Option.bind_assoc ..).symm)
theorem wpS_extract {x : A} {i : Nat} : wpStep E Yf ⟨d, .extract x i, none, nm⟩ st ub K = wpV (extractV i (eval E st.tm x)) fun v => K (st.setT d v) (ub + 64) := by
  refine wpS_val rfl rfl fun du => ?_
  simp only [aop, extractV]
  generalize eval E st.tm x = vx
  cases vx <;> (first | rfl | exact ite_one _ _ | exact ite_bind_one _ _ | exact bind_map_one _ _ | exact (Option.bind_assoc ..).symm)
theorem wpS_conv {k : IntKind} {x : A} : wpStep E Yf ⟨d, .conv k x, none, nm⟩ st ub K = wpV (convV k (eval E st.tm x)) fun v => K (st.setT d v) (ub + 64) := by
  refine wpS_val rfl rfl fun du => ?_
  simp only [aop, convV]
  generalize eval E st.tm x = vx
  cases vx <;> (first | rfl | exact ite_one _ _ | exact ite_bind_one _ _ | exact bind_map_one _ _ | exact (Option.bind_assoc ..).symm)
theorem wpS_minmax {b : Bool} {xs : List A} : wpStep E Yf ⟨d, .minmax b xs, none, nm⟩ st ub K = wpV (minmaxV b (xs.map (eval E st.tm))) fun v => K (st.setT d v) (ub + 64) := by
  refine wpS_val rfl rfl fun du => ?_
  simp only [aop, minmaxV]
  generalize xs.map (eval E st.tm) = vxs
  cases vxs <;> (first | rfl | exact ite_one _ _ | exact ite_bind_one _ _ | exact bind_map_one _ _ | exact (Option.bind_assoc ..).symm)
theorem wpS_mkFn {f : Fn} {a b : List A} : wpStep E Yf ⟨d, .mkFn f a b, none, nm⟩ st ub K = K (st.setT d (.fn f (a.map (eval E st.tm)) (b.map (eval E st.tm)))) (ub + 64) := by rw [wpStep_of _ rfl rfl]; simp only [aop, wpD_one, app_v]
theorem wpS_build {z : List V} {ps : List (Nat × Nat × A)} : wpStep E Yf ⟨d, .build z ps, none, nm⟩ st ub K = wpV ((fill z (evalParts (eval E st.tm) ps)).map .agg) fun v => K (st.setT d v) (ub + 64) := by
  rw [wpStep_of _ rfl rfl]; simp only [aop, bind_map_one, wpD_bind, app_v]
theorem wpS_lookup {q : LK} {z : V} {ok : Bool} {m k : A} : wpStep E Yf ⟨d, .lookup q z ok m k, none, nm⟩ st ub K = wpV (lookupV st.ob q z ok (eval E st.tm m) (eval E st.tm k)) fun v => K (st.setT d v) (ub + 64) := by
  refine wpS_val rfl rfl fun du => ?_
  simp only [aop, lookupV]
  generalize eval E st.tm m = vm
  generalize eval E st.tm k = vk
  cases isKey q vk with
  | false => rfl
  | true =>
    simp only [if_true]
    cases vm <;> first | rfl | skip
    rename_i l u
    simp only
    cases objMap st.ob l u with
    | none => rfl
    | some es =>
      simp only [Option.bind_some]
      cases findKey q vk es with
      | none => rfl
      | some r => cases r <;> rfl
/-- A call of a function that shares nothing, on what is handed over. -/
def pureArgs (E : Env) (nm : Bool) (f : FuncId) (vs : List V) : Prop := E.sh nm f = false ∧ (vs.all fun v => v.strip.pureTop) = true
theorem all_map_strip (vs : List V) : (vs.map V.strip).all V.pureTop = vs.all fun v => v.strip.pureTop := by rw [List.all_map]; rfl
theorem wpS_call {f : FuncId} {xs : List A} (h : pureArgs E nm f (xs.map (eval E st.tm)) ∧ ∃ v, Ev E f ((xs.map (eval E st.tm)).map V.strip) v ∧ wpD (retA ub v) fun δ => K (st.app d δ) (ub + 64)) : wpStep E Yf ⟨d, .call f xs, none, nm⟩ st ub K := by
  obtain ⟨⟨h1, h2⟩, v, hv, δ, hδ, hK⟩ := h
  have hp : (xs.all fun x => (eval E st.tm x).strip.pureTop) = true := by rw [List.all_map] at h2; exact h2
  have hs : sharedCall E nm (eval E st.tm) (.call f xs) = none := by simp only [sharedCall, h1, hp, Bool.not_false, Bool.and_self, if_true]
  simp only [wpStep, wanted, yieldCall, hs, wpCall]
  refine ⟨by rw [List.all_map]; exact hp, v, ?_, δ, hδ, hK⟩
  rw [List.map_map] at hv
  exact hv
theorem wpS_callV {q : A} {xs : List A} {f : FuncId} {first captured : List V} (hq : eval E st.tm q = .fn (.func f) first captured)
    (h : pureArgs E nm f (first ++ xs.map (eval E st.tm) ++ captured) ∧ ∃ v, Ev E f ((first ++ xs.map (eval E st.tm) ++ captured).map V.strip) v ∧ wpD (retA ub v) fun δ => K (st.app d δ) (ub + 64)) : wpStep E Yf ⟨d, .callV q xs, none, nm⟩ st ub K := by
  obtain ⟨⟨h1, h2⟩, v, hv, δ, hδ, hK⟩ := h
  have hs : sharedCall E nm (eval E st.tm) (.callV q xs) = none := by simp only [sharedCall, hq, h1, h2, Bool.not_false, Bool.and_self, if_true]
  simp only [wpStep, wanted, yieldCall, hq, hs, wpCall]
  exact ⟨f, first, captured, rfl, by rw [all_map_strip]; exact h2, v, hv, δ, hδ, hK⟩
end
attribute [simp] setT_tm setT_tm0 setT_ob setT_tk setT_ro setT_nx setT_fb setT_df
  setN_tm setN_ob setN_tk setN_ro setN_nx setN_fb setN_df start_tm start_ob start_tk start_ro start_nx start_fb start_df eval_t eval_c pickV_bool loadV_e loadV_p wpV_some wpV_none wpD_some wpD_none app_v
theorem binV_int (op : BinOp) (k : IntKind) (a b : Int) (h : op ≠ .shl) (h' : op ≠ .shr) : binV op (.int k a) (.int k b) = intBin op k a b := by
  cases op <;> first | exact absurd rfl h | exact absurd rfl h' | simp [binV]
@[simp] theorem binV_add (k : IntKind) (a b : Int) : binV .add (.int k a) (.int k b) = some (.int k (k.wrap (a + b))) := by simp [binV, intBin]
@[simp] theorem binV_sub (k : IntKind) (a b : Int) : binV .sub (.int k a) (.int k b) = some (.int k (k.wrap (a - b))) := by simp [binV, intBin]
@[simp] theorem binV_mul (k : IntKind) (a b : Int) : binV .mul (.int k a) (.int k b) = some (.int k (k.wrap (a * b))) := by simp [binV, intBin]
@[simp] theorem binV_quo (k : IntKind) (a b : Int) : binV .quo (.int k a) (.int k b) = if b = 0 then none else some (.int k (k.wrap (a.tdiv b))) := by simp [binV, intBin]
@[simp] theorem binV_rem (k : IntKind) (a b : Int) : binV .rem (.int k a) (.int k b) = if b = 0 then none else some (.int k (a.tmod b)) := by simp [binV, intBin]
@[simp] theorem binV_lss (k : IntKind) (a b : Int) : binV .lss (.int k a) (.int k b) = some (.bool (decide (a < b))) := by simp [binV, intBin]
@[simp] theorem binV_leq (k : IntKind) (a b : Int) : binV .leq (.int k a) (.int k b) = some (.bool (decide (a ≤ b))) := by simp [binV, intBin]
@[simp] theorem binV_gtr (k : IntKind) (a b : Int) : binV .gtr (.int k a) (.int k b) = some (.bool (decide (b < a))) := by simp [binV, intBin]
@[simp] theorem binV_geq (k : IntKind) (a b : Int) : binV .geq (.int k a) (.int k b) = some (.bool (decide (b ≤ a))) := by simp [binV, intBin]
@[simp] theorem binV_eql (k : IntKind) (a b : Int) : binV .eql (.int k a) (.int k b) = some (.bool (a == b)) := by simp [binV, intBin]
@[simp] theorem binV_neq (k : IntKind) (a b : Int) : binV .neq (.int k a) (.int k b) = some (.bool (a != b)) := by simp [binV, intBin]
@[simp] theorem binV_seql (a b : List UInt8) : binV .eql (.str a) (.str b) = some (.bool (a == b)) := by simp [binV, strBin]
@[simp] theorem binV_sneq (a b : List UInt8) : binV .neq (.str a) (.str b) = some (.bool (!(a == b))) := by simp [binV, strBin]
@[simp] theorem unV_not (b : Bool) : unV .not (.bool b) = some (.bool (!b)) := rfl
@[simp] theorem lenSlV_sl (t : Option (Nat × Nat)) (b : Bool) (n : Nat) (cs : List V) : lenSlV (.sl t b n cs) = some (.int .i64 n) := rfl
@[simp] theorem lenSlV_osl (a b c n d : Nat) : lenSlV (.osl a b c n d) = some (.int .i64 n) := rfl
@[simp] theorem lenStrV_str (s : List UInt8) : lenStrV (.str s) = some (.int .i64 s.length) := rfl
@[simp] theorem idxSlV_sl (sz : Nat) (t : Option (Nat × Nat)) (b : Bool) (n : Nat) (cs : List V) (k : IntKind) (i : Int) : idxSlV sz (.sl t b n cs) (.int k i) = if 0 ≤ i ∧ i < n ∧ cs.length = n * sz then some (.eptr cs (i.toNat * sz)) else none := rfl
@[simp] theorem pick1_none (cs : List V) (off : Nat) : pick1 none cs off = cs[off]? := rfl
@[simp] theorem extractV_tup (i : Nat) (vs : List V) : extractV i (.tup vs) = vs[i]? := rfl
/-- A result that is a plain leaf is what it is. -/
def V.flat : V → Bool
  | .bool _ | .int .. | .str _ | .nilptr | .nilmap | .nilfn | .nilif => true
  | .sl t _ _ _ => t.isNone
  | _ => false
theorem outTop_flat {st : St} {keep : Bool} {i : Nat} {v : V} (h : v.flat = true) : outTop st keep i v = some v := by
  cases v with
  | sl t nl n cs => cases t with
    | none => rfl
    | some t => cases h
  | _ => first | rfl | cases h
theorem flat_toks {v : V} (h : v.flat = true) : v.toks = [] := by
  cases v with
  | sl t nl n cs => cases t with
    | none => rfl
    | some t => cases h
  | _ => first | rfl | cases h
theorem noDf_of {st : St} (h : st.df = []) : st.noDf = st := by unfold St.noDf; simp only [h]
theorem dfOk_of {st : St} (h : st.df = []) : dfOk st = true := by unfold dfOk; simp only [h]; rfl
theorem endV_1 {n : Nat} {st : St} {v : V} (hd : st.df = []) (h : st.tm n = v) (hf : v.flat = true) : endV [.t n] (.ret, st) = some v := by
  simp only [endV, dfOk_of hd, noDf_of hd, if_true, List.mapM_cons, List.mapM_nil, resOf, h]
  simp [outRes, outTops, outTop_flat hf, flat_toks hf, nodup]
theorem endV_2 {n m : Nat} {st : St} {v u : V} (hd : st.df = []) (h : st.tm n = v) (h' : st.tm m = u) (hf : v.flat = true) (hf' : u.flat = true) : endV [.t n, .t m] (.ret, st) = some (.tup [v, u]) := by
  simp only [endV, dfOk_of hd, noDf_of hd, if_true, List.mapM_cons, List.mapM_nil, resOf, h, h']
  simp [outRes, outTops, outTop_flat hf, outTop_flat hf', flat_toks hf, flat_toks hf', nodup]
@[simp] theorem retA_bool (ub : Nat) (b : Bool) : retA ub (.bool b) = some { v := .bool b } := rfl
@[simp] theorem retA_int (ub : Nat) (k : IntKind) (b : Int) : retA ub (.int k b) = some { v := .int k b } := rfl
@[simp] theorem retA_str (ub : Nat) (s : List UInt8) : retA ub (.str s) = some { v := .str s } := rfl
@[simp] theorem retA_int2 (ub : Nat) (k k' : IntKind) (b b' : Int) : retA ub (.tup [.int k b, .int k' b']) = some { v := .tup [.int k b, .int k' b'] } := rfl
@[simp] theorem retA_slnone (ub : Nat) (nl : Bool) (n : Nat) (cs : List V) : retA ub (.sl none nl n cs) = some { v := .sl none nl n cs } := rfl
/-- A call whose answer is known. -/
theorem wpS_callE {E : Env} {Yf : YF} {st : St} {ub : Nat} {K : St → Nat → Prop} {d : Option Nat} {nm : Bool} {f : FuncId} {xs : List A} {vs : List V} {v : V} (hx : xs.map (eval E st.tm) = vs) (hs : E.sh nm f = false) (hp : (vs.all fun v => v.strip.pureTop) = true)
    (hv : Ev E f (vs.map V.strip) v) (h : wpD (retA ub v) fun δ => K (st.app d δ) (ub + 64)) : wpStep E Yf ⟨d, .call f xs, none, nm⟩ st ub K :=
  wpS_call ⟨by rw [hx]; exact ⟨hs, hp⟩, v, by rw [hx]; exact hv, h⟩
/-- Code without a range over a map: one outcome. -/
def C.one : C → Bool
  | .region ops => ops.all fun o => o.op.next?.isNone
  | .pin o _ => o.op.next?.isNone
  | .seq a b | .cond _ a b => a.one && b.one
  | .block _ a | .loop a => a.one
  | _ => true
def Single {α : Type} (o : Option (List α)) : Prop := ∀ l, o = some l → ∃ x, l = [x]
theorem Single.bindL {α β : Type} {m : Option (List α)} {f : α → Option (List β)} (hm : Single m) (hf : ∀ a, Single (f a)) : Single (bindL m f) := by
  intro l h
  cases hm' : m with
  | none => rw [hm'] at h; cases h
  | some as =>
    obtain ⟨a, rfl⟩ := hm as hm'
    rw [hm'] at h
    exact hf a l h
theorem Single.map {α β : Type} {m : Option (List α)} {f : α → β} (hm : Single m) : Single (m.map fun l => l.map f) := by
  intro l h
  cases hm' : m with
  | none => rw [hm'] at h; cases h
  | some as =>
    obtain ⟨a, rfl⟩ := hm as hm'
    rw [hm'] at h
    cases h
    exact ⟨f a, rfl⟩
theorem Single.none {α : Type} : Single (none : Option (List α)) := fun _ h => by cases h
theorem Single.some {α : Type} (x : α) : Single (some [x]) := fun _ h => ⟨x, by cases h; rfl⟩
theorem Single.opt {α β : Type} {m : Option α} {f : α → β} : Single (m.map fun a => [f a]) := by
  intro l h
  cases m with
  | none => cases h
  | some a => cases h; exact ⟨f a, rfl⟩
section
variable {E : Env} {Yf : YF}
theorem step_one {call : Callers} (hc : ∀ f a ob tk ro b u, Single (call.s f a ob tk ro b u)) {o : AOpr} {st : St} {ub : Nat} (h : o.op.next?.isNone = true) : Single (step E call o st ub) := by
  have hn : o.op.next? = .none := by simpa using h
  unfold step
  split
  · split
    · exact Single.opt
    · split
      · split
        · exact Single.map (hc _ _ _ _ _ _ _)
        · exact Single.opt
      · rw [hn]
        exact Single.opt
  · exact Single.some _
  · exact Single.none
theorem opsR_one {call : Callers} (hc : ∀ f a ob tk ro b u, Single (call.s f a ob tk ro b u)) : ∀ {ops : List AOpr} {st : St} {ub : Nat}, (ops.all fun o => o.op.next?.isNone) = true → Single (opsR E call ops st ub)
  | [], _, _, _ => Single.some _
  | o :: r, st, ub, h => by
    simp only [List.all_cons, Bool.and_eq_true] at h
    exact Single.bindL (step_one hc h.1) fun x => opsR_one hc h.2
theorem loopL_one {body : St → Outs} (hb : ∀ st, Single (body st)) : ∀ (n : Nat) (st : St), Single (loopL body n st)
  | 0, _ => Single.none
  | n + 1, st => Single.bindL (hb st) fun x => by
    obtain ⟨e, s⟩ := x
    cases e
    · exact loopL_one hb n s
    · exact Single.some _
    · exact Single.some _
theorem codeL_one {call : Y → Callers} (hc : ∀ y f a ob tk ro b u, Single ((call y).s f a ob tk ro b u)) {y : Y} {N : Nat} : ∀ {c : C} {st : St}, c.one = true → Single (codeL E call y N c st) := by
  intro c
  induction c with
  | skip => intro st _; exact Single.some _
  | ret => intro st _; exact Single.some _
  | exit i => intro st _; exact Single.some _
  | stuck => intro st _; exact Single.none
  | region ops => intro st h; simp only [codeL]; exact Single.map (opsR_one (hc y) h)
  | pin o fs =>
    intro st h
    simp only [codeL]
    refine Single.bindL (step_one (hc y) h) fun x => ?_
    intro l h
    obtain ⟨p, _, h⟩ := bind_some h
    split at h
    · cases h; exact ⟨_, rfl⟩
    · cases h
  | draw ops free =>
    intro st _ l h
    simp only [codeL] at h
    cases hd : drawR E (call y) ops st st.nx with
    | none => rw [hd] at h; cases h
    | some p =>
      rw [hd, Option.bind_some] at h
      split at h
      · cases h; exact ⟨_, rfl⟩
      · cases h
  | seq a b iha ihb =>
    intro st h
    simp only [C.one, Bool.and_eq_true] at h
    simp only [codeL]
    refine Single.bindL (iha h.1) fun x => ?_
    obtain ⟨e, s⟩ := x
    cases e
    · exact ihb h.2
    · exact Single.some _
    · exact Single.some _
  | cond q a b iha ihb =>
    intro st h
    simp only [C.one, Bool.and_eq_true] at h
    simp only [codeL]
    split
    · exact iha h.1
    · exact ihb h.2
    · exact Single.none
  | block i a ih => intro st h; simp only [codeL]; exact Single.map (ih h)
  | loop a ih => intro st h; simp only [codeL]; exact loopL_one (fun s => ih h) N st
  | rangeFunc f ps a b =>
    intro st _ l h
    simp only [codeL] at h
    split at h
    · simp only [Option.bind_eq_some_iff] at h
      obtain ⟨r, _, h⟩ := h
      split at h
      · split at h
        · cases h; exact ⟨_, rfl⟩
        · cases h
      · cases h
    · cases h
theorem callers_one (hE : ∀ f, E.mn f = false) : ∀ (n : Nat) (y : Y) (f a ob tk ro b u), Single ((callers E n y).s f a ob tk ro b u)
  | 0, _, _, _, _, _, _, _, _ => Single.none
  | n + 1, y, f, a, ob, tk, ro, b, u => by
    intro l h
    simp only [callers, hE, Bool.false_eq_true, if_false] at h
    split at h
    · obtain ⟨_, _, h⟩ := bind_some h
      obtain ⟨_, _, h⟩ := bind_some h
      obtain ⟨x, _, rfl⟩ := map_some h
      exact ⟨x, rfl⟩
    · split at h
      · obtain ⟨x, _, rfl⟩ := map_some h
        exact ⟨x, rfl⟩
      · obtain ⟨_, _, h⟩ := bind_some h
        obtain ⟨_, _, h⟩ := bind_some h
        split at h
        · obtain ⟨x, _, rfl⟩ := map_some h
          exact ⟨x, rfl⟩
        · cases h
/-- One outcome, that does so. -/
theorem one_of {c : C} {st : St} {Q : Ex → St → Prop} (h1 : c.one = true) (h : wpC E Yf c st Q) (hE : ∀ f, E.mn f = false) : ∃ n x, codeL E (callers E n) (Yf.y n) n c st = some [x] ∧ Q x.1 x.2 := by
  obtain ⟨n, l, hl, _, hq⟩ := wp_of h
  obtain ⟨x, rfl⟩ := codeL_one (callers_one hE n) h1 l hl
  exact ⟨n, x, hl, hq x (List.mem_singleton.2 rfl)⟩
/-- An observer, by what its code does. -/
theorem EvO_wp {f : FuncId} {af : AF} {args : List V} {ob : Nat → Option Obj'} {tk : Nat → Bool} {base ub : Nat} {r : V} (hf : E.fs f = some af)
    (h : wpC E noYF af.body (startS args ob (fun _ => false) ub base ub) fun e s => endV af.res (e, s) = some r) (hz : E.fz f = false := by rfl) : EvO E f args ob tk base ub r := by
  obtain ⟨n, l, h1, h2, h3⟩ := wp_of h
  refine ⟨n + 1, ?_⟩
  simp only [callers, hf, Option.bind_some, hz, Bool.false_eq_true, if_false]
  rw [show codeL E (callers E n) noY n af.body (startS args ob (fun _ => false) ub base ub) = some l from h1]
  exact one1_of h2 h3
/-- What is handed its caller's things as they stand, and whose result is the caller's own. -/
theorem EvS_tw {y : Nat → Y} {f : FuncId} {args args' : List V} {ob : Nat → Option Obj'} {tk : Nat → Bool} {ro base ub : Nat} {v : V} {r : V × (Nat → Option Obj') × (Nat → Bool) × Nat} (hz : E.tw f = true) (ha : args.mapM (frzTop ob) = some args') (hv : Ev E f args' v) (hr : thawR ob tk ub v = some r) : EvS E y f args ob tk ro base ub r := by
  obtain ⟨n, h⟩ := hv
  refine ⟨n + 1, ?_⟩
  simp only [callers, hz, if_true, ha, Option.bind_some, h, hr, Option.map_some]
/-- Numbers that are put in order. -/
theorem EvS_srt {y : Nat → Y} {f : FuncId} {args : List V} {ob : Nat → Option Obj'} {tk : Nat → Bool} {ro base ub : Nat} {r : V × (Nat → Option Obj') × (Nat → Bool) × Nat} {m : Option FuncId} (hs : E.srt f = some m) (hr : sortA m ob tk ro ub args = some r) (hz : E.tw f = false := by rfl) : EvS E y f args ob tk ro base ub r := by
  refine ⟨1, ?_⟩
  simp only [callers, hz, hs, Bool.false_eq_true, if_false, if_true, hr, Option.map_some]
/-- What is handed its caller's things as they stand. -/
theorem EvO_fz {f : FuncId} {args args' : List V} {ob : Nat → Option Obj'} {tk : Nat → Bool} {base ub : Nat} {r : V} (hz : E.fz f = true) (ha : args.mapM (frzTop ob) = some args') (hv : Ev E f args' r) (hr : r.freeR = true) : EvO E f args ob tk base ub r := by
  obtain ⟨n, h⟩ := hv
  refine ⟨n + 1, ?_⟩
  simp only [callers, hz, if_true, ha, Option.bind_some, h, hr]
/-- A call that shares. -/
theorem EvS_wp {f : FuncId} {af : AF} {args : List V} {ob : Nat → Option Obj'} {tk : Nat → Bool} {ro base ub : Nat} {P : V × (Nat → Option Obj') × (Nat → Bool) × Nat → Prop} (hf : E.fs f = some af) (h1 : af.body.one = true)
    (h : wpC E Yf af.body (startS args ob tk ro base ub) fun e s => ∃ r, endS af.res (e, s) = some r ∧ P r) (hz : E.tw f = false := by rfl) (hs : E.srt f = none := by rfl) (hE : ∀ f, E.mn f = false := by intro _; rfl) : ∃ r, EvS E Yf.y f args ob tk ro base ub r ∧ P r := by
  obtain ⟨n, x, hx, r, hr, hP⟩ := one_of h1 h hE
  refine ⟨r, ⟨n + 1, ?_⟩, hP⟩
  simp only [callers, hf, Option.bind_some, hz, hs, Bool.false_eq_true, if_false]
  rw [codeL_mono (cs_mono n n (Nat.le_refl _)) (Nat.le_refl _) af.body _ _ (Yf.mono (Nat.le_succ n)) _ _ hx]
  simp only [Option.bind_some, hE, Bool.false_eq_true, if_false, hr, Option.map_some]
theorem mapM_of {α β : Type} {f : α → Option β} {P : β → Prop} : ∀ {l : List α}, (∀ x ∈ l, ∃ r, f x = some r ∧ P r) → ∃ L, l.mapM f = some L ∧ L.length = l.length ∧ ∀ r ∈ L, P r
  | [], _ => ⟨[], rfl, rfl, fun _ h => by cases h⟩
  | x :: l, h => by
    obtain ⟨r, h1, h2⟩ := h x (List.mem_cons_self ..)
    obtain ⟨L, h3, h4, h5⟩ := mapM_of (l := l) fun y hy => h y (List.mem_cons_of_mem _ hy)
    refine ⟨r :: L, by simp only [List.mapM_cons, h1, h3]; rfl, by simp [h4], fun z hz => ?_⟩
    rcases List.mem_cons.1 hz with rfl | hz
    · exact h2
    · exact h5 z hz
/-- A call that shares, of many outcomes. -/
theorem EvSL_wp {f : FuncId} {af : AF} {args : List V} {ob : Nat → Option Obj'} {tk : Nat → Bool} {ro base ub : Nat} {P : V × (Nat → Option Obj') × (Nat → Bool) × Nat → Prop} (hf : E.fs f = some af)
    (h : wpC E Yf af.body (startS args ob tk ro base ub) fun e s => ∃ r, endS af.res (e, s) = some r ∧ P r) (hz : E.tw f = false := by rfl) (hs : E.srt f = none := by rfl) (hm : E.mn f = true := by rfl) : EvSL E Yf.y f args ob tk ro base ub P := by
  obtain ⟨n, l, h1, h2, h3⟩ := wp_of h
  obtain ⟨L, h4, h5, h6⟩ := mapM_of (f := endS af.res) (P := P) fun x hx => h3 x hx
  refine ⟨n + 1, L, ?_, fun e => ?_, h6⟩
  · simp only [callers, hf, Option.bind_some, hz, hs, Bool.false_eq_true, if_false]
    rw [codeL_mono (cs_mono n n (Nat.le_refl _)) (Nat.le_refl _) af.body _ _ (Yf.mono (Nat.le_succ n)) _ _ h1]
    simp only [Option.bind_some, hm, if_true]
    exact h4
  · subst e
    exact h2 (List.length_eq_zero_iff.1 h5.symm)
/-- Rounds. -/
def roundF (E : Env) (Yf : YF) (as bd : C) (st : St) (ps : List Nat) (l u : Nat) : YF where
  y n := roundY (codeL E (callers E n) (Yf.y n) n as) (codeL E (callers E n) (Yf.y n) n bd) st ps l u
  mono h := roundY_mono (fun s => codeL_mono (callers_mono _ _ h) h as _ _ (Yf.mono h) s) (fun s => codeL_mono (callers_mono _ _ h) h bd _ _ (Yf.mono h) s) st ps l u
/-- What a round answers. -/
def roundAns (l u : Nat) (e : Ex) (s : St) : V × (Nat → Option Obj') × (Nat → Bool) × Nat := match e with
  | .nrm => (.bool true, upd s.ob l (some ⟨u, .loop .ready none⟩), s.tk, s.nx)
  | e => (.bool false, upd s.ob l (some ⟨u, .loop .done (some e)⟩), s.tk, s.nx)
theorem EvY_round {as bd : C} {st : St} {ps : List Nat} {l u : Nat} {xs : List V} {ob : Nat → Option Obj'} {tk : Nat → Bool} {ro ub : Nat} {P : V × (Nat → Option Obj') × (Nat → Bool) × Nat → Prop} (hl : xs.length = ps.length) (hro : ro ≤ u) (hob : ob l = some ⟨u, .loop .ready none⟩)
    (ha : as.one = true) (hb : bd.one = true)
    (h : wpC E Yf as { tm := setPs st.tm ps xs, ob, tk, ro, nx := ub, fb := st.fb, df := [] } fun e s1 => e = .nrm ∧ s1.ob l = some ⟨u, .loop .ready none⟩ ∧
      wpC E Yf bd { s1 with ob := upd s1.ob l (some ⟨u, .loop .busy none⟩) } fun e s2 => s2.ob l = some ⟨u, .loop .busy none⟩ ∧ P (roundAns l u e s2)) (hE : ∀ f, E.mn f = false := by intro _; rfl) : ∃ r, EvY (roundF E Yf as bd st ps l u) l u xs ob tk ro ub r ∧ P r := by
  obtain ⟨n, ⟨e, s1⟩, h1, he, ho1, h2⟩ := one_of ha h hE
  simp only at he ho1 h2
  subst he
  obtain ⟨m, ⟨e, s2⟩, h3, ho2, hP⟩ := one_of hb h2 hE
  simp only at ho2 hP
  refine ⟨roundAns l u e s2, ⟨max n m, ?_⟩, hP⟩
  have k1 := codeL_mono (callers_mono (E := E) n (max n m) (by omega)) (show n ≤ max n m by omega) as _ _ (Yf.mono (show n ≤ max n m by omega)) _ _ h1
  have k2 := codeL_mono (callers_mono (E := E) m (max n m) (by omega)) (show m ≤ max n m by omega) bd _ _ (Yf.mono (show m ≤ max n m by omega)) _ _ h3
  have hble : Nat.ble ro u = true := Nat.ble_eq ▸ hro
  simp only [roundF, roundY, hl, hble, and_self, if_true, hob, k1, ho1, k2, ho2]
  cases e <;> rfl
theorem wpC_rangeFunc {f : A} {ps : List Nat} {as bd : C} {st : St} {Q : Ex → St → Prop} {g : FuncId} {first captured : List V} (hf : eval E st.tm f = .fn (.func g) first captured)
    (h : ∃ r, EvS E (roundF E Yf as bd st ps (2 * st.nx + 1) st.nx).y g (first ++ [.yld (2 * st.nx + 1) st.nx] ++ captured)
        (upd (upd st.ob (2 * st.nx + 3) (some ⟨st.nx + 1, .dfr⟩)) (2 * st.nx + 1) (some ⟨st.nx, .loop .ready none⟩)) st.tk st.ro ((st.fb + 1023) * 1024) (st.nx + 64) r ∧
      ∃ s pend, r.2.1 (2 * st.nx + 1) = some ⟨st.nx, .loop s pend⟩ ∧ s ≠ .busy ∧ st.ro ≤ st.nx ∧
        Q (pend.getD .nrm) { st with ob := fun k => if Nat.beq (2 * st.nx + 1) k then none else r.2.1 k, tk := r.2.2.1, nx := r.2.2.2, df := (2 * st.nx + 3, st.nx + 1) :: st.df }) : wpC E Yf (.rangeFunc f ps as bd) st Q := by
  obtain ⟨⟨v, ob, tk, ub⟩, ⟨n, hr⟩, s, pend, h1, h2, h3, h4⟩ := h
  have hble : Nat.ble st.ro st.nx = true := Nat.ble_eq ▸ h3
  refine ⟨n, [(pend.getD .nrm, _)], ?_, List.cons_ne_nil _ _, fun x hx => by rw [List.mem_singleton] at hx; subst hx; exact h4⟩
  simp only [codeL, hf]
  have hr' : (callers E n (roundY (codeL E (callers E n) (Yf.y n) n as) (codeL E (callers E n) (Yf.y n) n bd) st ps (2 * st.nx + 1) st.nx)).s g (first ++ [.yld (2 * st.nx + 1) st.nx] ++ captured)
        (upd (upd st.ob (2 * st.nx + 3) (some ⟨st.nx + 1, .dfr⟩)) (2 * st.nx + 1) (some ⟨st.nx, .loop .ready none⟩)) st.tk st.ro ((st.fb + 1023) * 1024) (st.nx + 64) = some [(v, ob, tk, ub)] := hr
  simp only at h1
  simp only [hr', only, Option.bind_some, h1, h2, ne_eq, not_false_eq_true, hble, and_self, if_true]
/-- A yield. -/
theorem wpS_yield {q : A} {xs : List A} {st : St} {ub : Nat} {K : St → Nat → Prop} {d : Option Nat} {nm : Bool} {l u : Nat} (hq : eval E st.tm q = .yld l u)
    (h : ∃ r, EvY Yf l u (xs.map (eval E st.tm)) st.ob st.tk st.ro ub r ∧ K { st with tm := put st.tm d r.1, ob := r.2.1, tk := r.2.2.1 } r.2.2.2) : wpStep E Yf ⟨d, .callV q xs, none, nm⟩ st ub K := by
  simp only [wpStep, wanted, yieldCall, hq]
  exact h
/-- A call of one that only looks. -/
theorem wpS_callO {f : FuncId} {xs : List A} {st : St} {ub : Nat} {K : St → Nat → Prop} {d : Option Nat} {nm : Bool} (hs : E.sh nm f = false) (hp : ((xs.map (eval E st.tm)).all fun v => v.strip.pureTop) = false)
    (h : ∃ v, EvO E f (xs.map (eval E st.tm)) st.ob st.tk ((st.fb + d.getD 0 + 1) * 1024) ub v ∧ wpD (retA ub v) fun δ => K (st.app d δ) (ub + 64)) : wpStep E Yf ⟨d, .call f xs, none, nm⟩ st ub K := by
  have hp' : (xs.all fun x => (eval E st.tm x).strip.pureTop) = false := by rw [List.all_map] at hp; exact hp
  have hsh : sharedCall E nm (eval E st.tm) (.call f xs) = some (f, xs.map (eval E st.tm)) := by simp only [sharedCall, hs, hp', Bool.not_false, Bool.true_and, Bool.false_eq_true, if_false]
  simp only [wpStep, wanted, yieldCall, hsh]
  obtain ⟨v, hv, δ, hδ, hK⟩ := h
  exact .inr ⟨hs, v, hv, δ, hδ, hK⟩
end
def objName (d : Option Nat) (nm : Bool) (fb ub : Nat) : Nat := cond nm (2 * ub + 1) (2 * (fb + d.getD 0))
theorem objName_f (d fb ub : Nat) : objName (some d) false fb ub = 2 * (fb + d) := rfl
theorem objName_t (d : Option Nat) (fb ub : Nat) : objName d true fb ub = 2 * ub + 1 := rfl
theorem name_eq (d : Option Nat) (op : AOp) (nm : Bool) (fb ub : Nat) : AOpr.name ⟨d, op, none, nm⟩ fb ub = objName d nm fb ub := by cases nm <;> rfl
def wpStore (st : St) (sz : Nat) (x : V) (K : Delta → Prop) : V → Prop
  | .ptr l u off => ∃ cs, objCells st.ob l u = some cs ∧ st.ro ≤ u ∧ x.cells.length = sz ∧ off + sz ≤ cs.length ∧ x.cells.all V.leaf = true ∧ K { v := none', obs := [(l, ⟨u, .cells (splice cs off x.cells)⟩)] }
  | _ => False
theorem wpStore_ptr (st : St) (sz : Nat) (x : V) (K : Delta → Prop) (l u off : Nat) : wpStore st sz x K (.ptr l u off) = ∃ cs, objCells st.ob l u = some cs ∧ st.ro ≤ u ∧ x.cells.length = sz ∧ off + sz ≤ cs.length ∧ x.cells.all V.leaf = true ∧ K { v := none', obs := [(l, ⟨u, .cells (splice cs off x.cells)⟩)] } := rfl
section
variable {E : Env} {Yf : YF} {st : St} {ub : Nat} {K : St → Nat → Prop} {d : Option Nat} {nm : Bool}
theorem wpS_alloc {z : List V} : wpStep E Yf ⟨d, .alloc z, none, nm⟩ st ub K = K (st.app d { v := .ptr (objName d nm st.fb ub) ub 0, obs := [(objName d nm st.fb ub, ⟨ub, .cells z⟩)] }) (ub + 64) := by
  rw [wpStep_of _ rfl rfl]; simp only [aop, mkObj, wpD_some, name_eq]
theorem wpS_box {sz : Nat} {x : A} : wpStep E Yf ⟨d, .box sz x, none, nm⟩ st ub K = (((eval E st.tm x).cells.length = sz ∧ (eval E st.tm x).cells.all V.leaf = true) ∧ K (st.app d { v := .ptr (objName d nm st.fb ub) ub 0, obs := [(objName d nm st.fb ub, ⟨ub, .cells (eval E st.tm x).cells⟩)] }) (ub + 64)) := by
  rw [wpStep_of _ rfl rfl]; simp only [aop, mkObj, wpD_ite, wpD_some, name_eq]
theorem wpS_store {sz : Nat} {p x : A} : wpStep E Yf ⟨d, .store sz p x, none, nm⟩ st ub K = wpStore st sz (eval E st.tm x) (fun δ => K (st.app d δ) (ub + 64)) (eval E st.tm p) := by
  rw [wpStep_of _ rfl rfl]
  simp only [aop]
  generalize eval E st.tm p = vp
  cases vp <;> simp only [wpD_none, wpStore]
  rename_i l u off
  cases objCells st.ob l u with
  | none => simp [wpD]
  | some cs => simp only [Option.bind_some, wpD_ite, wpD_some, Option.some.injEq, exists_eq_left', Nat.ble_eq, and_assoc]
end
attribute [simp] objName_f objName_t app_tm app_tm0 app_ro app_nx app_fb app_df app_ob app_tk app_ob1
@[simp] theorem cells_agg (cs : List V) : (V.agg cs).cells = cs := rfl
@[simp] theorem cells_bool (b : Bool) : (V.bool b).cells = [.bool b] := rfl
@[simp] theorem cells_int (k : IntKind) (n : Int) : (V.int k n).cells = [.int k n] := rfl
@[simp] theorem cells_str (s : List UInt8) : (V.str s).cells = [.str s] := rfl
@[simp] theorem cells_sl (t : Option (Nat × Nat)) (b : Bool) (n : Nat) (cs : List V) : (V.sl t b n cs).cells = [.sl t b n cs] := rfl
@[simp] theorem cells_iface (t : TypeId) (v : V) : (V.iface t v).cells = [.iface t v] := rfl
@[simp] theorem leaf_bool (b : Bool) : (V.bool b).leaf = true := rfl
@[simp] theorem leaf_int (k : IntKind) (n : Int) : (V.int k n).leaf = true := rfl
@[simp] theorem leaf_str (s : List UInt8) : (V.str s).leaf = true := rfl
@[simp] theorem leaf_sl (t : Option (Nat × Nat)) (b : Bool) (n : Nat) (cs : List V) : (V.sl t b n cs).leaf = true := rfl
@[simp] theorem leaf_iface (t : TypeId) (v : V) : (V.iface t v).leaf = true := rfl
@[simp] theorem leaf_nilif : V.nilif.leaf = true := rfl
@[simp] theorem cells_nilif : V.nilif.cells = [.nilif] := rfl
@[simp] theorem fieldAddrV_ptr (off l u o : Nat) : fieldAddrV off (.ptr l u o) = some (.ptr l u (o + off)) := rfl
@[simp] theorem fieldAddrV_eptr (off : Nat) (cs : List V) (o : Nat) : fieldAddrV off (.eptr cs o) = some (.eptr cs (o + off)) := rfl
@[simp] theorem pick1_some (k : Nat) (cs : List V) (off : Nat) : pick1 (some k) cs off = if off + k ≤ cs.length then some (.agg ((cs.drop off).take k)) else none := rfl
@[simp] theorem splice_all (cs vs : List V) (h : vs.length = cs.length) : splice cs 0 vs = vs := by simp [splice, ← h]
def kOps (E : Env) (Yf : YF) (r : List AOpr) (K : St → Prop) : St → Nat → Prop := fun st ub => wpOps' E Yf r st ub K
def kNrm (Q : Ex → St → Prop) : St → Prop := fun s => Q .nrm s
def kSeq (E : Env) (Yf : YF) (b : C) (Q : Ex → St → Prop) : Ex → St → Prop := fun e s => match e with
  | .nrm => wpC E Yf b s Q
  | e => Q e s
def kBlk (i : Nat) (Q : Ex → St → Prop) : Ex → St → Prop := fun e s => match e with
  | .exit j => if j = i then Q .nrm s else Q (.exit j) s
  | e => Q e s
def kSet (K : St → Nat → Prop) (st : St) (d : Option Nat) (ub : Nat) : V → Prop := fun v => K (st.setT d v) (ub + 64)
def kApp (K : St → Nat → Prop) (st : St) (d : Option Nat) (ub : Nat) : Delta → Prop := fun δ => K (st.app d δ) (ub + 64)
def kIf (E : Env) (Yf : YF) (a b : C) (st : St) (Q : Ex → St → Prop) : Bool → Prop
  | true => wpC E Yf a st Q
  | false => wpC E Yf b st Q
def kGd (E : Env) (Yf : YF) (o : AOpr) (st : St) (ub : Nat) (K : St → Nat → Prop) : Bool → Prop
  | true => wpStep E Yf o st ub K
  | false => K (st.setT o.dst none') ub
def kLoop (I : Nat → St → Prop) (k : Nat) (Q : Ex → St → Prop) : Ex → St → Prop := fun e s => match e with
  | .nrm => ∃ j, j < k ∧ I j s
  | e => Q e s
def kEnd (res : List ARes) (r : V) : Ex → St → Prop := fun e s => endV res (e, s) = some r
def ifK : V → (Bool → Prop) → Prop
  | .bool c, k => k c
  | _, _ => False
def gdK : V → Bool → (Bool → Prop) → Prop
  | .bool c, b, k => k (c == b)
  | .tup [], _, k => k false
  | _, _, _ => False
section
variable {E : Env} {Yf : YF} {st : St} {ub : Nat} {K : St → Nat → Prop} {d : Option Nat} {nm : Bool} {Q : Ex → St → Prop}
theorem kOps_app {r : List AOpr} {K : St → Prop} : kOps E Yf r K st ub = wpOps' E Yf r st ub K := propext Iff.rfl
theorem kNrm_app : kNrm Q st = Q .nrm st := propext Iff.rfl
theorem kSeq_nrm {b : C} : kSeq E Yf b Q .nrm st = wpC E Yf b st Q := propext Iff.rfl
theorem kSeq_exit {b : C} {i : Nat} : kSeq E Yf b Q (.exit i) st = Q (.exit i) st := propext Iff.rfl
theorem kSeq_ret {b : C} : kSeq E Yf b Q .ret st = Q .ret st := propext Iff.rfl
theorem kBlk_nrm {i : Nat} : kBlk i Q .nrm st = Q .nrm st := propext Iff.rfl
theorem kBlk_exit {i j : Nat} : kBlk i Q (.exit j) st = if j = i then Q .nrm st else Q (.exit j) st := propext Iff.rfl
theorem kBlk_ret {i : Nat} : kBlk i Q .ret st = Q .ret st := propext Iff.rfl
theorem kSet_app {v : V} : kSet K st d ub v = K (st.setT d v) (ub + 64) := propext Iff.rfl
theorem kApp_app {δ : Delta} : kApp K st d ub δ = K (st.app d δ) (ub + 64) := propext Iff.rfl
theorem kIf_true {a b : C} : kIf E Yf a b st Q true = wpC E Yf a st Q := propext Iff.rfl
theorem kIf_false {a b : C} : kIf E Yf a b st Q false = wpC E Yf b st Q := propext Iff.rfl
theorem kGd_true {o : AOpr} : kGd E Yf o st ub K true = wpStep E Yf o st ub K := propext Iff.rfl
theorem kGd_false {o : AOpr} : kGd E Yf o st ub K false = K (st.setT o.dst none') ub := propext Iff.rfl
theorem kLoop_nrm {I : Nat → St → Prop} {k : Nat} : kLoop I k Q .nrm st = ∃ j, j < k ∧ I j st := propext Iff.rfl
theorem kLoop_exit {I : Nat → St → Prop} {k i : Nat} : kLoop I k Q (.exit i) st = Q (.exit i) st := propext Iff.rfl
theorem kLoop_ret {I : Nat → St → Prop} {k : Nat} : kLoop I k Q .ret st = Q .ret st := propext Iff.rfl
theorem ifK_bool {c : Bool} {k : Bool → Prop} : ifK (.bool c) k = k c := propext Iff.rfl
theorem gdK_bool {c b : Bool} {k : Bool → Prop} : gdK (.bool c) b k = k (c == b) := propext Iff.rfl
theorem gdK_none {b : Bool} {k : Bool → Prop} : gdK none' b k = k false := propext Iff.rfl
theorem gdK_tup {b : Bool} {k : Bool → Prop} : gdK (.tup []) b k = k false := propext Iff.rfl
theorem kC_skip : wpC E Yf .skip st Q = Q .nrm st := propext Iff.rfl
theorem kC_ret : wpC E Yf .ret st Q = Q .ret st := propext Iff.rfl
theorem kC_exit {i : Nat} : wpC E Yf (.exit i) st Q = Q (.exit i) st := propext Iff.rfl
theorem kOps_nil {K : St → Prop} : wpOps' E Yf [] st ub K = K (st.setN ub) := propext Iff.rfl
theorem kC_region {ops : List AOpr} : wpC E Yf (.region ops) st Q = wpOps' E Yf ops st st.nx (kNrm Q) := propext Iff.rfl
theorem kC_seq {a b : C} : wpC E Yf (.seq a b) st Q = wpC E Yf a st (kSeq E Yf b Q) := propext Iff.rfl
theorem kC_block {i : Nat} {a : C} : wpC E Yf (.block i a) st Q = wpC E Yf a st (kBlk i Q) := propext Iff.rfl
theorem kC_cond {c : A} {a b : C} : wpC E Yf (.cond c a b) st Q = ifK (eval E st.tm c) (kIf E Yf a b st Q) := by
  rw [wpC_cond]
  cases h : eval E st.tm c <;> simp [wpIf, ifK]
  rename_i t
  cases t <;> simp [kIf]
theorem kOps_cons {o : AOpr} {r : List AOpr} {K : St → Prop} : wpOps' E Yf (o :: r) st ub K = wpStep E Yf o st ub (kOps E Yf r K) := propext Iff.rfl
theorem kStep_guard {op : AOp} {t : Nat} {b : Bool} : wpStep E Yf ⟨d, op, some (t, b), nm⟩ st ub K = gdK (st.tm t) b (kGd E Yf ⟨d, op, none, nm⟩ st ub K) := by
  rw [wpStep_guard]
  cases h : st.tm t with
  | bool c => cases c <;> cases b <;> simp [wpGuard, gdK, kGd]
  | tup l => cases l <;> simp [wpGuard, gdK, kGd]
  | _ => simp [wpGuard, gdK]
theorem kS_mov {x : A} : wpStep E Yf ⟨d, .mov x, none, nm⟩ st ub K = kSet K st d ub (eval E st.tm x) := wpS_mov
theorem kS_alloc {z : List V} : wpStep E Yf ⟨d, .alloc z, none, nm⟩ st ub K = kApp K st d ub { v := .ptr (objName d nm st.fb ub) ub 0, obs := [(objName d nm st.fb ub, ⟨ub, .cells z⟩)] } := wpS_alloc
theorem kS_box {sz : Nat} {x : A} : wpStep E Yf ⟨d, .box sz x, none, nm⟩ st ub K = (((eval E st.tm x).cells.length = sz ∧ (eval E st.tm x).cells.all V.leaf = true) ∧ kApp K st d ub { v := .ptr (objName d nm st.fb ub) ub 0, obs := [(objName d nm st.fb ub, ⟨ub, .cells (eval E st.tm x).cells⟩)] }) := wpS_box
theorem kS_store {sz : Nat} {p x : A} : wpStep E Yf ⟨d, .store sz p x, none, nm⟩ st ub K = wpStore st sz (eval E st.tm x) (kApp K st d ub) (eval E st.tm p) := wpS_store
theorem kS_iface {t : TypeId} {x : A} : wpStep E Yf ⟨d, .iface t x, none, nm⟩ st ub K = kSet K st d ub (.iface t (eval E st.tm x)) := by rw [wpStep_of _ rfl rfl]; simp only [aop, wpD_one, app_v]; rfl
def assertV (t : TypeId) (zero : V) (ok : Bool) : V → Option V
  | .iface t' v => if t' = t then some (if ok then .tup [v, .bool true] else v) else if ok then some (.tup [zero, .bool false]) else none
  | .nilif => if ok then some (.tup [zero, .bool false]) else none
  | _ => none
theorem kS_assert {t : TypeId} {zero : V} {ok : Bool} {x : A} : wpStep E Yf ⟨d, .assert t zero ok x, none, nm⟩ st ub K = wpV (assertV t zero ok (eval E st.tm x)) (kSet K st d ub) := by
  refine wpS_val rfl rfl fun du => ?_
  simp only [aop, assertV]
  generalize eval E st.tm x = vx
  cases vx with
  | iface t' v => by_cases h : t' = t <;> cases ok <;> simp [h, one]
  | nilif => cases ok <;> rfl
  | _ => rfl
theorem kS_mkFn {f : Fn} {a b : List A} : wpStep E Yf ⟨d, .mkFn f a b, none, nm⟩ st ub K = kSet K st d ub (.fn f (a.map (eval E st.tm)) (b.map (eval E st.tm))) := wpS_mkFn
theorem kS_pick {c a b : A} : wpStep E Yf ⟨d, .pick c a b, none, nm⟩ st ub K = wpV (pickV (eval E st.tm c) (eval E st.tm a) (eval E st.tm b)) (kSet K st d ub) := wpS_pick
theorem kS_bin {op : BinOp} {x y : A} : wpStep E Yf ⟨d, .bin op x y, none, nm⟩ st ub K = wpV (binV op (eval E st.tm x) (eval E st.tm y)) (kSet K st d ub) := wpS_bin
theorem kS_un {op : UnOp} {x : A} : wpStep E Yf ⟨d, .un op x, none, nm⟩ st ub K = wpV (unV op (eval E st.tm x)) (kSet K st d ub) := wpS_un
theorem kS_eq {neg : Bool} {k : EqK} {x y : A} : wpStep E Yf ⟨d, .eq neg k x y, none, nm⟩ st ub K = wpV (eqVV st.ob neg k (eval E st.tm x) (eval E st.tm y)) (kSet K st d ub) := wpS_eq
theorem kS_load {g : Option Nat} {x : A} : wpStep E Yf ⟨d, .load g x, none, nm⟩ st ub K = wpV (loadV st.ob g (eval E st.tm x)) (kSet K st d ub) := wpS_load
theorem kS_nilCheck {x : A} : wpStep E Yf ⟨d, .nilCheck x, none, nm⟩ st ub K = wpV (nilCheckV (eval E st.tm x)) (kSet K st d ub) := wpS_nilCheck
theorem kS_fieldAddr {off : Nat} {x : A} : wpStep E Yf ⟨d, .fieldAddr off x, none, nm⟩ st ub K = wpV (fieldAddrV off (eval E st.tm x)) (kSet K st d ub) := wpS_fieldAddr
theorem kS_idxSl {sz : Nat} {x i : A} : wpStep E Yf ⟨d, .idxSl sz x i, none, nm⟩ st ub K = wpV (idxSlV sz (eval E st.tm x) (eval E st.tm i)) (kSet K st d ub) := wpS_idxSl
theorem kS_idxArr {len sz : Nat} {x i : A} : wpStep E Yf ⟨d, .idxArr len sz x i, none, nm⟩ st ub K = wpV (idxArrV len sz (eval E st.tm x) (eval E st.tm i)) (kSet K st d ub) := wpS_idxArr
theorem kS_part {g : Option Nat} {off : Nat} {x : A} : wpStep E Yf ⟨d, .part g off x, none, nm⟩ st ub K = wpV (partV g off (eval E st.tm x)) (kSet K st d ub) := wpS_part
theorem kS_idxStr {x i : A} : wpStep E Yf ⟨d, .idxStr x i, none, nm⟩ st ub K = wpV (idxStrV (eval E st.tm x) (eval E st.tm i)) (kSet K st d ub) := wpS_idxStr
theorem kS_idxVal {g : Option Nat} {len sz : Nat} {x i : A} : wpStep E Yf ⟨d, .idxVal g len sz x i, none, nm⟩ st ub K = wpV (idxValV g len sz (eval E st.tm x) (eval E st.tm i)) (kSet K st d ub) := wpS_idxVal
theorem kS_slStr {x : A} {lo hi : Option A} : wpStep E Yf ⟨d, .slStr x lo hi, none, nm⟩ st ub K = wpV (slStrV (lo.map (eval E st.tm)) (hi.map (eval E st.tm)) (eval E st.tm x)) (kSet K st d ub) := wpS_slStr
theorem kS_slSl {sz : Nat} {x : A} {lo hi : Option A} : wpStep E Yf ⟨d, .slSl sz x lo hi, none, nm⟩ st ub K = wpV (slSlV sz (lo.map (eval E st.tm)) (hi.map (eval E st.tm)) (eval E st.tm x)) (kSet K st d ub) := wpS_slSl
theorem kS_lenStr {x : A} : wpStep E Yf ⟨d, .lenStr x, none, nm⟩ st ub K = wpV (lenStrV (eval E st.tm x)) (kSet K st d ub) := wpS_lenStr
theorem kS_lenSl {x : A} : wpStep E Yf ⟨d, .lenSl x, none, nm⟩ st ub K = wpV (lenSlV (eval E st.tm x)) (kSet K st d ub) := wpS_lenSl
theorem kS_lenMap {x : A} : wpStep E Yf ⟨d, .lenMap x, none, nm⟩ st ub K = wpV (lenMapV st.ob (eval E st.tm x)) (kSet K st d ub) := wpS_lenMap
theorem kS_extract {x : A} {i : Nat} : wpStep E Yf ⟨d, .extract x i, none, nm⟩ st ub K = wpV (extractV i (eval E st.tm x)) (kSet K st d ub) := wpS_extract
theorem kS_conv {k : IntKind} {x : A} : wpStep E Yf ⟨d, .conv k x, none, nm⟩ st ub K = wpV (convV k (eval E st.tm x)) (kSet K st d ub) := wpS_conv
theorem kS_minmax {b : Bool} {xs : List A} : wpStep E Yf ⟨d, .minmax b xs, none, nm⟩ st ub K = wpV (minmaxV b (xs.map (eval E st.tm))) (kSet K st d ub) := wpS_minmax
theorem kS_build {z : List V} {ps : List (Nat × Nat × A)} : wpStep E Yf ⟨d, .build z ps, none, nm⟩ st ub K = wpV ((fill z (evalParts (eval E st.tm) ps)).map .agg) (kSet K st d ub) := wpS_build
theorem kS_lookup {q : LK} {z : V} {ok : Bool} {m k : A} : wpStep E Yf ⟨d, .lookup q z ok m k, none, nm⟩ st ub K = wpV (lookupV st.ob q z ok (eval E st.tm m) (eval E st.tm k)) (kSet K st d ub) := wpS_lookup
end
attribute [simp ↓] kC_skip kC_ret kC_exit kC_region kC_seq kC_block kC_cond kOps_nil kOps_cons kStep_guard kS_mov kS_alloc kS_box kS_store kS_iface kS_assert kS_mkFn kS_pick kS_bin kS_un kS_eq kS_load kS_nilCheck kS_fieldAddr kS_idxSl kS_idxArr kS_part kS_idxStr kS_idxVal kS_slStr kS_slSl kS_lenStr kS_lenSl kS_lenMap kS_extract kS_conv kS_minmax kS_build kS_lookup
attribute [simp ↓] kOps_app kNrm_app kSeq_nrm kSeq_exit kSeq_ret kBlk_nrm kBlk_exit kBlk_ret kSet_app kApp_app kIf_true kIf_false kGd_true kGd_false kLoop_nrm kLoop_exit kLoop_ret
attribute [simp] ifK_bool gdK_bool gdK_none gdK_tup wpV_ite wpV_ite' wpD_ite wpD_ite' wpStore_ptr
/-- A result that hangs on nothing of the frame. -/
def V.plain : V → Bool
  | .agg cs => cs.all V.pureLeaf
  | .fn .. => false
  | v => v.pureLeaf
theorem outLeaf_pure {st : St} {keep : Bool} {i : Nat} {v : V} (h : v.pureLeaf = true) : outLeaf st keep i v = some v := by
  cases v with
  | sl t nl n cs => cases t with
    | none => rfl
    | some t => cases h
  | _ => first | rfl | (simp [V.pureLeaf] at h; done) | (simp only [outLeaf, solid, h, if_true])
theorem tok_pure {v : V} (h : v.pureLeaf = true) : v.tok = [] := by
  cases v with
  | sl t nl n cs => cases t with
    | none => rfl
    | some t => cases h
  | _ => first | rfl | (simp [V.pureLeaf] at h; done)
theorem outList_pure {st : St} {keep : Bool} : ∀ {i : Nat} {cs : List V}, cs.all V.pureLeaf = true → outList st keep i cs = some cs
  | _, [], _ => rfl
  | i, c :: cs, h => by
    simp only [List.all_cons, Bool.and_eq_true] at h
    simp [outList, outLeaf_pure h.1, outList_pure h.2]
theorem plain_top {st : St} {keep : Bool} {i : Nat} {v : V} (h : v.plain = true) : outTop st keep i v = some v := by
  cases v with
  | agg cs => simp [outTop, outList_pure (show cs.all V.pureLeaf = true from h)]
  | fn => cases h
  | _ => refine Eq.trans (b := outLeaf st keep i _) rfl (outLeaf_pure ?_); exact h
theorem plain_toks {v : V} (h : v.plain = true) : v.toks = [] := by
  cases v with
  | agg cs =>
    simp only [V.toks, List.flatMap_eq_nil_iff]
    intro x hx
    exact tok_pure (List.all_eq_true.1 h x hx)
  | fn => cases h
  | sl t nl n cs => cases t with
    | none => rfl
    | some t => cases h
  | _ => first | rfl | cases h
theorem outTops_plain {st : St} {keep : Bool} : ∀ {i : Nat} {l : List V}, l.all V.plain = true → outTops st keep i l = some l
  | _, [], _ => rfl
  | i, c :: cs, h => by
    simp only [List.all_cons, Bool.and_eq_true] at h
    simp [outTops, plain_top h.1, outTops_plain h.2]
def tupOf : List V → V
  | [v] => v
  | l => .tup l
theorem endV_plain {res : List ARes} {st : St} {l : List V} (hd : st.df = []) (hr : res.mapM (resOf st) = some l) (hl : l.all V.plain = true) : endV res (.ret, st) = some (tupOf l) := by
  have ht : l.flatMap V.toks = [] := by
    rw [List.flatMap_eq_nil_iff]
    intro x hx
    exact plain_toks (List.all_eq_true.1 hl x hx)
  simp only [endV, dfOk_of hd, noDf_of hd, if_true, hr, Option.bind_some, outRes, ht, nodup, outTops_plain hl, if_true]
  match l with
  | [] => rfl
  | [v] => rfl
  | v :: u :: l => rfl
theorem kEnd_of {res : List ARes} {st : St} {r : V} {l : List V} (hd : st.df = []) (hr : res.mapM (resOf st) = some l) (hl : l.all V.plain = true) (h : tupOf l = r) : kEnd res r .ret st := by
  subst h
  exact endV_plain hd hr hl
attribute [simp] fill evalParts
theorem inLeaf_pure {ub : Nat} {v : V} (h : v.pureLeaf = true) : inLeaf ub v = v := by
  cases v with
  | sl t nl n cs => cases t with
    | none => rfl
    | some t => cases h
  | _ => rfl
theorem inTop_plain {ub : Nat} {v : V} (h : v.plain = true) : inTop ub v = v := by
  cases v with
  | agg cs =>
    have : cs.map (inLeaf ub) = cs := by
      conv => rhs; rw [← List.map_id cs]
      exact List.map_congr_left fun x hx => inLeaf_pure (List.all_eq_true.1 h x hx)
    simp only [inTop, this]
  | sl t nl n cs => exact inLeaf_pure h
  | _ => rfl
theorem retA_plain {ub : Nat} {v : V} (h : v.plain = true) : retA ub v = some { v := v } := by
  have h1 : toksRes v = [] := by
    cases v with
    | tup vs => cases h
    | _ => exact plain_toks h
  have h2 : inRes ub v = v := by
    cases v with
    | tup vs => cases h
    | undef => cases h
    | _ => exact inTop_plain (ub := ub) h
  simp [retA, h1, h2]
theorem retA_tupl {ub : Nat} {l : List V} (h : l.all V.plain = true) : retA ub (.tup l) = some { v := .tup l } := by
  have h1 : toksRes (.tup l) = [] := by
    simp only [toksRes, List.flatMap_eq_nil_iff]
    intro x hx
    exact plain_toks (List.all_eq_true.1 h x hx)
  have h2 : inRes ub (.tup l) = .tup l := by
    have : l.map (inTop ub) = l := by
      conv => rhs; rw [← List.map_id l]
      exact List.map_congr_left fun x hx => inTop_plain (List.all_eq_true.1 h x hx)
    simp only [inRes, this]
  simp [retA, h1, h2]
@[simp] theorem eqVV_struct (ob : Nat → Option Obj') (neg : Bool) (l : List LK) (a b : List V) : eqVV ob neg (.struct l) (.agg a) (.agg b) = (eqCells l a b).map fun b => .bool (xor neg b) := rfl
attribute [simp] eqCells eqLeaf
theorem Ev_wpK {E : Env} {f : FuncId} {af : AF} {args : List V} {r : V} (hf : E.fc f = some af) (h : wpC E noYF af.body (start args) (kEnd af.res r)) : Ev E f args r := Ev_wp hf h
theorem kEnd_ret {res : List ARes} {r : V} {e : Ex} {s : St} : kEnd res r e s = (endV res (e, s) = some r) := rfl
theorem wp_loopK {E : Env} {Yf : YF} {a : C} {Q : Ex → St → Prop} (I : Nat → St → Prop) {n : Nat} {st : St} (h0 : I n st) (hs : ∀ k s, I k s → wpC E Yf a s (kLoop I k Q)) : wpC E Yf (.loop a) st Q :=
  wp_loop I h0 hs
/-- A call whose answer is known. -/
theorem kS_call {E : Env} {Yf : YF} {st : St} {ub : Nat} {K : St → Nat → Prop} {d : Option Nat} {nm : Bool} {f : FuncId} {xs : List A} {vs : List V} {v : V} (hx : xs.map (eval E st.tm) = vs) (hs : E.sh nm f = false) (hp : (vs.all fun v => v.strip.pureTop) = true)
    (hv : Ev E f (vs.map V.strip) v) (h : wpD (retA ub v) (kApp K st d ub)) : wpStep E Yf ⟨d, .call f xs, none, nm⟩ st ub K := wpS_callE hx hs hp hv h
end Go.Pv
