/- Part of the proof. -/
import Derived.Test.YtkioopdogfmlfaaGreatDoorNK
import Derived.Test.YtkioopdogfmlfaaGreatDoorTie
import Derived.ProofKit
import Derived.LaidMore
import Derived.OpenShut
import Derived.Stop.Joined
import Derived.SizedLaws
import Derived.Carry
import Derived.Handed
import Derived.ChangeSame
set_option maxRecDepth 100000
set_option maxHeartbeats 8000000
set_option linter.all false
namespace Go.Pv.T
open Go Go.Pv Go.Proofs Go.ChangeShapes Go.WideShapes Go.ChangeAt Go.RowKit Go.Proofs.YtkioopdogfmlfaaGreatDoor
theorem own : ownKnob Tryz.prog.godebug = none := by kernel_rfl
theorem laidOut : laidOutB Tryz.prog = true := by kernel_rfl
theorem mixed : Tryz.prog.follows .mixedOrders = true := by kernel_rfl
/-- What is laid ahead of the call. -/
def laidL : List (String × DataW Unit) := [("math/bits.deBruijn32tab", Rows.laid_math_bits_deBruijn32tab), ("math/bits.deBruijn64tab", Rows.laid_math_bits_deBruijn64tab), ("internal/strconv.uint64pow10", Rows.laid_internal_strconv_uint64pow10), ("unicode/utf8.acceptRanges", Rows.laid_unicode_utf8_acceptRanges), ("deemster/event.words", Rows.laid_deemster_event_words), ("deemster/text.levels", Rows.laid_deemster_text_levels), ("deemster/text.policies", Rows.laid_deemster_text_policies), ("deemster/text.verdicts", Rows.laid_deemster_text_verdicts), ("deemster/script.firsts", Rows.laid_deemster_script_firsts), ("unicode/utf8.first", Rows.laid_unicode_utf8_first)]
def putCells (h : Array Obj) (g : Nat) (cs : Array Value) : Array Obj := h.modify g fun
    | .cells _ t frozen => .cells cs t frozen
    | o => o
def litD : DataW Unit → List Value
  | .lit (.int k n) => [.int k n]
  | .lit (.string s) => [.string ⟨s.toArray⟩]
  | _ => []
def cellsD : DataW Unit → Array Value
  | .agg l => (l.flatMap fun d => match d with | .agg m => m.flatMap litD | d => litD d).toArray
  | _ => #[]
/-- A start that meets the condition: the settled world, the variables laid. -/
noncomputable def laidWorld (os : Os) : World :=
  let w0 := World.holding Tryz.prog os ⟨#[], #[], []⟩
  { w0 with heap := putCells (putCells (putCells (putCells (putCells (putCells (putCells (putCells (putCells (putCells (w0.heap) 9 (cellsD Rows.laid_math_bits_deBruijn32tab)) 10 (cellsD Rows.laid_math_bits_deBruijn64tab)) 8 (cellsD Rows.laid_internal_strconv_uint64pow10)) 7 (cellsD Rows.laid_unicode_utf8_acceptRanges)) 4 (cellsD Rows.laid_deemster_event_words)) 0 (cellsD Rows.laid_deemster_text_levels)) 1 (cellsD Rows.laid_deemster_text_policies)) 3 (cellsD Rows.laid_deemster_text_verdicts)) 2 (cellsD Rows.laid_deemster_script_firsts)) 6 (cellsD Rows.laid_unicode_utf8_first) }
theorem door_met (os : Os) (args : Array Value) : laidMetH Tryz.prog laidL ((laidWorld os).forCall (fun _ _ => 0) ⟨#[], args, []⟩).memory := by
  rw [MakeChecks.laidMetH_plain _ _ _ (by kernel_rfl)]
  exact laidMet_of_run' 8 (by kernel_rfl) (by kernel_rfl)
theorem g_0 : Tryz.prog.globalNamed "deemster/text.levels" = some 0 := by kernel_rfl
theorem g_1 : Tryz.prog.globalNamed "deemster/text.policies" = some 1 := by kernel_rfl
theorem g_2 : Tryz.prog.globalNamed "deemster/script.firsts" = some 2 := by kernel_rfl
theorem g_3 : Tryz.prog.globalNamed "deemster/text.verdicts" = some 3 := by kernel_rfl
theorem g_4 : Tryz.prog.globalNamed "deemster/event.words" = some 4 := by kernel_rfl
theorem g_6 : Tryz.prog.globalNamed "unicode/utf8.first" = some 6 := by kernel_rfl
theorem g_7 : Tryz.prog.globalNamed "unicode/utf8.acceptRanges" = some 7 := by kernel_rfl
theorem g_10 : Tryz.prog.globalNamed "math/bits.deBruijn64tab" = some 10 := by kernel_rfl
/-- What a world's cells say. -/
def cellsI (W : World) : IMap := fun b o => W.cell? ⟨b, o, none⟩
theorem cellsI_ok (W : World) : ImmOk (cellsI W) W := fun _ _ _ h => h
def litV : DataW Unit → V
  | .lit (.int k n) => .int k n
  | .lit (.string s) => .str s
  | _ => .undef
theorem litV_pure : ∀ d : DataW Unit, litV d ≠ .undef → (litV d).pureLeaf = true
  | .lit (.int _ _), _ => rfl
  | .lit (.string _), _ => rfl
  | .lit (.bool _), h => absurd rfl h
  | .lit (.float ..), h => absurd rfl h
  | .nil, h => absurd rfl h
/-- An array of plain cells that reads as listed. -/
theorem arr_rep {W : World} {t e : TypeId} {n fuel : Nat} {cs : List Value} {ds : List (DataW Unit)} {p : List MemPlace} (ht : Tryz.prog.underlying t = some (.array n e)) (hc : Tryz.prog.cellsOf e = 1)
    (he : Tryz.prog.underlying e = some .string ∨ ∃ k, Tryz.prog.underlying e = some (.int k)) (h : DataW.trod (fun _ => ()) Tryz.prog W 0 (fun _ => true) false fuel t cs = some (.agg ds, p)) (I : IMap) :
    ∀ (j : Nat) (d : DataW Unit), ds[j]? = some d → ∃ x, cs[j]? = some x ∧ RepP I x (litV d) := by
  obtain ⟨xs, m, rfl, hx, hlen, hn, hel⟩ := DataW.trod_array ht h
  intro j d hd
  simp only [Prod.mk.injEq, DataW.agg.injEq] at hx
  rw [hx.1, List.getElem?_map] at hd
  cases hy : xs[j]? with
  | none => simp [hy] at hd
  | some y =>
    rw [hy] at hd
    simp only [Option.map_some, Option.some.injEq] at hd
    have hj : j < n := by rw [← hn]; exact (List.getElem?_eq_some_iff.1 hy).1
    have := hel j hj
    rw [hc, Nat.mul_one, hy] at this
    have one : ∀ c, (cs.drop j).take 1 = [c] → cs[j]? = some c := by
      intro c hcc
      have := congrArg List.head? hcc
      simpa [List.head?_take, List.head?_drop] using this
    rcases he with he | ⟨k, he⟩
    · obtain ⟨s, e1, e2, _⟩ := DataW.trod_string he this
      refine ⟨_, one _ e1, ?_⟩
      rw [← hd, e2]
      exact RepP.str s
    · obtain ⟨s, e1, e2, _⟩ := DataW.trod_int he this
      refine ⟨_, one _ e1, ?_⟩
      rw [← hd, e2]
      exact RepP.int k s
theorem gl_rep {W : World} {nm : String} {g : Nat} {cs : Array Value} {ds : List (DataW Unit)} (hg : Tryz.prog.globalNamed nm = some g) (hv : W.var? Tryz.prog nm = some cs) (hp : (ds.map litV).all V.pureLeaf = true)
    (h : ∀ (j : Nat) (d : DataW Unit), ds[j]? = some d → ∃ x, cs.toList[j]? = some x ∧ RepP (cellsI W) x (litV d)) : RepP (cellsI W) (.pointer (some ⟨g, 0, none⟩)) (.eptr (ds.map litV) 0) := by
  have hc := World.var?_cell hg hv
  refine RepP.eptr g 0 0 (ds.map litV) (fun j => (cs[j]?).getD .nilFunc) (fun j hj => ?_) (fun j v hj => ?_) (fun j v hj => ?_)
  · rw [List.length_map] at hj
    obtain ⟨x, hx, _⟩ := h j ds[j] (List.getElem?_eq_getElem hj)
    have hx' : cs[j]? = some x := by simpa using hx
    show W.cell? ⟨g, 0 + j, none⟩ = _
    rw [Nat.zero_add, hc j, hx']
    rfl
  · exact List.all_eq_true.1 hp v (List.mem_of_getElem? hj)
  · rw [List.getElem?_map] at hj
    cases hd : ds[j]? with
    | none => rw [hd] at hj; cases hj
    | some d =>
      rw [hd] at hj
      cases hj
      obtain ⟨x, hx, hr⟩ := h j d hd
      have hx' : cs[j]? = some x := by simpa using hx
      rw [hx']
      exact hr
def aggOf : DataW Unit → List (DataW Unit)
  | .agg l => l
  | _ => []
theorem e_0 : (aggOf Rows.laid_deemster_text_levels).map litV = txtL := by kernel_rfl
theorem a_0 : Rows.laid_deemster_text_levels = .agg (aggOf Rows.laid_deemster_text_levels) := by kernel_rfl
theorem p_0 : ((aggOf Rows.laid_deemster_text_levels).map litV).all V.pureLeaf = true := by kernel_rfl
theorem e_1 : (aggOf Rows.laid_deemster_text_policies).map litV = txtP := by kernel_rfl
theorem a_1 : Rows.laid_deemster_text_policies = .agg (aggOf Rows.laid_deemster_text_policies) := by kernel_rfl
theorem p_1 : ((aggOf Rows.laid_deemster_text_policies).map litV).all V.pureLeaf = true := by kernel_rfl
theorem e_2 : (aggOf Rows.laid_deemster_script_firsts).map litV = scrF := by kernel_rfl
theorem a_2 : Rows.laid_deemster_script_firsts = .agg (aggOf Rows.laid_deemster_script_firsts) := by kernel_rfl
theorem p_2 : ((aggOf Rows.laid_deemster_script_firsts).map litV).all V.pureLeaf = true := by kernel_rfl
theorem e_3 : (aggOf Rows.laid_deemster_text_verdicts).map litV = txtV := by kernel_rfl
theorem a_3 : Rows.laid_deemster_text_verdicts = .agg (aggOf Rows.laid_deemster_text_verdicts) := by kernel_rfl
theorem p_3 : ((aggOf Rows.laid_deemster_text_verdicts).map litV).all V.pureLeaf = true := by kernel_rfl
theorem e_4 : (aggOf Rows.laid_deemster_event_words).map litV = words := by kernel_rfl
theorem a_4 : Rows.laid_deemster_event_words = .agg (aggOf Rows.laid_deemster_event_words) := by kernel_rfl
theorem p_4 : ((aggOf Rows.laid_deemster_event_words).map litV).all V.pureLeaf = true := by kernel_rfl
theorem e_6 : (aggOf Rows.laid_unicode_utf8_first).map litV = utf8first := by kernel_rfl
theorem a_6 : Rows.laid_unicode_utf8_first = .agg (aggOf Rows.laid_unicode_utf8_first) := by kernel_rfl
theorem p_6 : ((aggOf Rows.laid_unicode_utf8_first).map litV).all V.pureLeaf = true := by kernel_rfl
theorem e_10 : (aggOf Rows.laid_math_bits_deBruijn64tab).map litV = bruij := by kernel_rfl
theorem a_10 : Rows.laid_math_bits_deBruijn64tab = .agg (aggOf Rows.laid_math_bits_deBruijn64tab) := by kernel_rfl
theorem p_10 : ((aggOf Rows.laid_math_bits_deBruijn64tab).map litV).all V.pureLeaf = true := by kernel_rfl
/-- Behind a call that leaves what was there as it was, each argument reads as it did. -/
theorem all_below {H : Type} {enc : TypeId × Value → H} {W W' : World} (hb : Below W.heap.size W W') : ∀ {ts : List TypeId} {vs : List Value} {ds : List (DataW H)} {ps : List MemPlace},
    (∀ t ∈ ts, Tryz.prog.readableRec t = true ∧ t < Tryz.prog.types.size) → (∀ x ∈ ps, x.block < W.heap.size) →
    DataW.TrodAll enc Tryz.prog W 0 (fun _ => true) true ts vs ds ps → DataW.TrodAll enc Tryz.prog W' 0 (fun b => decide (b < W.heap.size)) true ts vs ds ps
  | [], [], [], _, _, _, h => h
  | t :: ts, v :: vs, d :: ds, _, ht, hlt, ⟨p, q, h1, h2, e⟩ => by
    subst e
    exact ⟨p, q, Below.trod laidOut (ht t (List.mem_cons_self ..)).1 (ht t (List.mem_cons_self ..)).2 h1 hb (fun x hx => hlt x (List.mem_append_left _ hx)),
      all_below hb (fun t' h' => ht t' (List.mem_cons_of_mem _ h')) (fun x hx => hlt x (List.mem_append_right _ hx)) h2, rfl⟩
  | [], _ :: _, _, _, _, _, h => h.elim
  | [], [], _ :: _, _, _, _, h => h.elim
  | _ :: _, [], _, _, _, _, h => h.elim
  | _ :: _, _ :: _, [], _, _, _, h => h.elim
/-- The row's word behind a call that answers true and turns nothing. -/
theorem post_true {H : Type} {enc : TypeId × Value → H} {fn : Func} {s : ChangeSpec} {W W' : World} {args : Array Value} {ds gs : List (DataW H)} {before : List MemPlace} (hW : DataW.Whole enc Tryz.prog fn.params.toList s.vars false W args.toList ds gs before)
    (hv : s.vars = []) (hr : fn.resultTypes = #[4]) (hs : (s.fn H ds).results = [.lit (.bool true)]) (ha : (s.fn H ds).args = ds) (hvs : (s.fn H ds).vars = [])
    (ht : ∀ t ∈ fn.params.toList, Tryz.prog.readableRec t = true ∧ t < Tryz.prog.types.size) (hg : W.grownBy W' none) : s.post enc Tryz.prog fn false true false false W args (.bool true) W' := by
  have hb : Below W.heap.size W W' := (Below.refl _ W).grown hg (Nat.le_refl _) (fun _ h => by cases h)
  have hW' := hW
  obtain ⟨p, q, hA, hV, rfl, _, _⟩ := hW
  rw [hv] at hV
  obtain ⟨rfl, rfl⟩ := trodVars_none hV
  have hlt : ∀ x ∈ p, x.block < W.heap.size := fun x hx => by simpa using hW'.lt x (List.mem_append_left _ hx)
  refine ⟨ds, [], _, [], p, [], hW', ?_, ?_, ?_, hb.frame _, fun h => by cases h⟩
  · rw [List.append_nil, hs, hr]
    exact trodAll_mk1 (shut_bool Tryz.underlying4 _)
  · rw [List.append_nil, ha]
    exact all_below hb ht hlt hA
  · rw [List.append_nil, hvs, hv]
    rfl
end Go.Pv.T
namespace Go.Pv.T
open Go Go.Pv Go.Proofs Go.ChangeShapes Go.WideShapes Go.ChangeAt Go.RowKit
inductive Ty where
  | bool
  | int (k : IntKind)
  | str
  | unit
  | pair (a b : Ty)
  | slice (t : Ty)
def Ty.cells : Ty → Nat
  | .unit => 0
  | .pair a b => a.cells + b.cells
  | _ => 1
/-- Cells of a shape. -/
inductive Sh : Ty → List V → Prop where
  | bool (b : Bool) : Sh .bool [.bool b]
  | int (k : IntKind) (n : Int) : Sh (.int k) [.int k n]
  | str (s : List UInt8) : Sh .str [.str s]
  | unit : Sh .unit []
  | pair {a b : Ty} {va vb : List V} (ha : Sh a va) (hb : Sh b vb) : Sh (.pair a b) (va ++ vb)
  | nil {t : Ty} : Sh (.slice t) [.sl none true 0 []]
  | slice {t : Ty} (es : List (List V)) (hn : es.length ≤ maxLen) (h : ∀ e ∈ es, Sh t e) : Sh (.slice t) [.sl none false es.length es.flatten]
def fieldsTy (P : Program) (g : TypeId → Option Ty) : List Field → Nat → Option Ty
  | [], _ => some .unit
  | f :: r, off => if f.offset = off then (g f.type).bind fun a => if P.cellsOf f.type = a.cells then (fieldsTy P g r (off + a.cells)).map (.pair a) else none else none
def tyOf (P : Program) : Nat → TypeId → Option Ty
  | 0, _ => none
  | n + 1, t => match P.underlying t with
    | some .bool => some .bool
    | some (.int k) => some (.int k)
    | some .string => some .str
    | some (.slice e) => (tyOf P n e).bind fun ty => if P.cellsOf e = ty.cells then some (.slice ty) else none
    | some (.struct fs) => (fieldsTy P (tyOf P n) fs.toList 0).bind fun ty => if P.cellsOf t = ty.cells then some ty else none
    | _ => none
theorem Sh.len {t : Ty} {vs : List V} (h : Sh t vs) : vs.length = t.cells := by
  induction h with
  | pair _ _ iha ihb => simp [Ty.cells, iha, ihb]
  | _ => rfl
theorem Sh.pure {t : Ty} {vs : List V} (h : Sh t vs) : ∀ v ∈ vs, v.pureLeaf = true := by
  induction h with
  | pair _ _ iha ihb => intro v hv; rcases List.mem_append.1 hv with h | h; exact iha v h; exact ihb v h
  | unit => intro v hv; cases hv
  | _ => intro v hv; rw [List.mem_singleton] at hv; subst hv; rfl
def Reps (I : IMap) (cs : List Value) (vs : List V) : Prop := cs.length = vs.length ∧ ∀ (j : Nat) (x : Value) (v : V), cs[j]? = some x → vs[j]? = some v → RepP I x v
theorem Reps.one {I : IMap} {x : Value} {v : V} (h : RepP I x v) : Reps I [x] [v] :=
  ⟨rfl, fun j y u hj hu => by
    match j, hj, hu with
    | 0, hj, hu => cases hj; cases hu; exact h
    | j + 1, hj, _ => simp at hj⟩
theorem flat_get {α : Type} {sz : Nat} (hs : 0 < sz) : ∀ (es : List (List α)), (∀ e ∈ es, e.length = sz) → ∀ j, es.flatten[j]? = (es[j / sz]?).bind fun e => e[j % sz]?
  | [], _, j => by simp
  | e :: es, h, j => by
    have he := h e (List.mem_cons_self ..)
    rw [List.flatten_cons, List.getElem?_append, he]
    split
    · rename_i hlt
      rw [Nat.div_eq_of_lt hlt, Nat.mod_eq_of_lt hlt]
      rfl
    · rename_i hge
      have hj : j = (j - sz) + sz := by omega
      rw [flat_get hs es (fun e he => h e (List.mem_cons_of_mem _ he)) (j - sz)]
      conv => rhs; rw [hj, Nat.add_div_right _ hs, Nat.add_mod_right]
      rfl
theorem flat_len {α : Type} {sz : Nat} : ∀ (es : List (List α)), (∀ e ∈ es, e.length = sz) → es.flatten.length = es.length * sz
  | [], _ => by simp
  | e :: es, h => by
    rw [List.flatten_cons, List.length_append, h e (List.mem_cons_self ..), flat_len es (fun e he => h e (List.mem_cons_of_mem _ he)), List.length_cons, Nat.succ_mul]
    omega
section
variable {H : Type} {enc : TypeId × Value → H} {W : World} {P : Program}
/-- For each of many there is one: a list of them. -/
theorem pick_list {α : Type} {p : Nat → α → Prop} : ∀ (n : Nat), (∀ i, i < n → ∃ a, p i a) → ∃ l : List α, l.length = n ∧ ∀ i a, l[i]? = some a → p i a
  | 0, _ => ⟨[], rfl, fun i a h => by simp at h⟩
  | n + 1, h => by
    obtain ⟨l, h1, h2⟩ := pick_list n (fun i hi => h i (by omega))
    obtain ⟨a, ha⟩ := h n (by omega)
    refine ⟨l ++ [a], by simp [h1], fun i b hb => ?_⟩
    rw [List.getElem?_append] at hb
    split at hb
    · exact h2 i b hb
    · rename_i hge
      have : i = n := by
        have := (List.getElem?_eq_some_iff.1 hb).1
        simp at this
        omega
      subst this
      simp [h1] at hb
      subst hb
      exact ha
theorem fields_rep {g : TypeId → Option Ty} {n : Nat} {cs : List Value} (ih : ∀ t ty, g t = some ty → ∀ cs x, DataW.trod enc P W 0 (fun _ => true) true n t cs = some x → ∃ vs, Sh ty vs ∧ Reps (cellsI W) cs vs) :
    ∀ (fs : List Field) (off : Nat) (ty : Ty), fieldsTy P g fs off = some ty → (∀ f ∈ fs, ∃ x, DataW.trod enc P W 0 (fun _ => true) true n f.type ((cs.drop f.offset).take (P.cellsOf f.type)) = some x) → cs.length = off + ty.cells →
      ∃ vs, Sh ty vs ∧ Reps (cellsI W) (cs.drop off) vs
  | [], off, ty, h, _, hl => by
    simp only [fieldsTy, Option.some.injEq] at h
    subst h
    simp only [Ty.cells, Nat.add_zero] at hl
    exact ⟨[], .unit, by simp [hl], fun j x v _ hv => by simp at hv⟩
  | f :: r, off, ty, h, hx, hl => by
    simp only [fieldsTy] at h
    split at h
    · rename_i hoff
      cases hg : g f.type with
      | none => rw [hg] at h; cases h
      | some a =>
        rw [hg, Option.bind_some] at h
        split at h
        · rename_i hc
          cases hr : fieldsTy P g r (off + a.cells) with
          | none => rw [hr] at h; cases h
          | some b =>
            rw [hr] at h
            cases h
            simp only [Ty.cells] at hl
            obtain ⟨x, hx0⟩ := hx f (List.mem_cons_self ..)
            obtain ⟨va, ha, hra⟩ := ih f.type a hg _ _ hx0
            obtain ⟨vb, hb, hrb⟩ := fields_rep ih r (off + a.cells) b hr (fun f' hf => hx f' (List.mem_cons_of_mem _ hf)) (by omega)
            refine ⟨va ++ vb, .pair ha hb, ?_, fun j y u hj hu => ?_⟩
            · have := ha.len; have := hb.len
              simp only [List.length_drop, List.length_append]
              omega
            · rw [hoff, hc] at hra
              rw [List.getElem?_append] at hu
              rw [ha.len] at hu
              rw [List.getElem?_drop] at hj
              split at hu
              · rename_i hlt
                exact hra.2 j y u (by rw [List.getElem?_take, if_pos hlt, List.getElem?_drop]; exact hj) hu
              · rename_i hge
                exact hrb.2 (j - a.cells) y u (by rw [List.getElem?_drop, show off + a.cells + (j - a.cells) = off + j from by omega]; exact hj) hu
        · cases h
    · cases h
theorem rep_of : ∀ (n : Nat) (t : TypeId) (ty : Ty), tyOf P n t = some ty → ∀ (fuel : Nat) (cs : List Value) (x : DataW H × List MemPlace), DataW.trod enc P W 0 (fun _ => true) true fuel t cs = some x → ∃ vs, Sh ty vs ∧ Reps (cellsI W) cs vs
  | 0, _, _, h, _, _, _, _ => by cases h
  | n + 1, t, ty, h, fuel, cs, x, hx => by
    simp only [tyOf] at h
    split at h
    · rename_i ht
      cases h
      obtain ⟨b, rfl, _⟩ := DataW.trod_bool ht hx
      exact ⟨_, .bool b, Reps.one (.bool b)⟩
    · rename_i k ht
      cases h
      obtain ⟨b, rfl, _⟩ := DataW.trod_int ht hx
      exact ⟨_, .int k b, Reps.one (.int k b)⟩
    · rename_i ht
      cases h
      obtain ⟨s, rfl, _⟩ := DataW.trod_string ht hx
      exact ⟨_, .str s.data.toList, Reps.one (.str s)⟩
    · rename_i e ht
      cases he : tyOf P n e with
      | none => rw [he] at h; cases h
      | some te =>
        rw [he, Option.bind_some] at h
        split at h
        · rename_i hc
          cases h
          rcases DataW.trod_slice ht hx with ⟨rfl, _⟩ | ⟨a, len, cap, elems, rest, m, _, rfl, _, _, hl, hm, hlen, hel, _, _⟩
          · exact ⟨_, .nil, Reps.one .slnil⟩
          · have each : ∀ i, i < len → ∃ vs, Sh te vs ∧ ∃ c, W.cells? 0 (a.add (i * te.cells)) te.cells = some c ∧ Reps (cellsI W) c vs := by
              intro i hi
              have h1 := hel i hi
              rw [List.getElem?_eq_getElem (by omega), hc] at h1
              obtain ⟨c, hc1, hc2⟩ := Option.bind_eq_some_iff.1 h1
              obtain ⟨vs, h3, h4⟩ := rep_of n e te he m c _ hc2
              exact ⟨vs, h3, c, hc1, h4⟩
            obtain ⟨es, h1, h2⟩ := pick_list len each
            have hsh : ∀ e ∈ es, Sh te e := fun e he => by
              obtain ⟨i, hi⟩ := List.getElem?_of_mem he
              exact (h2 i e hi).1
            have hsz : ∀ e ∈ es, e.length = te.cells := fun e he => (hsh e he).len
            have key : ∀ (j : Nat) (v : V), es.flatten[j]? = some v → 0 < te.cells ∧ j / te.cells < len ∧ ∃ y, W.cell? ((a.add (j / te.cells * te.cells)).add (j % te.cells)) = some y ∧ RepP (cellsI W) y v ∧ v.pureLeaf = true := by
              intro j v hj
              have h0 : 0 < te.cells := by
                rcases Nat.eq_zero_or_pos te.cells with h | h
                · have := flat_len es hsz
                  rw [h, Nat.mul_zero] at this
                  rw [List.length_eq_zero_iff.1 this] at hj
                  simp at hj
                · exact h
              rw [flat_get h0 es hsz] at hj
              cases hee : es[j / te.cells]? with
              | none => rw [hee] at hj; cases hj
              | some e =>
                rw [hee, Option.bind_some] at hj
                have hlt : j / te.cells < len := by rw [← h1]; exact (List.getElem?_eq_some_iff.1 hee).1
                obtain ⟨hse, c, hcc, hrr⟩ := h2 _ e hee
                have hme := Nat.mod_lt j h0
                have hcell := (World.cells?_some hcc).2.2 _ hme
                have hclen : c.length = te.cells := by rw [hrr.1, hse.len]
                rw [List.getElem?_eq_getElem (by omega)] at hcell
                exact ⟨h0, hlt, _, hcell, hrr.2 _ _ v (List.getElem?_eq_getElem (by omega)) hj, hse.pure v (List.mem_of_getElem? hj)⟩
            have spot : es.flatten ≠ [] → a.spot = none := by
              intro hne
              obtain ⟨v, hv⟩ : ∃ v, es.flatten[0]? = some v := by
                cases hf : es.flatten with
                | nil => exact absurd hf hne
                | cons v l => exact ⟨v, rfl⟩
              obtain ⟨h0, _, y, hy, _⟩ := key 0 v hv
              rw [Nat.zero_div, Nat.zero_mod, Nat.zero_mul] at hy
              simpa [Addr.add] using World.cell?_spot hy
            have cellAt : ∀ (j : Nat) (v : V), es.flatten[j]? = some v → ∃ y, W.cell? ⟨a.block, a.off + j, none⟩ = some y ∧ RepP (cellsI W) y v := by
              intro j v hj
              obtain ⟨h0, _, y, hy, hr, _⟩ := key j v hj
              have hs := spot (fun h => by rw [h] at hj; simp at hj)
              obtain ⟨b, off, sp⟩ := a
              simp only at hs
              subst hs
              rw [add_plain, add_plain] at hy
              refine ⟨y, ?_, hr⟩
              rw [← hy, Nat.add_assoc, Nat.div_add_mod']
            rw [← h1] at hl
            refine ⟨_, .slice es (Nat.le_trans hl hm) hsh, Reps.one ?_⟩
            rw [h1] at hl ⊢
            refine RepP.sl a len cap es.flatten (fun j => (W.cell? ⟨a.block, a.off + j, none⟩).getD .nilFunc) spot hl hm (fun j hj => ?_) (fun j v hj => ?_) (fun j v hj => ?_)
            · obtain ⟨y, hy, _⟩ := cellAt j _ (List.getElem?_eq_getElem hj)
              show W.cell? _ = some ((W.cell? _).getD _)
              rw [hy]
              rfl
            · exact (key j v hj).2.2.choose_spec.2.2
            · obtain ⟨y, hy, hr⟩ := cellAt j v hj
              show RepP _ ((W.cell? _).getD _) v
              rw [hy]
              exact hr
        · cases h
    · rename_i fs ht
      cases hf : fieldsTy P (tyOf P n) fs.toList 0 with
      | none => rw [hf] at h; cases h
      | some b =>
        rw [hf, Option.bind_some] at h
        split at h
        · rename_i hc
          cases h
          obtain ⟨xs, m, rfl, _, hl, hn, hel⟩ := DataW.trod_struct ht hx
          have := fields_rep (n := m) (cs := cs) (fun t ty h cs x hx => rep_of n t ty h m cs x hx) fs.toList 0 ty hf (fun f hfm => by
            obtain ⟨i, hi⟩ := List.getElem?_of_mem hfm
            have hi' : fs[i]? = some f := by simpa using hi
            have h1 := hel i f hi'
            have hlt : i < xs.length := by rw [hn]; exact (Array.getElem?_eq_some_iff.1 hi').1
            rw [List.getElem?_eq_getElem hlt] at h1
            exact ⟨_, h1⟩) (by rw [Nat.zero_add, hl, hc])
          simpa using this
        · cases h
    · cases h
end
end Go.Pv.T
namespace Go.Pv.T
open Go Go.Pv Go.Proofs Go.ChangeShapes Go.WideShapes Go.ChangeAt Go.RowKit Go.Proofs.YtkioopdogfmlfaaGreatDoor
/-- An array of pairs of numbers that reads as listed. -/
theorem arr2_rep {W : World} {t e : TypeId} {n fuel : Nat} {cs : List Value} {ds : List (DataW Unit)} {p : List MemPlace} {f0 f1 : Field} {k0 k1 : IntKind} (ht : Tryz.prog.underlying t = some (.array n e)) (hc : Tryz.prog.cellsOf e = 2)
    (he : Tryz.prog.underlying e = some (.struct #[f0, f1])) (o0 : f0.offset = 0) (o1 : f1.offset = 1) (c0 : Tryz.prog.cellsOf f0.type = 1) (c1 : Tryz.prog.cellsOf f1.type = 1)
    (u0 : Tryz.prog.underlying f0.type = some (.int k0)) (u1 : Tryz.prog.underlying f1.type = some (.int k1)) (h : DataW.trod (fun _ => ()) Tryz.prog W 0 (fun _ => true) false fuel t cs = some (.agg ds, p)) (I : IMap) :
    ∀ (j : Nat) (d : DataW Unit), (ds.map aggOf).flatten[j]? = some d → ∃ x, cs[j]? = some x ∧ RepP I x (litV d) := by
  obtain ⟨xs, m, rfl, hx, hlen, hn, hel⟩ := DataW.trod_array ht h
  simp only [Prod.mk.injEq, DataW.agg.injEq] at hx
  have one : ∀ (l : List Value) (j : Nat) c, (l.drop j).take 1 = [c] → l[j]? = some c := by
    intro l j c hcc
    have := congrArg List.head? hcc
    simpa [List.head?_take, List.head?_drop] using this
  have each : ∀ (j : Nat) (y : DataW Unit × List MemPlace), xs[j]? = some y → ∃ d0 d1 x0 x1, y.1 = .agg [d0, d1] ∧ cs[j * 2]? = some x0 ∧ RepP I x0 (litV d0) ∧ cs[j * 2 + 1]? = some x1 ∧ RepP I x1 (litV d1) := by
    intro j y hy
    have hj : j < n := by rw [← hn]; exact (List.getElem?_eq_some_iff.1 hy).1
    have h2 := hel j hj
    rw [hc, hy] at h2
    obtain ⟨y0, y1, m', e1, hl2, g0, g1⟩ := trod_struct2 he h2
    rw [o0, c0] at g0
    rw [o1, c1] at g1
    obtain ⟨z0, a0, b0, _⟩ := DataW.trod_int u0 g0
    obtain ⟨z1, a1, b1, _⟩ := DataW.trod_int u1 g1
    have q0 := one _ _ _ a0
    have q1 := one _ _ _ a1
    rw [List.getElem?_take, if_pos (by omega), List.getElem?_drop] at q0 q1
    refine ⟨y0.1, y1.1, _, _, by rw [e1], by simpa using q0, ?_, q1, ?_⟩
    · rw [b0]; exact RepP.int k0 z0
    · rw [b1]; exact RepP.int k1 z1
  have hds : ds = xs.map (·.1) := hx.1
  have len2 : ∀ e ∈ ds.map aggOf, e.length = 2 := by
    intro e he
    rw [hds, List.map_map] at he
    obtain ⟨y, hy, rfl⟩ := List.mem_map.1 he
    obtain ⟨j, hj⟩ := List.getElem?_of_mem hy
    obtain ⟨d0, d1, x0, x1, e, _⟩ := each j y hj
    simp only [Function.comp, e, aggOf, List.length_cons, List.length_nil]
  intro k d hd
  rw [flat_get (by decide) _ len2] at hd
  rw [hds, List.map_map, List.getElem?_map] at hd
  cases hy : xs[k / 2]? with
  | none => rw [hy] at hd; cases hd
  | some y =>
    rw [hy] at hd
    obtain ⟨d0, d1, x0, x1, e, g0, r0, g1, r1⟩ := each _ y hy
    simp only [Option.map_some, Option.bind_some, Function.comp, e, aggOf] at hd
    rcases Nat.mod_two_eq_zero_or_one k with hk | hk
    · rw [hk] at hd
      cases hd
      rw [show k / 2 * 2 = k from by omega] at g0
      exact ⟨x0, g0, r0⟩
    · rw [hk] at hd
      cases hd
      rw [show k / 2 * 2 + 1 = k from by omega] at g1
      exact ⟨x1, g1, r1⟩
def accD : List (DataW Unit) := ((aggOf Rows.laid_unicode_utf8_acceptRanges).map aggOf).flatten
theorem acc_eq : accD.map litV = accR := by kernel_rfl
theorem acc_agg : Rows.laid_unicode_utf8_acceptRanges = .agg (aggOf Rows.laid_unicode_utf8_acceptRanges) := by kernel_rfl
theorem acc_pure : (accD.map litV).all V.pureLeaf = true := by kernel_rfl
theorem glOk {W : World} (h : laidMetH Tryz.prog laidL W) : GlOk E (cellsI W) := by
  rw [MakeChecks.laidMetH_plain _ _ _ (by kernel_rfl)] at h
  obtain ⟨ps, ⟨g0, t0, cs0, f0, p0, q0, hg0, ht0, hv0, hd0, ⟨g1, t1, cs1, f1, p1, q1, hg1, ht1, hv1, hd1, ⟨g2, t2, cs2, f2, p2, q2, hg2, ht2, hv2, hd2, ⟨g3, t3, cs3, f3, p3, q3, hg3, ht3, hv3, hd3, ⟨g4, t4, cs4, f4, p4, q4, hg4, ht4, hv4, hd4, ⟨g5, t5, cs5, f5, p5, q5, hg5, ht5, hv5, hd5, ⟨g6, t6, cs6, f6, p6, q6, hg6, ht6, hv6, hd6, ⟨g7, t7, cs7, f7, p7, q7, hg7, ht7, hv7, hd7, ⟨g8, t8, cs8, f8, p8, q8, hg8, ht8, hv8, hd8, ⟨g9, t9, cs9, f9, p9, q9, hg9, ht9, hv9, hd9, _, _⟩, _⟩, _⟩, _⟩, _⟩, _⟩, _⟩, _⟩, _⟩, _⟩, _⟩ := h
  obtain rfl := Option.some.inj (g_0.symm.trans hg5)
  obtain rfl := Option.some.inj ((show (Tryz.prog.globals[0]?).map (·.type) = some 54 by kernel_rfl).symm.trans ht5)
  obtain rfl := Option.some.inj (g_1.symm.trans hg6)
  obtain rfl := Option.some.inj ((show (Tryz.prog.globals[1]?).map (·.type) = some 55 by kernel_rfl).symm.trans ht6)
  obtain rfl := Option.some.inj (g_2.symm.trans hg8)
  obtain rfl := Option.some.inj ((show (Tryz.prog.globals[2]?).map (·.type) = some 79 by kernel_rfl).symm.trans ht8)
  obtain rfl := Option.some.inj (g_3.symm.trans hg7)
  obtain rfl := Option.some.inj ((show (Tryz.prog.globals[3]?).map (·.type) = some 54 by kernel_rfl).symm.trans ht7)
  obtain rfl := Option.some.inj (g_4.symm.trans hg4)
  obtain rfl := Option.some.inj ((show (Tryz.prog.globals[4]?).map (·.type) = some 239 by kernel_rfl).symm.trans ht4)
  obtain rfl := Option.some.inj (g_6.symm.trans hg9)
  obtain rfl := Option.some.inj ((show (Tryz.prog.globals[6]?).map (·.type) = some 324 by kernel_rfl).symm.trans ht9)
  obtain rfl := Option.some.inj (g_7.symm.trans hg3)
  obtain rfl := Option.some.inj ((show (Tryz.prog.globals[7]?).map (·.type) = some 327 by kernel_rfl).symm.trans ht3)
  obtain rfl := Option.some.inj (g_10.symm.trans hg1)
  obtain rfl := Option.some.inj ((show (Tryz.prog.globals[10]?).map (·.type) = some 448 by kernel_rfl).symm.trans ht1)
  intro g cs hcs
  simp only [E] at hcs
  split at hcs
  · cases hcs
    rw [← e_0]
    rw [a_0] at hd5
    exact gl_rep g_0 hv5 p_0 (arr_rep Tryz.underlying54 (by kernel_rfl) (Or.inl (by kernel_rfl)) hd5 _)
  · cases hcs
    rw [← e_1]
    rw [a_1] at hd6
    exact gl_rep g_1 hv6 p_1 (arr_rep Tryz.underlying55 (by kernel_rfl) (Or.inl (by kernel_rfl)) hd6 _)
  · cases hcs
    rw [← e_2]
    rw [a_2] at hd8
    exact gl_rep g_2 hv8 p_2 (arr_rep Tryz.underlying79 (by kernel_rfl) (Or.inl (by kernel_rfl)) hd8 _)
  · cases hcs
    rw [← e_3]
    rw [a_3] at hd7
    exact gl_rep g_3 hv7 p_3 (arr_rep Tryz.underlying54 (by kernel_rfl) (Or.inl (by kernel_rfl)) hd7 _)
  · cases hcs
    rw [← e_4]
    rw [a_4] at hd4
    exact gl_rep g_4 hv4 p_4 (arr_rep Tryz.underlying239 (by kernel_rfl) (Or.inl (by kernel_rfl)) hd4 _)
  · cases hcs
    rw [← e_6]
    rw [a_6] at hd9
    exact gl_rep g_6 hv9 p_6 (arr_rep Tryz.underlying324 (by kernel_rfl) (Or.inr ⟨.u8, by kernel_rfl⟩) hd9 _)
  · cases hcs
    rw [← acc_eq]
    rw [acc_agg] at hd3
    exact gl_rep g_7 hv3 acc_pure (arr2_rep (k0 := .u8) (k1 := .u8) Tryz.underlying327 (by kernel_rfl) Tryz.underlying326 rfl rfl (by kernel_rfl) (by kernel_rfl) (by kernel_rfl) (by kernel_rfl) hd3 _)
  · cases hcs
    rw [← e_10]
    rw [a_10] at hd1
    exact gl_rep g_10 hv1 p_10 (arr_rep Tryz.underlying448 (by kernel_rfl) (Or.inr ⟨.u8, by kernel_rfl⟩) hd1 _)
  · cases hcs
/-- What the call of a law answers, out of the interpreter's word. -/
theorem calls_true {f : FuncId} {W : World} {args : Array Value} {vs : List V} (hL : laidMetH Tryz.prog laidL W) (hlen : args.size = vs.length) (hr : ∀ (j : Nat) (x : Value) (v : V), args[j]? = some x → vs[j]? = some v → RepP (cellsI W) x v)
    (he : Ev E f vs (.bool true)) : Calls Tryz.prog f args W fun e w' => e = .returned (.bool true) ∧ W.grownBy w' none := by
  refine (Ev.sound mixed envOk he W (cellsI W) args (cellsI_ok W) (glOk hL) hlen hr).mono fun e W' ⟨x, τ, I', h1, h2, _, _, _, h3, _⟩ => ⟨?_, h2⟩
  rw [h1]
  have h4 : RepP I' x (.bool true) := h3
  cases h4
  rfl
section
variable {H : Type} {enc : TypeId × Value → H} {W : World} {v : Value} {d : DataW H} {p : List MemPlace} {base : Nat}
theorem trodAll_1 {s : TypeId} {vs : List Value} {ds : List (DataW H)} {p : List MemPlace} (h : DataW.TrodAll enc Tryz.prog W 0 (fun _ => true) true [s] vs ds p) :
    ∃ v0 d0, vs = [v0] ∧ ds = [d0] ∧ ∃ p0, DataW.Trod enc Tryz.prog W 0 (fun _ => true) true s v0 d0 p0 := by
  match vs, ds, h with
  | [v0], [d0], ⟨p0, q, h0, _, _⟩ => exact ⟨v0, d0, rfl, rfl, p0, h0⟩
  | [], [], h => exact h.elim
  | [], _ :: _, h => exact h.elim
  | _ :: _, [], h => exact h.elim
  | [_], _ :: _ :: _, ⟨_, _, _, h, _⟩ => exact h.elim
  | _ :: _ :: _, [_], ⟨_, _, _, h, _⟩ => exact h.elim
  | _ :: _ :: _, _ :: _ :: _, ⟨_, _, _, h, _⟩ => exact h.elim
theorem read_ok (ts : List TypeId) (h : (ts.all fun t => Tryz.prog.readableRec t && decide (t < Tryz.prog.types.size)) = true) (t : TypeId) (ht : t ∈ ts) : Tryz.prog.readableRec t = true ∧ t < Tryz.prog.types.size := by
  have := List.all_eq_true.1 h t ht
  simpa using this
theorem okInt {k : IntKind} {t : TypeId} (ht : Tryz.prog.underlying t = some (.int k)) (hval : Value.okWide Tryz.prog W .any base t v) : ∃ n, v = .int k n ∧ k.has n := by
  simp only [Value.okWide, ht, Cell.okWide] at hval
  cases v <;> simp_all [Cell.ok]
theorem int_arg (hval : Value.okWide Tryz.prog W .any base 3 v) : ∃ n : Int, (-9223372036854775808 ≤ n ∧ n < 9223372036854775808) ∧ RepP (cellsI W) v (.int .i64 n) := by
  obtain ⟨n, rfl, h⟩ := okInt Tryz.underlying3 hval
  refine ⟨n, ?_, RepP.int .i64 n⟩
  simp [IntKind.has, IntKind.min, IntKind.max, IntKind.bits, IntKind.signed] at h
  omega
end
end Go.Pv.T
