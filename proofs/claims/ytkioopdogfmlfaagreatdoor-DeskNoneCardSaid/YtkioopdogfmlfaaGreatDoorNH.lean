/- Part of the proof. -/
import Derived.Test.YtkioopdogfmlfaaGreatDoorNG
set_option maxRecDepth 100000
set_option maxHeartbeats 8000000
set_option linter.all false
namespace Go.Pv
open Go
def AOp.plainOp : AOp → Bool
  | .call .. | .callV .. | .entry _ | .nextMap _ => false
  | _ => true
/-- An operation that writes nothing. -/
def AOp.valOp : AOp → Bool
  | .mov _ | .pick .. | .bin .. | .eq .. | .un .. | .build .. | .load .. | .nilCheck _ | .fieldAddr .. | .idxSl .. | .idxArr .. | .part .. | .idxStr .. | .idxVal .. | .slStr .. | .slSl .. | .lenStr _ | .lenSl _ | .lenMap _ | .extract .. | .mkFn .. | .lookup .. | .iface .. | .assert .. | .conv .. | .minmax .. => true
  | _ => false
def kDr (E : Env) (r : List AOpr) (K : List FP → St → Prop) : St → Nat → Prop := fun st ub => wpDraw E r st ub K
def kFp (f : FP) (K : List FP → St → Prop) : List FP → St → Prop := fun fs s => K (f :: fs) s
def kDQ (free : List (Nat × Nat)) (Q : Ex → St → Prop) : List FP → St → Prop := fun fs s => drawOk free fs = true ∧ newOk fs = true ∧ Q .nrm s
def kDGd (E : Env) (o : AOpr) (r : List AOpr) (st : St) (ub : Nat) (K : List FP → St → Prop) : Bool → Prop
  | true => wpDraw E (o :: r) st ub K
  | false => wpDraw E r (st.setT o.dst none') (ub + 64) (kFp {} K)
def kDApp (E : Env) (r : List AOpr) (K : List FP → St → Prop) (ρ : A → V) (op : AOp) (st : St) (d : Option Nat) (ub : Nat) : Delta → Prop := fun δ => wpDraw E r (st.app d δ) (ub + 64) (kFp (fpOf ρ op δ) K)
theorem val_delta {call : FuncId → List V → Option V} {ρ : A → V} {ob : Nat → Option Obj'} {tk : Nat → Bool} {ro du ub : Nat} {op : AOp} {δ : Delta} (h : op.valOp = true) (ha : aop call ρ ob tk ro du ub op = some δ) : ∃ v, δ = { v := v } := by
  have key : ∀ {o : Option V}, o.bind one = some δ → ∃ v, δ = { v := v } := fun {o} hb => by
    cases o with
    | none => cases hb
    | some v => cases hb; exact ⟨v, rfl⟩
  cases op <;> first | (cases h; done) | skip
  all_goals simp only [aop] at ha
  all_goals first
    | exact key ha
    | exact key (o := some _) ha
    | (repeat' split at ha) <;> first | (cases ha; done) | exact key ha | exact key (o := some _) ha | skip
  all_goals (try simp only [Option.bind_eq_some_iff] at ha)
  all_goals first
    | (obtain ⟨_, _, hb⟩ := ha; exact key (o := some _) hb)
    | skip
  all_goals
    obtain ⟨_, _, x, _, hb⟩ := ha
    first | exact key (o := some _) hb | (rcases x with _ | ⟨_, _⟩ <;> exact key (o := some _) hb)
def kPin (E : Env) (fs : List AOpr) (st : St) (Q : Ex → St → Prop) : St → Nat → Prop := fun s ub => wpDraw E fs s ub fun _ s' => sameF fs st s' = true ∧ Q .nrm s'
def kPQ (fs : List AOpr) (st : St) (Q : Ex → St → Prop) : List FP → St → Prop := fun _ s' => sameF fs st s' = true ∧ Q .nrm s'
section
variable {E : Env} {Yf : YF} {st : St} {ub : Nat} {K : List FP → St → Prop} {d : Option Nat} {nm : Bool} {Q : Ex → St → Prop} {r : List AOpr}
theorem kC_pin {o : AOpr} {fs : List AOpr} : wpC E Yf (.pin o fs) st Q = wpStep E Yf o st st.nx (kPin E fs st Q) := propext Iff.rfl
theorem kPin_app {fs : List AOpr} {s : St} : kPin E fs st Q s ub = wpDraw E fs s ub (kPQ fs st Q) := propext Iff.rfl
theorem kPQ_app {fs : List AOpr} {f : List FP} {s : St} : kPQ fs st Q f s = (sameF fs st s = true ∧ Q .nrm s) := propext Iff.rfl
theorem sameF_nil {s s' : St} : sameF [] s s' = true := by simp [sameF]
theorem sameF_cons {op : AOp} {gd : Option (Nat × Bool)} {t : Nat} {fs : List AOpr} {s s' : St} : sameF (⟨some t, op, gd, nm⟩ :: fs) s s' = (V.eqb (s.tm t) (s'.tm t) && sameF fs s s') := by simp [sameF]
theorem eqb_same (v : V) : V.eqb v v = true := eqb_refl v
theorem kDr_app : kDr E r K st ub = wpDraw E r st ub K := propext Iff.rfl
theorem kFp_app {f : FP} {fs : List FP} : kFp f K fs st = K (f :: fs) st := propext Iff.rfl
theorem kDQ_app {free : List (Nat × Nat)} {fs : List FP} : kDQ free Q fs st = (drawOk free fs = true ∧ newOk fs = true ∧ Q .nrm st) := propext Iff.rfl
theorem kC_draw {ops : List AOpr} {free : List (Nat × Nat)} : wpC E Yf (.draw ops free) st Q = wpDraw E ops st st.nx (kDQ free Q) := propext Iff.rfl
theorem kDr_nil : wpDraw E [] st ub K = K [] (st.setN ub) := propext Iff.rfl
theorem kDGd_true {o : AOpr} : kDGd E o r st ub K true = wpDraw E (o :: r) st ub K := propext Iff.rfl
theorem kDGd_false {o : AOpr} : kDGd E o r st ub K false = wpDraw E r (st.setT o.dst none') (ub + 64) (kFp {} K) := propext Iff.rfl
theorem kDr_guard {op : AOp} {t : Nat} {b : Bool} : wpDraw E (⟨d, op, some (t, b), nm⟩ :: r) st ub K = gdK (st.tm t) b (kDGd E ⟨d, op, none, nm⟩ r st ub K) := by
  have hn : AOpr.name ⟨d, op, some (t, b), nm⟩ = AOpr.name ⟨d, op, none, nm⟩ := rfl
  have ht : ∀ c, st.tm t = .bool c → (wpDraw E (⟨d, op, some (t, b), nm⟩ :: r) st ub K = kDGd E ⟨d, op, none, nm⟩ r st ub K (c == b)) := fun c hc => by
    cases hcb : (c == b)
    · have : wanted ⟨d, op, some (t, b), nm⟩ st.tm = some false := by simp [wanted, hc, hcb]
      rw [wpDraw, this, kDGd_false, ← app_v]; rfl
    · have : wanted ⟨d, op, some (t, b), nm⟩ st.tm = some true := by simp [wanted, hc, hcb]
      rw [wpDraw, this, kDGd_true, wpDraw]; rfl
  cases h : st.tm t with
  | bool c => rw [ht c h]; rfl
  | tup l => cases l with
    | nil =>
      have : wanted ⟨d, op, some (t, b), nm⟩ st.tm = some false := by simp [wanted, h]
      rw [wpDraw, this]
      show _ = kDGd E ⟨d, op, none, nm⟩ r st ub K false
      rw [kDGd_false, ← app_v]; rfl
    | cons a l =>
      have : wanted ⟨d, op, some (t, b), nm⟩ st.tm = none := by simp [wanted, h]
      rw [wpDraw, this]; rfl
  | _ =>
    have : wanted ⟨d, op, some (t, b), nm⟩ st.tm = none := by simp [wanted, h]
    rw [wpDraw, this]; rfl
theorem wpDraw_of {op : AOp} (h : op.plainOp = true) : wpDraw E (⟨d, op, none, nm⟩ :: r) st ub K = wpD (aop (fun _ _ => none) (eval E st.tm) st.ob st.tk st.ro (AOpr.name ⟨d, op, none, nm⟩ st.fb ub) ub op) (kDApp E r K (eval E st.tm) op st d ub) := by
  cases op <;> first | cases h; done | (simp only [wpDraw, wanted, sharedCall, AOp.far, true_and]; rfl)
theorem kD_val {op : AOp} (h : op.valOp = true) : wpDraw E (⟨d, op, none, nm⟩ :: r) st ub K = wpStep E Yf ⟨d, op, none, nm⟩ st ub (kDr E r (kFp { ro := rdOb (eval E st.tm) op, rt := rdTk (eval E st.tm) op } K)) := by
  have h1 : op.plainOp = true := by cases op <;> first | rfl | cases h
  have h2 : op.isCall = false := by cases op <;> first | rfl | cases h
  have h3 : op.isNext = false := by cases op <;> first | rfl | cases h
  rw [wpDraw_of h1, wpStep_of _ h2 h3]
  refine propext ⟨?_, ?_⟩
  · rintro ⟨δ, hδ, hk⟩
    obtain ⟨v, rfl⟩ := val_delta h hδ
    exact ⟨_, hδ, hk⟩
  · rintro ⟨δ, hδ, hk⟩
    obtain ⟨v, rfl⟩ := val_delta h hδ
    exact ⟨_, hδ, hk⟩
theorem kD_store {sz : Nat} {p x : A} : wpDraw E (⟨d, .store sz p x, none, nm⟩ :: r) st ub K = wpStore st sz (eval E st.tm x) (kDApp E r K (eval E st.tm) (.store sz p x) st d ub) (eval E st.tm p) := by
  rw [wpDraw_of rfl]
  simp only [aop]
  generalize he : kDApp E r K (eval E st.tm) (.store sz p x) st d ub = k
  clear he
  generalize eval E st.tm p = vp
  cases vp <;> simp only [wpD_none, wpStore]
  rename_i l u off
  cases objCells st.ob l u with
  | none => simp [wpD]
  | some cs => simp only [Option.bind_some, wpD_ite, wpD_some, Option.some.injEq, exists_eq_left', Nat.ble_eq, and_assoc]
theorem kD_alloc {z : List V} : wpDraw E (⟨d, .alloc z, none, nm⟩ :: r) st ub K = kDApp E r K (eval E st.tm) (.alloc z) st d ub { v := .ptr (objName d nm st.fb ub) ub 0, obs := [(objName d nm st.fb ub, ⟨ub, .cells z⟩)] } := by
  rw [wpDraw_of rfl]; simp only [aop, mkObj, wpD_some, name_eq]
theorem kD_box {sz : Nat} {x : A} : wpDraw E (⟨d, .box sz x, none, nm⟩ :: r) st ub K = (((eval E st.tm x).cells.length = sz ∧ (eval E st.tm x).cells.all V.leaf = true) ∧ kDApp E r K (eval E st.tm) (.box sz x) st d ub { v := .ptr (objName d nm st.fb ub) ub 0, obs := [(objName d nm st.fb ub, ⟨ub, .cells (eval E st.tm x).cells⟩)] }) := by
  rw [wpDraw_of rfl]; simp only [aop, mkObj, wpD_ite, wpD_some, name_eq]
theorem kDApp_v {ρ : A → V} {op : AOp} {v : V} : kDApp E r K ρ op st d ub { v := v } = wpDraw E r (st.setT d v) (ub + 64) (kFp (fpOf ρ op { v := v }) K) := by rw [kDApp, app_v]
theorem kDApp_app {ρ : A → V} {op : AOp} {δ : Delta} : kDApp E r K ρ op st d ub δ = wpDraw E r (st.app d δ) (ub + 64) (kFp (fpOf ρ op δ) K) := propext Iff.rfl
theorem kD_ev {f : FuncId} {xs : List A} {args : List V} {v : V} (hev : Ev E f args v) (hx : (xs.map fun x => (eval E st.tm x).strip) = args) (hs : E.sh nm f = false) (hp : args.all V.pureTop = true) (h : wpD (retA ub v) (kDApp E r K (eval E st.tm) (.call f xs) st d ub)) :
    wpDraw E (⟨d, .call f xs, none, nm⟩ :: r) st ub K := by
  have hp' : (xs.all fun x => (eval E st.tm x).strip.pureTop) = true := by rw [← hx, List.all_map] at hp; exact hp
  have hsh : sharedCall E nm (eval E st.tm) (.call f xs) = none := by simp only [sharedCall, hs, hp', Bool.not_false, Bool.and_self, if_true]
  obtain ⟨δ, hδ, hk⟩ := h
  simp only [wpDraw, wanted, hsh, AOp.far, true_and]
  exact ⟨hp', v, hx ▸ hev, δ, hδ, hk⟩
theorem kS_ev {K : St → Nat → Prop} {f : FuncId} {xs : List A} {args : List V} {v : V} (hev : Ev E f args v) (hx : (xs.map fun x => (eval E st.tm x).strip) = args) (hs : E.sh nm f = false) (hp : args.all V.pureTop = true) (h : wpD (retA ub v) (kApp K st d ub)) :
    wpStep E Yf ⟨d, .call f xs, none, nm⟩ st ub K := by
  have hp' : (xs.all fun x => (eval E st.tm x).strip.pureTop) = true := by rw [← hx, List.all_map] at hp; exact hp
  have hsh : sharedCall E nm (eval E st.tm) (.call f xs) = none := by simp only [sharedCall, hs, hp', Bool.not_false, Bool.and_self, if_true]
  obtain ⟨δ, hδ, hk⟩ := h
  simp only [wpStep, wanted, yieldCall, hsh, wpCall]
  exact ⟨by rw [hx]; exact hp, v, hx ▸ hev, δ, hδ, hk⟩
end
/-! What a loop leaves alone. -/
def inR (t : Nat) : List (Nat × Nat) → Bool
  | [] => false
  | (a, b) :: l => (decide (a ≤ t) && decide (t ≤ b)) || inR t l
@[simp] theorem inR_nil (t : Nat) : inR t [] = false := rfl
@[simp] theorem inR_cons (t a b : Nat) (l : List (Nat × Nat)) : inR t ((a, b) :: l) = ((decide (a ≤ t) && decide (t ≤ b)) || inR t l) := rfl
def C.ws : C → List Nat
  | .region ops | .draw ops _ => ops.filterMap (·.dst)
  | .pin o fs => (o :: fs).filterMap (·.dst)
  | .seq a b | .cond _ a b => a.ws ++ b.ws
  | .block _ a | .loop a => a.ws
  | _ => []
def C.noRF : C → Bool
  | .rangeFunc .. => false
  | .seq a b | .cond _ a b => a.noRF && b.noRF
  | .block _ a | .loop a => a.noRF
  | _ => true
structure Keeps (p : Nat → Prop) (st s : St) : Prop where
  b : s.fb = st.fb
  r : s.ro = st.ro
  d : s.df = st.df
  t : ∀ t, ¬ p t → s.tm t = st.tm t
theorem Keeps.rfl' (p : Nat → Prop) (st : St) : Keeps p st st := ⟨rfl, rfl, rfl, fun _ _ => rfl⟩
theorem Keeps.trans {p q q' : Nat → Prop} {a b c : St} (h : Keeps p a b) (h' : Keeps q b c) (hp : ∀ t, p t → q' t) (hq : ∀ t, q t → q' t) : Keeps q' a c :=
  ⟨h'.b.trans h.b, h'.r.trans h.r, h'.d.trans h.d, fun t ht => (h'.t t fun h => ht (hq t h)).trans (h.t t fun h => ht (hp t h))⟩
theorem Keeps.weak {p q : Nat → Prop} {a b : St} (h : Keeps p a b) (hp : ∀ t, p t → q t) : Keeps q a b := ⟨h.b, h.r, h.d, fun t ht => h.t t fun h => ht (hp t h)⟩
theorem put_ne {tm : Nat → V} {d : Option Nat} {v : V} {t : Nat} (h : ¬ t ∈ d.toList) : put tm d v t = tm t := by
  cases d with
  | none => rfl
  | some d => exact upd_ne tm v (fun e => h (by simp [e]))
theorem Keeps.app {st : St} {d : Option Nat} {δ : Delta} : Keeps (· ∈ d.toList) st (st.app d δ) := ⟨rfl, rfl, rfl, fun _ ht => put_ne ht⟩
section
variable {E : Env} {Yf : YF}
theorem wpStep_keeps {o : AOpr} {st : St} {ub : Nat} {K : St → Nat → Prop} (hk : wpStep E Yf o st ub K) : wpStep E Yf o st ub fun s u => K s u ∧ Keeps (· ∈ o.dst.toList) st s := by
  have call : ∀ {f : FuncId} {xs : List V}, wpCall E f xs st o.dst ub K → wpCall E f xs st o.dst ub fun s u => K s u ∧ Keeps (· ∈ o.dst.toList) st s := by
    rintro f xs ⟨hp, v, hv, δ, hδ, hK⟩
    exact ⟨hp, v, hv, δ, hδ, hK, Keeps.app⟩
  unfold wpStep at hk ⊢
  cases hw : wanted o st.tm with
  | none => simp only [hw] at hk
  | some b =>
    cases b with
    | false => simp only [hw] at hk ⊢; exact ⟨hk, rfl, rfl, rfl, fun _ ht => put_ne ht⟩
    | true =>
      simp only [hw] at hk ⊢
      cases hy : yieldCall (eval E st.tm) o.op with
      | some x =>
       obtain ⟨l, u, xs⟩ := x
       simp only [hy] at hk ⊢
       obtain ⟨r, hr, hK⟩ := hk
       exact ⟨r, hr, hK, rfl, rfl, rfl, fun _ ht => put_ne ht⟩
      | none =>
      simp only [hy] at hk ⊢
      cases hsh : sharedCall E o.nm (eval E st.tm) o.op with
      | some fx =>
        simp only [hsh] at hk ⊢
        rcases hk with ⟨h1, n, l, hr, hne, hK⟩ | ⟨h1, v, hv, δ, hδ, hK⟩
        · exact .inl ⟨h1, n, l, hr, hne, fun r hm => ⟨hK r hm, rfl, rfl, rfl, fun _ ht => put_ne ht⟩⟩
        · exact .inr ⟨h1, v, hv, δ, hδ, hK, Keeps.app⟩
      | none =>
        simp only [hsh] at hk ⊢
        cases ho : o.op <;> simp only [ho] at hk ⊢
        case call f xs => exact call hk
        case callV q xs =>
          obtain ⟨f, first, captured, hev, hk⟩ := hk
          exact ⟨f, first, captured, hev, call hk⟩
        case nextMap x =>
          obtain ⟨l, hl, hK⟩ := hk
          exact ⟨l, hl, fun δ hδ => ⟨hK δ hδ, Keeps.app⟩⟩
        all_goals
          obtain ⟨δ, hδ, hK⟩ := hk
          exact ⟨δ, hδ, hK, Keeps.app⟩
theorem mem_ws_cons {o : AOpr} {r : List AOpr} {t : Nat} : t ∈ (o :: r).filterMap (·.dst) ↔ t ∈ o.dst.toList ∨ t ∈ r.filterMap (·.dst) := by
  cases h : o.dst with
  | none => simp [h]
  | some d => simp [h]
theorem wpOps_keeps : ∀ {ops : List AOpr} {st : St} {ub : Nat} {K : St → Prop}, wpOps' E Yf ops st ub K → wpOps' E Yf ops st ub fun s => K s ∧ Keeps (· ∈ ops.filterMap (·.dst)) st s
  | [], st, ub, K, hk => ⟨hk, rfl, rfl, rfl, fun _ _ => rfl⟩
  | o :: r, st, ub, K, hk => by
    refine wpStep_mono (fun s u h => ?_) (wpStep_keeps hk)
    refine wpOps_mono (fun s' h' => ?_) (wpOps_keeps h.1)
    exact ⟨h'.1, h.2.trans h'.2 (fun t ht => mem_ws_cons.2 (.inl ht)) (fun t ht => mem_ws_cons.2 (.inr ht))⟩
theorem wpDraw_keeps : ∀ {ops : List AOpr} {st : St} {ub : Nat} {K : List FP → St → Prop}, wpDraw E ops st ub K → wpDraw E ops st ub fun f s => K f s ∧ Keeps (· ∈ ops.filterMap (·.dst)) st s
  | [], st, ub, K, hk => ⟨hk, rfl, rfl, rfl, fun _ _ => rfl⟩
  | o :: r, st, ub, K, hk => by
    have key : ∀ {δ : Delta} {f : List FP → List FP} {ub : Nat}, wpDraw E r (st.app o.dst δ) ub (fun fs s => K (f fs) s) → wpDraw E r (st.app o.dst δ) ub fun fs s => K (f fs) s ∧ Keeps (· ∈ (o :: r).filterMap (·.dst)) st s := fun h =>
      wpDraw_mono (fun f s h' => ⟨h'.1, Keeps.app.trans h'.2 (fun t ht => mem_ws_cons.2 (.inl ht)) (fun t ht => mem_ws_cons.2 (.inr ht))⟩) (wpDraw_keeps h)
    unfold wpDraw at hk ⊢
    cases hw : wanted o st.tm with
    | none => simp only [hw] at hk
    | some b =>
      cases b with
      | false => simp only [hw] at hk ⊢; exact key (f := fun fs => {} :: fs) hk
      | true =>
        simp only [hw] at hk ⊢
        cases hsh : sharedCall E o.nm (eval E st.tm) o.op with
        | some fx =>
          simp only [hsh] at hk ⊢
          rcases hk with ⟨h1, v, hv, δ, hδ, hK⟩ | ⟨h1, h2, a', v, ha, hv, δ, hδ, hK⟩ | ⟨h1, h2, δ, hδ, hK⟩
          · exact .inl ⟨h1, v, hv, δ, hδ, key (f := fun fs => { wt := δ.wt, all := true, seen := fun l => (st.ob l).isSome } :: fs) hK⟩
          · exact .inr (.inl ⟨h1, h2, a', v, ha, hv, δ, hδ, key (f := fun fs => { wo := δ.wo, all := true, seen := fun l => (st.ob l).isSome, nw := true } :: fs) hK⟩)
          · exact .inr (.inr ⟨h1, h2, δ, hδ, key (f := fun fs => { wo := δ.wo, nw := true } :: fs) hK⟩)
        | none =>
          simp only [hsh] at hk ⊢
          refine ⟨hk.1, ?_⟩
          have hk := hk.2
          cases ho : o.op <;> simp only [ho] at hk ⊢
          case call f xs =>
            obtain ⟨h1, v, hv, δ, hδ, hK⟩ := hk
            exact ⟨h1, v, hv, δ, hδ, key (f := fun fs => fpOf (eval E st.tm) (.call f xs) δ :: fs) hK⟩
          case callV q xs =>
            obtain ⟨f, first, captured, hev, h1, v, hv, δ, hδ, hK⟩ := hk
            exact ⟨f, first, captured, hev, h1, v, hv, δ, hδ, key (f := fun fs => fpOf (eval E st.tm) (.callV q xs) δ :: fs) hK⟩
          all_goals
            obtain ⟨δ, hδ, hK⟩ := hk
            exact ⟨δ, hδ, key (f := fun fs => fpOf (eval E st.tm) _ δ :: fs) hK⟩
theorem wpC_keeps : ∀ {c : C}, c.noRF = true → ∀ {st : St} {Q : Ex → St → Prop}, wpC E Yf c st Q → wpC E Yf c st fun e s => Q e s ∧ Keeps (· ∈ c.ws) st s := by
  intro c
  induction c with
  | skip => intro _ st Q hk; exact ⟨hk, Keeps.rfl' _ _⟩
  | ret => intro _ st Q hk; exact ⟨hk, Keeps.rfl' _ _⟩
  | exit id => intro _ st Q hk; exact ⟨hk, Keeps.rfl' _ _⟩
  | stuck => intro _ st Q hk; exact hk
  | rangeFunc f ps a b => intro hn; cases hn
  | region ops => intro _ st Q hk; exact wpOps_keeps hk
  | draw ops free => intro _ st Q hk; exact wpDraw_mono (fun f s h => ⟨h.1.1, h.1.2.1, h.1.2.2, h.2⟩) (wpDraw_keeps hk)
  | pin o fs => intro _ st Q hk; exact wpStep_mono (fun s u h => wpDraw_mono (fun f s' h' => ⟨h'.1.1, h'.1.2, h.2.trans h'.2 (fun t ht => mem_ws_cons.2 (.inl ht)) (fun t ht => mem_ws_cons.2 (.inr ht))⟩) (wpDraw_keeps h.1)) (wpStep_keeps hk)
  | seq a b iha ihb =>
    intro hn st Q hk
    have hn := Bool.and_eq_true_iff.1 hn
    rw [kC_seq]
    refine wpC_mono (fun e s he => ?_) (iha hn.1 hk)
    obtain ⟨he, hf⟩ := he
    cases e
    · refine wpC_mono (fun e s' he' => ?_) (ihb hn.2 he)
      exact ⟨he'.1, hf.trans he'.2 (fun t ht => List.mem_append.2 (.inl ht)) (fun t ht => List.mem_append.2 (.inr ht))⟩
    · exact ⟨he, hf.weak (fun t ht => List.mem_append.2 (.inl ht))⟩
    · exact ⟨he, hf.weak (fun t ht => List.mem_append.2 (.inl ht))⟩
  | cond q a b iha ihb =>
    intro hn st Q hk
    have hn := Bool.and_eq_true_iff.1 hn
    obtain ⟨t, ht, h1, h2⟩ := hk
    exact ⟨t, ht, fun e => wpC_mono (fun e s he => ⟨he.1, he.2.weak (fun t ht => List.mem_append.2 (.inl ht))⟩) (iha hn.1 (h1 e)),
      fun e => wpC_mono (fun e s he => ⟨he.1, he.2.weak (fun t ht => List.mem_append.2 (.inr ht))⟩) (ihb hn.2 (h2 e))⟩
  | block id a ih =>
    intro hn st Q hk
    rw [kC_block]
    refine wpC_mono (fun e s he => ?_) (ih hn hk)
    obtain ⟨he, hf⟩ := he
    cases e
    · exact ⟨he, hf⟩
    · simp only [kBlk_exit] at he ⊢
      split at he
      · rename_i hi; simp only [hi, if_true]; exact ⟨he, hf⟩
      · rename_i hi; simp only [hi, if_false]; exact ⟨he, hf⟩
    · exact ⟨he, hf⟩
  | loop a ih =>
    intro hn st Q hk
    obtain ⟨N, hk⟩ := hk
    refine ⟨N, ?_⟩
    have key : ∀ (N : Nat) (st : St), wpLoop (wpC E Yf a) N st Q → wpLoop (wpC E Yf a) N st fun e s => Q e s ∧ Keeps (· ∈ a.ws) st s := by
      intro N
      induction N with
      | zero => intro st h; exact h
      | succ N ihN =>
        intro st h
        refine wpC_mono (fun e s he => ?_) (ih hn h)
        obtain ⟨he, hf⟩ := he
        cases e
        · exact wpLoop_mono (W := wpC E Yf a) (fun _ _ _ h hk => wpC_mono h hk) (fun e s' he' => ⟨he'.1, hf.trans he'.2 (fun _ h => h) (fun _ h => h)⟩) (ihN s he)
        · exact ⟨he, hf⟩
        · exact ⟨he, hf⟩
    exact key N st hk
/-- A loop: it leaves alone what it does not write. -/
theorem wp_loopF {a : C} {Q : Ex → St → Prop} {n : Nat} {st : St} (ws : List (Nat × Nat)) (I : Nat → St → Prop) (hn : a.noRF = true) (hw : (a.ws.all fun t => inR t ws) = true) (h0 : I n st)
    (hs : ∀ k s, I k s → Keeps (fun t => inR t ws = true) st s → wpC E Yf a s (kLoop I k Q)) : wpC E Yf (.loop a) st Q := by
  refine wp_loopK (fun k s => I k s ∧ Keeps (fun t => inR t ws = true) st s) (n := n) ⟨h0, Keeps.rfl' _ _⟩ fun k s ⟨hI, hf⟩ => ?_
  refine wpC_mono (fun e s' he => ?_) (wpC_keeps hn (hs k s hI hf))
  obtain ⟨he, hf'⟩ := he
  cases e
  · obtain ⟨j, hj, hI'⟩ := he
    exact ⟨j, hj, hI', hf.trans hf' (fun _ h => h) (fun t ht => List.all_eq_true.1 hw t ht)⟩
  · exact he
  · exact he
def kUp (I : Nat → St → Prop) (N i : Nat) (Q : Ex → St → Prop) : Ex → St → Prop := fun e s => match e with
  | .nrm => i < N ∧ I (i + 1) s
  | e => Q e s
/-- A loop that counts up. -/
theorem wp_loopUp {a : C} {Q : Ex → St → Prop} {st : St} (ws : List (Nat × Nat)) (N : Nat) (I : Nat → St → Prop) (hn : a.noRF = true) (hw : (a.ws.all fun t => inR t ws) = true) (h0 : I 0 st)
    (hs : ∀ i s, i ≤ N → I i s → Keeps (fun t => inR t ws = true) st s → wpC E Yf a s (kUp I N i Q)) : wpC E Yf (.loop a) st Q := by
  refine wp_loopF (n := N) ws (fun k s => ∃ i, k = N - i ∧ i ≤ N ∧ I i s) hn hw ⟨0, rfl, Nat.zero_le _, h0⟩ ?_
  rintro k s ⟨i, rfl, hi, hI⟩ hf
  refine wpC_mono (fun e s' he => ?_) (hs i s hi hI hf)
  cases e
  · obtain ⟨h1, h2⟩ := he
    exact ⟨N - (i + 1), by omega, i + 1, rfl, by omega, h2⟩
  · exact he
  · exact he
end
theorem kUp_nrm {I : Nat → St → Prop} {N i : Nat} {Q : Ex → St → Prop} {st : St} : kUp I N i Q .nrm st = (i < N ∧ I (i + 1) st) := propext Iff.rfl
theorem kUp_exit {I : Nat → St → Prop} {N i j : Nat} {Q : Ex → St → Prop} {st : St} : kUp I N i Q (.exit j) st = Q (.exit j) st := propext Iff.rfl
theorem kUp_ret {I : Nat → St → Prop} {N i : Nat} {Q : Ex → St → Prop} {st : St} : kUp I N i Q .ret st = Q .ret st := propext Iff.rfl
theorem noNew_nil : noNew [] = true := rfl
theorem noNew_cons (f : FP) (fs : List FP) : noNew (f :: fs) = (!f.nw && noNew fs) := rfl
theorem fpOf_nw (ρ : A → V) (o : AOp) (δ : Delta) : (fpOf ρ o δ).nw = false := rfl
theorem newOk_noNew {fs : List FP} (h : noNew fs = true) : newOk fs = true := by simp only [newOk, h, Bool.true_or]
theorem drawOk_nil (fs : List FP) : drawOk [] fs = true := rfl
section
variable {E : Env} {st : St} {ub : Nat} {K : List FP → St → Prop} {d : Option Nat} {nm : Bool} {r : List AOpr}
theorem kD_mov {x : A} : wpDraw E (⟨d, .mov x, none, nm⟩ :: r) st ub K = wpStep E noYF ⟨d, .mov x, none, nm⟩ st ub (kDr E r (kFp { ro := rdOb (eval E st.tm) (.mov x), rt := rdTk (eval E st.tm) (.mov x) } K)) := kD_val rfl
theorem kD_pick {c a b : A} : wpDraw E (⟨d, .pick c a b, none, nm⟩ :: r) st ub K = wpStep E noYF ⟨d, .pick c a b, none, nm⟩ st ub (kDr E r (kFp { ro := rdOb (eval E st.tm) (.pick c a b), rt := rdTk (eval E st.tm) (.pick c a b) } K)) := kD_val rfl
theorem kD_bin {op : BinOp} {x y : A} : wpDraw E (⟨d, .bin op x y, none, nm⟩ :: r) st ub K = wpStep E noYF ⟨d, .bin op x y, none, nm⟩ st ub (kDr E r (kFp { ro := rdOb (eval E st.tm) (.bin op x y), rt := rdTk (eval E st.tm) (.bin op x y) } K)) := kD_val rfl
theorem kD_eq {neg : Bool} {k : EqK} {x y : A} : wpDraw E (⟨d, .eq neg k x y, none, nm⟩ :: r) st ub K = wpStep E noYF ⟨d, .eq neg k x y, none, nm⟩ st ub (kDr E r (kFp { ro := rdOb (eval E st.tm) (.eq neg k x y), rt := rdTk (eval E st.tm) (.eq neg k x y) } K)) := kD_val rfl
theorem kD_un {op : UnOp} {x : A} : wpDraw E (⟨d, .un op x, none, nm⟩ :: r) st ub K = wpStep E noYF ⟨d, .un op x, none, nm⟩ st ub (kDr E r (kFp { ro := rdOb (eval E st.tm) (.un op x), rt := rdTk (eval E st.tm) (.un op x) } K)) := kD_val rfl
theorem kD_build {z : List V} {ps : List (Nat × Nat × A)} : wpDraw E (⟨d, .build z ps, none, nm⟩ :: r) st ub K = wpStep E noYF ⟨d, .build z ps, none, nm⟩ st ub (kDr E r (kFp { ro := rdOb (eval E st.tm) (.build z ps), rt := rdTk (eval E st.tm) (.build z ps) } K)) := kD_val rfl
theorem kD_load {g : Option Nat} {x : A} : wpDraw E (⟨d, .load g x, none, nm⟩ :: r) st ub K = wpStep E noYF ⟨d, .load g x, none, nm⟩ st ub (kDr E r (kFp { ro := rdOb (eval E st.tm) (.load g x), rt := rdTk (eval E st.tm) (.load g x) } K)) := kD_val rfl
theorem kD_nilCheck {x : A} : wpDraw E (⟨d, .nilCheck x, none, nm⟩ :: r) st ub K = wpStep E noYF ⟨d, .nilCheck x, none, nm⟩ st ub (kDr E r (kFp { ro := rdOb (eval E st.tm) (.nilCheck x), rt := rdTk (eval E st.tm) (.nilCheck x) } K)) := kD_val rfl
theorem kD_fieldAddr {o : Nat} {x : A} : wpDraw E (⟨d, .fieldAddr o x, none, nm⟩ :: r) st ub K = wpStep E noYF ⟨d, .fieldAddr o x, none, nm⟩ st ub (kDr E r (kFp { ro := rdOb (eval E st.tm) (.fieldAddr o x), rt := rdTk (eval E st.tm) (.fieldAddr o x) } K)) := kD_val rfl
theorem kD_idxSl {sz : Nat} {x i : A} : wpDraw E (⟨d, .idxSl sz x i, none, nm⟩ :: r) st ub K = wpStep E noYF ⟨d, .idxSl sz x i, none, nm⟩ st ub (kDr E r (kFp { ro := rdOb (eval E st.tm) (.idxSl sz x i), rt := rdTk (eval E st.tm) (.idxSl sz x i) } K)) := kD_val rfl
theorem kD_idxArr {len sz : Nat} {x i : A} : wpDraw E (⟨d, .idxArr len sz x i, none, nm⟩ :: r) st ub K = wpStep E noYF ⟨d, .idxArr len sz x i, none, nm⟩ st ub (kDr E r (kFp { ro := rdOb (eval E st.tm) (.idxArr len sz x i), rt := rdTk (eval E st.tm) (.idxArr len sz x i) } K)) := kD_val rfl
theorem kD_part {g : Option Nat} {o : Nat} {x : A} : wpDraw E (⟨d, .part g o x, none, nm⟩ :: r) st ub K = wpStep E noYF ⟨d, .part g o x, none, nm⟩ st ub (kDr E r (kFp { ro := rdOb (eval E st.tm) (.part g o x), rt := rdTk (eval E st.tm) (.part g o x) } K)) := kD_val rfl
theorem kD_idxStr {x i : A} : wpDraw E (⟨d, .idxStr x i, none, nm⟩ :: r) st ub K = wpStep E noYF ⟨d, .idxStr x i, none, nm⟩ st ub (kDr E r (kFp { ro := rdOb (eval E st.tm) (.idxStr x i), rt := rdTk (eval E st.tm) (.idxStr x i) } K)) := kD_val rfl
theorem kD_slStr {x : A} {lo hi : Option A} : wpDraw E (⟨d, .slStr x lo hi, none, nm⟩ :: r) st ub K = wpStep E noYF ⟨d, .slStr x lo hi, none, nm⟩ st ub (kDr E r (kFp { ro := rdOb (eval E st.tm) (.slStr x lo hi), rt := rdTk (eval E st.tm) (.slStr x lo hi) } K)) := kD_val rfl
theorem kD_slSl {sz : Nat} {x : A} {lo hi : Option A} : wpDraw E (⟨d, .slSl sz x lo hi, none, nm⟩ :: r) st ub K = wpStep E noYF ⟨d, .slSl sz x lo hi, none, nm⟩ st ub (kDr E r (kFp { ro := rdOb (eval E st.tm) (.slSl sz x lo hi), rt := rdTk (eval E st.tm) (.slSl sz x lo hi) } K)) := kD_val rfl
theorem kD_lenStr {x : A} : wpDraw E (⟨d, .lenStr x, none, nm⟩ :: r) st ub K = wpStep E noYF ⟨d, .lenStr x, none, nm⟩ st ub (kDr E r (kFp { ro := rdOb (eval E st.tm) (.lenStr x), rt := rdTk (eval E st.tm) (.lenStr x) } K)) := kD_val rfl
theorem kD_lenSl {x : A} : wpDraw E (⟨d, .lenSl x, none, nm⟩ :: r) st ub K = wpStep E noYF ⟨d, .lenSl x, none, nm⟩ st ub (kDr E r (kFp { ro := rdOb (eval E st.tm) (.lenSl x), rt := rdTk (eval E st.tm) (.lenSl x) } K)) := kD_val rfl
theorem kD_lenMap {x : A} : wpDraw E (⟨d, .lenMap x, none, nm⟩ :: r) st ub K = wpStep E noYF ⟨d, .lenMap x, none, nm⟩ st ub (kDr E r (kFp { ro := rdOb (eval E st.tm) (.lenMap x), rt := rdTk (eval E st.tm) (.lenMap x) } K)) := kD_val rfl
theorem kD_extract {x : A} {i : Nat} : wpDraw E (⟨d, .extract x i, none, nm⟩ :: r) st ub K = wpStep E noYF ⟨d, .extract x i, none, nm⟩ st ub (kDr E r (kFp { ro := rdOb (eval E st.tm) (.extract x i), rt := rdTk (eval E st.tm) (.extract x i) } K)) := kD_val rfl
theorem kD_mkFn {f : Fn} {a b : List A} : wpDraw E (⟨d, .mkFn f a b, none, nm⟩ :: r) st ub K = wpStep E noYF ⟨d, .mkFn f a b, none, nm⟩ st ub (kDr E r (kFp { ro := rdOb (eval E st.tm) (.mkFn f a b), rt := rdTk (eval E st.tm) (.mkFn f a b) } K)) := kD_val rfl
theorem kD_lookup {q : LK} {z : V} {ok : Bool} {m k : A} : wpDraw E (⟨d, .lookup q z ok m k, none, nm⟩ :: r) st ub K = wpStep E noYF ⟨d, .lookup q z ok m k, none, nm⟩ st ub (kDr E r (kFp { ro := rdOb (eval E st.tm) (.lookup q z ok m k), rt := rdTk (eval E st.tm) (.lookup q z ok m k) } K)) := kD_val rfl
theorem kD_conv {k : IntKind} {x : A} : wpDraw E (⟨d, .conv k x, none, nm⟩ :: r) st ub K = wpStep E noYF ⟨d, .conv k x, none, nm⟩ st ub (kDr E r (kFp { ro := rdOb (eval E st.tm) (.conv k x), rt := rdTk (eval E st.tm) (.conv k x) } K)) := kD_val rfl
theorem kD_minmax {b : Bool} {xs : List A} : wpDraw E (⟨d, .minmax b xs, none, nm⟩ :: r) st ub K = wpStep E noYF ⟨d, .minmax b xs, none, nm⟩ st ub (kDr E r (kFp { ro := rdOb (eval E st.tm) (.minmax b xs), rt := rdTk (eval E st.tm) (.minmax b xs) } K)) := kD_val rfl
end
attribute [simp ↓] kC_pin kPin_app kPQ_app kC_draw kDr_nil kDr_guard kD_store kD_alloc kD_box kD_mov kD_pick kD_bin kD_eq kD_un kD_build kD_load kD_nilCheck kD_fieldAddr kD_idxSl kD_idxArr kD_part kD_idxStr kD_slStr kD_slSl kD_lenStr kD_lenSl kD_lenMap kD_extract kD_mkFn kD_lookup kD_conv kD_minmax
attribute [simp ↓] kDr_app kFp_app kDQ_app kDGd_true kDGd_false kDApp_v kDApp_app kUp_nrm kUp_exit kUp_ret
attribute [simp] sameF_nil sameF_cons eqb_same drawOk_nil noNew_nil noNew_cons fpOf_nw newOk_noNew
def kL (E : Env) (Yf : YF) (a : C) (n : Nat) (Q : Ex → St → Prop) : Ex → St → Prop := fun e s => match e with
  | .nrm => wpLoop (wpC E Yf a) n s Q
  | e => Q e s
section
variable {E : Env} {Yf : YF} {a : C} {Q : Ex → St → Prop} {s : St} {n : Nat}
theorem kL_nrm : kL E Yf a n Q .nrm s = wpLoop (wpC E Yf a) n s Q := propext Iff.rfl
theorem kL_exit {i : Nat} : kL E Yf a n Q (.exit i) s = Q (.exit i) s := propext Iff.rfl
theorem kL_ret : kL E Yf a n Q .ret s = Q .ret s := propext Iff.rfl
theorem wpLoop_1 : wpLoop (wpC E Yf a) 1 s Q = wpC E Yf a s (kL E Yf a 0 Q) := propext Iff.rfl
theorem wpLoop_2 : wpLoop (wpC E Yf a) 2 s Q = wpC E Yf a s (kL E Yf a 1 Q) := propext Iff.rfl
theorem wpLoop_3 : wpLoop (wpC E Yf a) 3 s Q = wpC E Yf a s (kL E Yf a 2 Q) := propext Iff.rfl
theorem wpLoop_4 : wpLoop (wpC E Yf a) 4 s Q = wpC E Yf a s (kL E Yf a 3 Q) := propext Iff.rfl
/-- So many rounds at most, one by one. -/
theorem wp_unroll (n : Nat) (h : wpLoop (wpC E Yf a) n s Q) : wpC E Yf (.loop a) s Q := ⟨n, h⟩
end
def wpStr (k : List UInt8 → Prop) : V → Prop
  | .str s => k s
  | _ => False
@[simp] theorem wpStr_str (k : List UInt8 → Prop) (s : List UInt8) : wpStr k (.str s) = k s := rfl
/-- A number's entries in a map. -/
def MP {α : Type} (f : α → V) (m : List (Int × α)) : List (V × V) := m.map fun p => (.int .i64 p.1, f p.2)
def mfind {α : Type} : List (Int × α) → Int → Option (Nat × α)
  | [], _ => none
  | (k', a) :: m, k => if k = k' then some (0, a) else (mfind m k).map fun p => (p.1 + 1, p.2)
def mset {α : Type} (m : List (Int × α)) (k : Int) (a : α) : List (Int × α) := match mfind m k with
  | some (i, _) => m.set i (k, a)
  | none => m ++ [(k, a)]
theorem findKey_MP {α : Type} (f : α → V) (k : Int) : ∀ m : List (Int × α), findKey .int (.int .i64 k) (MP f m) = some ((mfind m k).map fun p => (p.1, f p.2))
  | [] => rfl
  | (k', a) :: m => by
    have ih := findKey_MP f k m
    unfold MP at ih ⊢
    simp only [List.map_cons, findKey, eqLeaf, if_true, mfind]
    by_cases h : k = k'
    · simp [h]
    · rw [if_neg h, show (k == k') = false by simpa using h]
      simp only [ih, Option.map_some, Option.map_map]
      rfl
@[simp] theorem MP_length {α : Type} (f : α → V) (m : List (Int × α)) : (MP f m).length = m.length := by simp [MP]
def intV (n : Int) : V := .int .i64 n
def mcnt (m : List (Int × Int)) (k : Int) : Int := ((mfind m k).map (·.2)).getD 0
theorem lookupV_MP {α : Type} {f : α → V} {ob : Nat → Option Obj'} {l u : Nat} {z : V} {ok : Bool} {k : Int} (m : List (Int × α)) (h : objMap ob l u = some (MP f m)) :
    lookupV ob .int z ok (.map l u) (.int .i64 k) = some (match mfind m k with | some p => if ok then .tup [f p.2, .bool true] else f p.2 | none => if ok then .tup [z, .bool false] else z) := by
  simp only [lookupV, isKey, if_true, h, Option.bind_some, findKey_MP, Option.map_some]
  cases mfind m k <;> rfl
theorem lookupV_MI {ob : Nat → Option Obj'} {l u : Nat} {k : Int} (m : List (Int × Int)) (h : objMap ob l u = some (MP intV m)) : lookupV ob .int (.int .i64 0) false (.map l u) (.int .i64 k) = some (.int .i64 (mcnt m k)) := by
  rw [lookupV_MP m h, mcnt]
  cases mfind m k <;> rfl
section
variable {E : Env} {Yf : YF} {st : St} {ub : Nat} {K : St → Nat → Prop} {d : Option Nat} {nm : Bool}
theorem kS_rangeStr {x : A} : wpStep E Yf ⟨d, .range true x, none, nm⟩ st ub K = wpStr (fun s => kApp K st d ub { v := .iter (objName d nm st.fb ub) ub, obs := [(objName d nm st.fb ub, ⟨ub, .siter s 0⟩)] }) (eval E st.tm x) := by
  rw [wpStep_of _ rfl rfl]
  simp only [aop, name_eq]
  cases eval E st.tm x <;> simp only [wpD_none, wpStr, mkObj, wpD_some]
  rfl
theorem kS_nextStr {x : A} {l u pos : Nat} {s : List UInt8} (hx : eval E st.tm x = .iter l u) (ho : st.ob l = some ⟨u, .siter s pos⟩) (hro : st.ro ≤ u)
    (h1 : pos < s.length → kApp K st d ub { v := .tup [.bool true, .int .i64 pos, .int .i32 ((Utf8.decode ⟨s.toArray⟩ pos).1 : Nat)], obs := [(l, ⟨u, .siter s (pos + (Utf8.decode ⟨s.toArray⟩ pos).2)⟩)] })
    (h2 : ¬ pos < s.length → kSet K st d ub (.tup [.bool false])) : wpStep E Yf ⟨d, .nextStr x, none, nm⟩ st ub K := by
  rw [wpStep_of _ rfl rfl]
  simp only [aop, hx, ho]
  rw [if_pos (by simpa using hro)]
  by_cases h : pos < s.length
  · rw [if_pos h, wpD_some]; exact h1 h
  · rw [if_neg h, wpD_one, app_v]; exact h2 h
theorem kS_mkMap : wpStep E Yf ⟨d, .mkMap, none, nm⟩ st ub K = kApp K st d ub { v := .map (objName d nm st.fb ub) ub, obs := [(objName d nm st.fb ub, ⟨ub, .mp 0 []⟩)] } := by
  rw [wpStep_of _ rfl rfl]
  simp only [aop, mkObj, wpD_some, name_eq]
  rfl
theorem kS_mapSet {α : Type} {f : α → V} {x y z : A} {l u ver : Nat} {k : Int} {a : α} (m : List (Int × α)) (hm : eval E st.tm x = .map l u) (hk : eval E st.tm y = .int .i64 k) (hv : (eval E st.tm z).strip = f a)
    (ho : st.ob l = some ⟨u, .mp ver (MP f m)⟩) (hro : st.ro ≤ u) (h : kApp K st d ub { v := none', obs := [(l, ⟨u, .mp (ver + 1) (MP f (mset m k a))⟩)] }) : wpStep E Yf ⟨d, .mapSet .int x y z, none, nm⟩ st ub K := by
  have hob : objMap st.ob l u = some (MP f m) := by simp [objMap, ho]
  have hver : objVer st.ob l = ver := by simp [objVer, ho]
  rw [wpStep_of _ rfl rfl]
  simp only [aop, hm, hk, isKey, if_true, hob, Option.bind_some, findKey_MP, hver, hv]
  rw [if_pos (by simpa using hro)]
  unfold mset at h
  cases hf : mfind m k with
  | none =>
    rw [hf] at h
    simp only [Option.map_none, wpD_some]
    simpa [MP] using h
  | some p =>
    rw [hf] at h
    simp only [Option.map_some, wpD_some]
    have e : (MP f m).set p.1 (V.int .i64 k, f a) = MP f (m.set p.1 (k, a)) := by simp [MP, List.map_set]
    rw [e]
    exact h
end
attribute [simp ↓] kL_nrm kL_exit kL_ret wpLoop_1 wpLoop_2 wpLoop_3 wpLoop_4 kS_rangeStr kS_mkMap
@[simp] theorem lenMapV_map (ob : Nat → Option Obj') (l u : Nat) : lenMapV ob (.map l u) = (objMap ob l u).map fun es => .int .i64 es.length := rfl
/-- The keys of a map, in the order in which they came. -/
def ddAdd (l : List Int) (k : Int) : List Int := if k ∈ l then l else l ++ [k]
def dd (l : List Int) : List Int := l.foldl ddAdd []
theorem dd_snoc (l : List Int) (k : Int) : dd (l ++ [k]) = ddAdd (dd l) k := by simp [dd]
theorem mfind_none {α : Type} {m : List (Int × α)} {k : Int} : mfind m k = none ↔ k ∉ m.map (·.1) := by
  induction m with
  | nil => simp [mfind]
  | cons p m ih =>
    obtain ⟨k', a⟩ := p
    by_cases h : k = k'
    · simp [mfind, h]
    · simp [mfind, h, ih]
theorem mfind_some {α : Type} {m : List (Int × α)} {k : Int} {i : Nat} {a : α} (h : mfind m k = some (i, a)) : ∃ hi : i < m.length, m[i] = (k, a) := by
  induction m generalizing i with
  | nil => cases h
  | cons p m ih =>
    obtain ⟨k', a'⟩ := p
    by_cases hk : k = k'
    · simp only [mfind, hk, if_true, Option.some.injEq, Prod.mk.injEq] at h
      obtain ⟨rfl, rfl⟩ := h
      exact ⟨by simp, by simp [hk]⟩
    · simp only [mfind, hk, if_false, Option.map_eq_some_iff, Prod.mk.injEq] at h
      obtain ⟨⟨j, b⟩, hj, rfl, rfl⟩ := h
      obtain ⟨h1, h2⟩ := ih hj
      exact ⟨by simpa using h1, by simpa using h2⟩
theorem mset_keys {α : Type} (m : List (Int × α)) (k : Int) (a : α) : (mset m k a).map (·.1) = ddAdd (m.map (·.1)) k := by
  unfold mset ddAdd
  cases h : mfind m k with
  | none => rw [if_neg (mfind_none.1 h)]; simp
  | some p =>
    obtain ⟨i, b⟩ := p
    obtain ⟨hi, hb⟩ := mfind_some h
    have hmem : k ∈ m.map (·.1) := List.mem_map.2 ⟨_, List.getElem_mem hi, by rw [hb]⟩
    rw [if_pos hmem, List.map_set]
    apply List.ext_getElem (by simp)
    intro j h1 h2
    simp only [List.getElem_set, List.getElem_map]
    split
    · rename_i hij; subst hij; rw [hb]
    · rfl
theorem mem_ddAdd {l : List Int} {k x : Int} : x ∈ ddAdd l k ↔ x ∈ l ∨ x = k := by
  unfold ddAdd
  split
  · constructor
    · exact .inl
    · rintro (h | rfl) <;> assumption
  · simp
theorem mem_dd {l : List Int} {x : Int} : x ∈ dd l ↔ x ∈ l := by
  have key : ∀ (l acc : List Int), x ∈ l.foldl ddAdd acc ↔ x ∈ acc ∨ x ∈ l := by
    intro l
    induction l with
    | nil => intro acc; simp
    | cons a l ih => intro acc; simp only [List.foldl_cons, ih, mem_ddAdd, List.mem_cons, or_assoc]
  simpa [dd] using key l []
theorem nodup_ddAdd {l : List Int} {k : Int} (h : l.Nodup) : (ddAdd l k).Nodup := by
  unfold ddAdd
  split
  · exact h
  · rename_i hk
    rw [List.nodup_append]
    refine ⟨h, by simp, ?_⟩
    intro a ha b hb e
    simp only [List.mem_singleton] at hb
    subst hb
    subst e
    exact hk ha
theorem nodup_dd (l : List Int) : (dd l).Nodup := by
  have key : ∀ (l acc : List Int), acc.Nodup → (l.foldl ddAdd acc).Nodup := by
    intro l
    induction l with
    | nil => intro acc h; exact h
    | cons a l ih => intro acc h; exact ih _ (nodup_ddAdd h)
  exact key l [] List.nodup_nil
/-- As many as there may be: then each is there. -/
theorem pigeon : ∀ (n : Nat) (l : List Int), l.Nodup → (∀ x ∈ l, 0 ≤ x ∧ x < n) → l.length ≤ n ∧ (l.length = n ↔ ∀ k : Nat, k < n → (k : Int) ∈ l)
  | 0, l, hn, hb => by
    have : l = [] := by
      cases l with
      | nil => rfl
      | cons a l => have := hb a (by simp); omega
    subst this
    simp
  | n + 1, l, hn, hb => by
    have hn' : (l.erase (n : Int)).Nodup := hn.erase _
    have hb' : ∀ x ∈ l.erase (n : Int), 0 ≤ x ∧ x < n := fun x hx => by
      have h1 := hb x (List.mem_of_mem_erase hx)
      have h2 : x ≠ n := fun e => by subst e; exact (List.Nodup.not_mem_erase hn) hx
      omega
    obtain ⟨h1, h2⟩ := pigeon n _ hn' hb'
    by_cases hm : (n : Int) ∈ l
    · have hl := List.length_erase_of_mem hm
      have hp : 0 < l.length := List.length_pos_of_mem hm
      refine ⟨by omega, ?_⟩
      constructor
      · intro e k hk
        rcases Nat.lt_succ_iff_lt_or_eq.1 hk with h | rfl
        · exact List.mem_of_mem_erase (h2.1 (by omega) k h)
        · exact hm
      · intro hall
        have := h2.2 (fun k hk => (List.Nodup.mem_erase_iff hn).2 ⟨by omega, hall k (by omega)⟩)
        omega
    · rw [List.erase_of_not_mem hm] at h1 h2
      refine ⟨by omega, ?_⟩
      constructor
      · intro e; omega
      · intro hall; exact absurd (hall n (by omega)) hm
end Go.Pv
