/-
  The reckoner's state, what it says of a machine's, and one operation's effect. Over any program.
-/
import Derived.Test.YtemgpfojmdncjaaEx1
namespace Go.Proofs.Ytemgpfojmdncjaa
set_option linter.unusedVariables false
set_option linter.unusedSimpArgs false
open Go.RowKit

/-- What is known: of the temporaries, and of the numbered things. The newest row of a number counts. -/
structure St where
  tm : List (Nat × T)
  en : List (Nat × En)
  /-- the temporaries whose truth value stands there as a constant -/
  lit : List Nat := []

/-- The machine's state is as the reckoner's says. 'al': the numbers that have been given. -/
structure R (Γ : Env) (n : Nat) (w0 : World) (al : Nat → Prop) (s : St) (m : Maps) (a : Act) (w : World) : Prop where
  size : a.tmps.size = n
  defers : a.defers = []
  old : Γ.base ≤ w.heap.size
  below : Below Γ.base w0 w
  tm : ∀ t v, lkp s.tm t = some v → a.tmps.getD t undef = v.den m ∧ ∀ i ∈ v.ids, al i
  en : ∀ i E, lkp s.en i = some E → EnAt Γ m w i E ∧ al i ∧ ∀ j ∈ E.ids, al j
  pos : ¬ al 0

/-- An operation's effect: its value, and the numbered things that are new or have turned. -/
structure Eff where
  val : T
  upd : List (Nat × En)

def Eff.us (e : Eff) : List Nat := e.upd.map (·.1)
def kill (us : List Nat) : List (Nat × En) → List (Nat × En)
  | [] => []
  | (i, E) :: r => (i, if En.hangs us E then .dead else E) :: kill us r
def St.app (s : St) (dst : Option Tmp) (e : Eff) : St :=
  { tm := match dst with | some t => (t, e.val) :: s.tm | none => s.tm
    en := match e.upd with | [] => s.en | u => u ++ kill e.us s.en
    lit := match dst with | some t => s.lit.filter fun x => !(Nat.beq x t) | none => s.lit }

theorem kill_lkp (us : List Nat) (en : List (Nat × En)) (i : Nat) : lkp (kill us en) i = (lkp en i).map fun E => if En.hangs us E then .dead else E := by
  induction en with
  | nil => rfl
  | cons x r ih =>
    obtain ⟨j, E⟩ := x
    simp only [kill, lkp_cons, ih]
    split <;> rfl

/-- What an operation does to the machine, as its effect says. 'fr': the numbers that it may give. -/
structure Stp (Γ : Env) (al fr : Nat → Prop) (dst : Option Tmp) (m : Maps) (a : Act) (w : World) (e : Eff) (m' : Maps) (a' : Act) (w' : World) : Prop where
  act : a' = a.put dst (e.val.den m')
  same : Maps.same al m m'
  below : Below Γ.base w w'
  keep : ∀ b, b < w.heap.size → (b < Γ.base ∨ m.π b ∉ e.us) → w'.heap[b]? = w.heap[b]?
  own : ∀ b, b < w.heap.size → m.π b ∉ e.us → m'.π b = m.π b
  en : ∀ i E, lkp e.upd i = some E → EnAt Γ m' w' i E ∧ (al i ∨ fr i) ∧ ∀ j ∈ E.ids, al j ∨ fr j
  val : ∀ i ∈ e.val.ids, al i ∨ fr i

theorem lkp_none_us {e : Eff} {i : Nat} (h : lkp e.upd i = none) : i ∉ e.us := by
  intro hi
  obtain ⟨⟨j, E⟩, hm, rfl⟩ := List.mem_map.1 hi
  clear hi
  have : ∀ (l : List (Nat × En)), (j, E) ∈ l → lkp l j ≠ none := by
    intro l
    induction l with
    | nil => simp
    | cons x r ih =>
      obtain ⟨k, F⟩ := x
      intro hm
      rw [lkp_cons]
      split
      · simp
      · rename_i hne
        rcases List.mem_cons.1 hm with hm | hm
        · simp at hm; exact absurd hm.1.symm hne
        · exact ih hm
  exact this _ hm h
theorem us_lkp {e : Eff} {i : Nat} (h : i ∈ e.us) : ∃ E, lkp e.upd i = some E := by
  cases hl : lkp e.upd i with
  | none => exact absurd h (lkp_none_us hl)
  | some E => exact ⟨E, rfl⟩

theorem Act.getD_put {a : Act} {dst : Option Tmp} {v : Value} {t : Nat} : (a.put dst v).tmps.getD t undef = if dst = some t ∧ t < a.tmps.size then v else a.tmps.getD t undef := by
  cases dst with
  | none => simp [Act.put]
  | some d =>
    simp only [Act.put, Array.getD_eq_getD_getElem?, Option.some.injEq]
    by_cases hd : d = t
    · subst hd
      by_cases hl : d < a.tmps.size
      · simp [hl]
      · simp [hl, Array.getElem?_eq_none (Nat.le_of_not_lt hl)]
    · simp [hd, Array.getElem?_setIfInBounds_ne hd]

/-- What is known behind an operation. -/
theorem Stp.r {Γ : Env} {n : Nat} {w0 : World} {al fr : Nat → Prop} {s : St} {dst : Option Tmp} {m : Maps} {a : Act} {w : World} {e : Eff} {m' : Maps} {a' : Act} {w' : World}
    (h : R Γ n w0 al s m a w) (hs : Stp Γ al fr dst m a w e m' a' w') (hfr : ¬ fr 0) (hd : ∀ t, dst = some t → t < n) : R Γ n w0 (fun i => al i ∨ fr i) (s.app dst e) m' a' w' where
  size := by rw [hs.act]; cases dst <;> simp [Act.put, h.size]
  defers := by rw [hs.act]; cases dst <;> simp [Act.put, h.defers]
  old := Nat.le_trans h.old hs.below.size
  below := h.below.trans hs.below
  tm := by
    intro t v hv
    rw [hs.act, Act.getD_put]
    have ho : ∀ v, lkp s.tm t = some v → a.tmps.getD t undef = v.den m' ∧ ∀ i ∈ v.ids, al i ∨ fr i := fun v hv => by
      obtain ⟨h1, h2⟩ := h.tm t v hv
      exact ⟨by rw [h1, T.den_same hs.same h2], fun i hi => .inl (h2 i hi)⟩
    cases dst with
    | none => simpa using ho v hv
    | some d =>
      simp only [St.app, lkp_cons] at hv
      by_cases hdt : d = t
      · rw [if_pos hdt] at hv
        obtain rfl := Option.some.inj hv
        rw [if_pos ⟨by rw [hdt], by rw [h.size, ← hdt]; exact hd d rfl⟩]
        exact ⟨rfl, hs.val⟩
      · rw [if_neg hdt] at hv
        rw [if_neg (fun x => hdt (Option.some.inj x.1))]
        exact ho v hv
  en := by
    have h0 : 0 ∉ e.us := fun h0 => by
      obtain ⟨E, hE⟩ := us_lkp h0
      exact (hs.en _ _ hE).2.1.elim h.pos hfr
    have key : ∀ i E, lkp (e.upd ++ kill e.us s.en) i = some E → EnAt Γ m' w' i E ∧ (al i ∨ fr i) ∧ ∀ j ∈ E.ids, al j ∨ fr j := by
      intro i E hE
      rw [lkp_append] at hE
      cases hu : lkp e.upd i with
      | some E' =>
        rw [hu] at hE
        obtain rfl := Option.some.inj hE
        exact hs.en _ _ hu
      | none =>
        rw [hu, Option.none_or, kill_lkp] at hE
        cases hl : lkp s.en i with
        | none => rw [hl] at hE; cases hE
        | some E0 =>
          rw [hl] at hE
          simp only [Option.map_some, Option.some.injEq] at hE
          obtain ⟨h1, h2, h3⟩ := h.en i E0 hl
          cases hh : En.hangs e.us E0 with
          | true =>
            rw [hh] at hE
            simp only [if_true] at hE
            subst hE
            exact ⟨trivial, .inl h2, by simp [En.ids]⟩
          | false =>
            rw [hh] at hE
            simp only [Bool.false_eq_true, if_false] at hE
            subst hE
            exact ⟨h1.keep h2 h3 hs.same h0 (lkp_none_us hu) hh hs.below.size hs.keep hs.own, .inl h2, fun j hj => .inl (h3 j hj)⟩
    intro i E hE
    simp only [St.app] at hE
    cases hu : e.upd with
    | nil => rw [hu] at hE; exact key i E (by
        have hk : kill e.us s.en = s.en := by
          have : ∀ en : List (Nat × En), kill e.us en = en := by
            intro en
            have hus : e.us = [] := by simp [Eff.us, hu]
            induction en with
            | nil => rfl
            | cons x r ih => obtain ⟨j, E⟩ := x; rw [kill, ih, hus]; cases E <;> simp [En.hangs]
          exact this _
        rw [hu, hk]; exact hE)
    | cons x r => rw [hu] at hE; exact key i E (by rw [hu]; exact hE)
  pos := fun h0 => h0.elim h.pos hfr

/-- A state that knows less. -/
theorem R.less {Γ : Env} {n : Nat} {w0 : World} {al : Nat → Prop} {s s' : St} {m : Maps} {a : Act} {w : World} (h : R Γ n w0 al s m a w)
    (ht : ∀ t v, lkp s'.tm t = some v → lkp s.tm t = some v) (he : ∀ i E, lkp s'.en i = some E → E = .dead ∧ al i ∨ lkp s.en i = some E) : R Γ n w0 al s' m a w :=
  { h with
    tm := fun t v hv => h.tm t v (ht t v hv)
    en := fun i E hE => by
      rcases he i E hE with ⟨rfl, hi⟩ | h1
      · exact ⟨trivial, hi, by simp [En.ids]⟩
      · exact h.en i E h1 }
theorem R.more {Γ : Env} {n : Nat} {w0 : World} {al al' : Nat → Prop} {s : St} {m : Maps} {a : Act} {w : World} (h : R Γ n w0 al s m a w) (hal : ∀ i, al i → al' i) (h0 : ¬ al' 0) : R Γ n w0 al' s m a w :=
  { h with
    tm := fun t v hv => ⟨(h.tm t v hv).1, fun i hi => hal i ((h.tm t v hv).2 i hi)⟩
    en := fun i E hE => let ⟨a, b, c⟩ := h.en i E hE; ⟨a, hal i b, fun j hj => hal j (c j hj)⟩
    pos := h0 }

/-! ## Operands -/
def Cs.ofVals : List Value → Option (List C)
  | [] => some []
  | v :: r => if v.oneCell' then (Cs.ofVals r).map (C.im v :: ·) else none
def A.ofVal (v : Value) : Option A :=
  match v with
  | .agg cs => (Cs.ofVals cs.toList).map .agg
  | .tuple _ => none
  | v => some (.one (.im v))
def ev (s : St) : Operand → Option T
  | .tmp t => lkp s.tm t
  | .const v => (A.ofVal v).map .one
  | .func f => some (.one (.one (.clo f [])))
  | .global _ => none

theorem Cs.ofVals_den (m : Maps) : ∀ (l : List Value) (cs : List C), Cs.ofVals l = some cs → cs.map (C.den m) = l ∧ cs.flatMap C.ids = []
  | [], cs, h => by simp [Cs.ofVals] at h; subst h; simp
  | v :: r, cs, h => by
    simp only [Cs.ofVals] at h
    split at h
    · cases hr : Cs.ofVals r with
      | none => rw [hr] at h; cases h
      | some cs' =>
        rw [hr] at h
        simp only [Option.map_some, Option.some.injEq] at h
        subst h
        obtain ⟨h1, h2⟩ := Cs.ofVals_den m r cs' hr
        exact ⟨by simp [C.den, h1], by simp [C.ids, h2]⟩
    · cases h
theorem A.ofVal_den (m : Maps) {v : Value} {x : A} (h : A.ofVal v = some x) : x.den m = v ∧ x.ids = [] := by
  unfold A.ofVal at h
  split at h
  · rename_i cs
    cases hc : Cs.ofVals cs.toList with
    | none => rw [hc] at h; cases h
    | some l =>
      rw [hc] at h
      simp only [Option.map_some, Option.some.injEq] at h
      subst h
      obtain ⟨h1, h2⟩ := Cs.ofVals_den m _ _ hc
      exact ⟨by simp [A.den, h1], h2⟩
  · cases h
  · simp only [Option.some.injEq] at h; subst h; exact ⟨rfl, rfl⟩
theorem R.ev {Γ : Env} {n : Nat} {w0 : World} {al : Nat → Prop} {s : St} {m : Maps} {a : Act} {w : World} (h : R Γ n w0 al s m a w) {x : Operand} {v : T} (hv : ev s x = some v) : a.eval x = v.den m ∧ ∀ i ∈ v.ids, al i := by
  cases x with
  | tmp t => exact h.tm t v hv
  | const c =>
    simp only [Go.Proofs.Ytemgpfojmdncjaa.ev] at hv
    cases hc : A.ofVal c with
    | none => rw [hc] at hv; cases hv
    | some y =>
      rw [hc] at hv
      simp only [Option.map_some, Option.some.injEq] at hv
      subst hv
      obtain ⟨h1, h2⟩ := A.ofVal_den m hc
      exact ⟨h1.symm, by simp [T.ids, h2]⟩
  | func f =>
    simp only [Go.Proofs.Ytemgpfojmdncjaa.ev, Option.some.injEq] at hv
    subst hv
    exact ⟨rfl, by simp [T.ids, A.ids, C.ids]⟩
  | global g => simp [Go.Proofs.Ytemgpfojmdncjaa.ev] at hv

/-- An operation that leaves a value and turns nothing. -/
theorem Oper.wp_value {P : Program} {o : Oper} {a : Act} {w w' : World} {v : Value} {next : Act → World → Prop} {Q : Exit → Act → World → Prop} (h : (execOp a.eval o).run P w = .ok (.value v) w') (hn : next (a.put o.dst v) w') : o.wp P a w next Q := by
  unfold Oper.wp; rw [h]; exact hn
theorem Oper.wp_skip {P : Program} {o : Oper} {a : Act} {w w' : World} {next : Act → World → Prop} {Q : Exit → Act → World → Prop} (h : (execOp a.eval o).run P w = .ok .skip w') (hn : next (a.put o.dst undef) w') : o.wp P a w next Q := by
  unfold Oper.wp; rw [h]; exact hn
theorem Stp.pure {Γ : Env} {n : Nat} {w0 : World} {al fr : Nat → Prop} {s : St} {dst : Option Tmp} {m : Maps} {a : Act} {w : World} (_ : R Γ n w0 al s m a w) (v : T) (hv : ∀ i ∈ v.ids, al i) : Stp Γ al fr dst m a w ⟨v, []⟩ m (a.put dst (v.den m)) w where
  act := rfl
  same := fun _ _ => ⟨rfl, rfl⟩
  below := Below.refl _ _
  keep := fun _ _ _ => rfl
  own := fun _ _ _ => rfl
  en := fun i E h => by simp [lkp] at h
  val := fun i hi => .inl (hv i hi)
end Go.Proofs.Ytemgpfojmdncjaa
