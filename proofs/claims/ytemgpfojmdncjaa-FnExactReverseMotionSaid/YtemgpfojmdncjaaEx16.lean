/-
  The reckoner's loops and joins: a state that a given one covers, numbers renamed; and a function's text. Over any program.
-/
import Derived.Test.YtemgpfojmdncjaaEx15
namespace Go.Proofs.Ytemgpfojmdncjaa
set_option linter.unusedVariables false
set_option linter.unusedSimpArgs false
open Go.RowKit

abbrev Ren := List (Nat × Nat)
abbrev Cov := Option (List Prop × Ren)
def addR (ρ : Ren) (k k' : Nat) : Cov :=
  match lkp ρ k with
  | none => some ([], (k, k') :: ρ)
  | some x => if Nat.beq x k' = true then some ([], ρ) else none
def Cov.then (x : Cov) (f : Ren → Cov) : Cov :=
  match x with
  | none => none
  | some (ps, ρ) =>
    match f ρ with
    | none => none
    | some (qs, ρ') => some (ps ++ qs, ρ')
/-- A cell of the state that covers, and the cell that is there. -/
def covC (ρ : Ren) (c c' : C) : Cov :=
  match c, c' with
  | .im a, .im b => some ([b = a], ρ)
  | .ext k, .ext k' => addR ρ k k'
  | .bp i o, .bp i' o' => if Nat.beq o o' = true then addR ρ i i' else none
  | _, _ => none
def covCs (ρ : Ren) : List C → List C → Cov
  | [], [] => some ([], ρ)
  | c :: cs, d :: ds => (covC ρ c d).then fun ρ => covCs ρ cs ds
  | _, _ => none
def covT (ρ : Ren) (t t' : T) : Cov :=
  match t, t' with
  | .one (.one c), .one (.one d) => covC ρ c d
  | .one (.agg cs), .one (.agg ds) => covCs ρ cs ds
  | _, _ => none
def covTm (s : St) : Ren → List (Nat × T) → Cov
  | ρ, [] => some ([], ρ)
  | ρ, (t, v) :: r =>
    match lkp s.tm t with
    | some v' => (covT ρ v v').then fun ρ => covTm s ρ r
    | none => none
def En.track : En → Bool
  | .box _ => true
  | .own _ _ _ => true
  | .top _ _ _ _ => true
  | _ => false
/-- The actual numbers of those that may turn. -/
def tracked (ρ : Ren) : List (Nat × En) → Ren
  | [] => []
  | (i, E) :: r =>
    match E.track, lkp ρ i with
    | true, some i' => (i, i') :: tracked ρ r
    | _, _ => tracked ρ r
def covEn1 (s : St) (ρ : Ren) (i : Nat) (E : En) : Cov :=
  match lkp ρ i with
  | none => none
  | some i' =>
    match E, lkp s.en i' with
    | .box cs, some (.box ds) => covCs ρ cs ds
    | .own e ts rows, some (.own e' ts' rows') => if (Nat.beq e e' && Ty.beqs ts ts') = true then some ([rows' = rows], ρ) else none
    | .top e ts rows _, some (.top e' ts' rows' _) => if (Nat.beq e e' && Ty.beqs ts ts') = true then some ([rows' = rows], ρ) else none
    | .top e ts rows _, some (.own e' ts' []) => if (Nat.beq e e' && Ty.beqs ts ts') = true then some ([[] = rows], ρ) else none
    | .view e ts rows _, some E' =>
      match En.sl E' i' with
      | some (e', ts', rows', _) => if (Nat.beq e e' && Ty.beqs ts ts') = true then some ([rows' = rows], ρ) else none
      | none => none
    | .dead, _ => none
    | _, _ => none
def covEn (s : St) : Ren → List (Nat × En) → Cov
  | ρ, [] => some ([], ρ)
  | ρ, (i, E) :: r => (covEn1 s ρ i E).then fun ρ => covEn s ρ r
/-- What it hangs on there, it hangs on here: or nobody may turn it any more. -/
def depChk (s : St) (ρ T0 : Ren) : List (Nat × En) → Bool
  | [] => true
  | (i, E) :: r =>
    (match E, lkp ρ i with
     | .view _ _ _ deps, some i' =>
       match (lkp s.en i').bind (En.sl · i') with
       | some (_, _, _, deps') => deps'.all fun d => T0.all fun x => !(Nat.beq x.2 d) || mem deps x.1
       | none => false
     | .top _ _ _ deps, some i' =>
       match lkp s.en i' with
       | some (.top _ _ _ deps') => deps'.all fun d => T0.all fun x => !(Nat.beq x.2 d) || mem deps x.1
       | _ => true
     | _, _ => true) && depChk s ρ T0 r
def idOk (nx i : Nat) : Bool := Nat.ble 1 i && Nat.ble (i + 1) nx
def stOk (nx : Nat) (s : St) : Bool := Nat.ble 1 nx && (s.tm.all fun x => x.2.ids.all (idOk nx)) && (s.en.all fun x => idOk nx x.1 && x.2.ids.all (idOk nx))
def conj : List Prop → Prop
  | [] => True
  | [p] => p
  | p :: q :: r => p ∧ conj (q :: r)
theorem conj_mem : ∀ {l : List Prop}, conj l → ∀ p ∈ l, p
  | [], _, p, hp => by simp at hp
  | [q], h, p, hp => by rw [List.mem_singleton.1 hp]; exact h
  | q :: q' :: r, h, p, hp => by
    rcases List.mem_cons.1 hp with rfl | hp
    · exact h.1
    · exact conj_mem h.2 p hp
/-- The state s is one of those that τ tells of. -/
def covers (nx : Nat) (s τ : St) : Prop :=
  match (covTm s [] τ.tm).then fun ρ => covEn s ρ τ.en with
  | none => False
  | some (ps, ρ) =>
    match stOk nx τ && nodupB ((tracked ρ τ.en).map (·.2)) && nodupB (τ.en.map (·.1)) && depChk s ρ (tracked ρ τ.en) τ.en with
    | true => conj ps
    | false => False

/-! ## Renamed places -/
def ext (ρ ρ' : Ren) : Prop := ∀ k x, lkp ρ k = some x → lkp ρ' k = some x
theorem ext.refl (ρ : Ren) : ext ρ ρ := fun _ _ h => h
theorem ext.trans {a b c : Ren} (h : ext a b) (k : ext b c) : ext a c := fun i x hx => k i x (h i x hx)
theorem addR_ok {ρ ρ' : Ren} {k k' : Nat} {ps : List Prop} (h : addR ρ k k' = some (ps, ρ')) : ext ρ ρ' ∧ lkp ρ' k = some k' := by
  unfold addR at h
  split at h
  · rename_i hn
    simp only [Option.some.injEq, Prod.mk.injEq] at h
    obtain ⟨-, rfl⟩ := h
    refine ⟨fun i x hx => ?_, by simp [lkp_cons]⟩
    rw [lkp_cons, if_neg]
    · exact hx
    · intro e; subst e; rw [hn] at hx; cases hx
  · rename_i x hx
    split at h
    · rename_i e
      have e := Nat.eq_of_beq_eq_true e
      subst e
      simp only [Option.some.injEq, Prod.mk.injEq] at h
      obtain ⟨-, rfl⟩ := h
      exact ⟨ext.refl _, hx⟩
    · cases h
theorem Cov.then_ok {x : Cov} {f : Ren → Cov} {ps : List Prop} {ρ : Ren} (h : x.then f = some (ps, ρ)) : ∃ p1 ρ1 p2, x = some (p1, ρ1) ∧ f ρ1 = some (p2, ρ) ∧ ps = p1 ++ p2 := by
  unfold Cov.then at h
  split at h
  · cases h
  · rename_i p1 ρ1
    split at h
    · cases h
    · rename_i p2 ρ2 h2
      simp only [Option.some.injEq, Prod.mk.injEq] at h
      obtain ⟨rfl, rfl⟩ := h
      exact ⟨p1, ρ1, p2, rfl, h2, rfl⟩
/-- The places of the renamed numbers. -/
def reMap (m : Maps) (ρ T0 : Ren) : Maps := ⟨fun i => m.β ((lkp ρ i).getD 0), fun i => m.ε ((lkp ρ i).getD 0), fun b => match T0.find? fun x => Nat.beq x.2 (m.π b) with | some x => x.1 | none => 0⟩
theorem covC_ok {m : Maps} {ρF T0 : Ren} {ρ ρ' : Ren} {c c' : C} {ps : List Prop} (h : covC ρ c c' = some (ps, ρ')) (hp : ∀ p ∈ ps, p) (hx : ext ρ' ρF) : ext ρ ρ' ∧ c.den (reMap m ρF T0) = c'.den m := by
  unfold covC at h
  split at h
  · simp only [Option.some.injEq, Prod.mk.injEq] at h
    obtain ⟨rfl, rfl⟩ := h
    have := hp _ (List.mem_singleton.2 rfl)
    exact ⟨ext.refl _, by simp only [C.den]; exact this.symm⟩
  · obtain ⟨h1, h2⟩ := addR_ok h
    exact ⟨h1, by simp only [C.den, reMap, hx _ _ h2, Option.getD_some]⟩
  · split at h
    · rename_i e
      have e := Nat.eq_of_beq_eq_true e
      subst e
      obtain ⟨h1, h2⟩ := addR_ok h
      exact ⟨h1, by simp only [C.den, reMap, hx _ _ h2, Option.getD_some]⟩
    · cases h
  · cases h
theorem covCs_ok {m : Maps} {ρF T0 : Ren} : ∀ {cs ds : List C} {ρ ρ' : Ren} {ps : List Prop}, covCs ρ cs ds = some (ps, ρ') → (∀ p ∈ ps, p) → ext ρ' ρF → ext ρ ρ' ∧ cs.map (C.den (reMap m ρF T0)) = ds.map (C.den m)
  | [], [], ρ, ρ', ps, h, _, _ => by
    simp only [covCs, Option.some.injEq, Prod.mk.injEq] at h
    obtain ⟨-, rfl⟩ := h
    exact ⟨ext.refl _, rfl⟩
  | [], _ :: _, _, _, _, h, _, _ => by simp [covCs] at h
  | _ :: _, [], _, _, _, h, _, _ => by simp [covCs] at h
  | c :: cs, d :: ds, ρ, ρ', ps, h, hp, hx => by
    simp only [covCs] at h
    obtain ⟨p1, ρ1, p2, h1, h2, rfl⟩ := Cov.then_ok h
    obtain ⟨e2, d2⟩ := covCs_ok (m := m) (T0 := T0) h2 (fun p hp' => hp p (List.mem_append.2 (.inr hp'))) hx
    obtain ⟨e1, d1⟩ := covC_ok (m := m) (ρF := ρF) (T0 := T0) h1 (fun p hp' => hp p (List.mem_append.2 (.inl hp'))) (e2.trans hx)
    exact ⟨e1.trans e2, by simp [d1, d2]⟩
theorem covT_ok {m : Maps} {ρF T0 : Ren} {t t' : T} {ρ ρ' : Ren} {ps : List Prop} (h : covT ρ t t' = some (ps, ρ')) (hp : ∀ p ∈ ps, p) (hx : ext ρ' ρF) : ext ρ ρ' ∧ t.den (reMap m ρF T0) = t'.den m := by
  unfold covT at h
  split at h
  · exact covC_ok h hp hx
  · obtain ⟨h1, h2⟩ := covCs_ok (m := m) (T0 := T0) h hp hx
    exact ⟨h1, by simp only [T.den, A.den, h2]⟩
  · cases h
theorem covTm_ok {m : Maps} {ρF T0 : Ren} {s : St} : ∀ {l : List (Nat × T)} {ρ ρ' : Ren} {ps : List Prop}, covTm s ρ l = some (ps, ρ') → (∀ p ∈ ps, p) → ext ρ' ρF → ext ρ ρ' ∧ ∀ t v, lkp l t = some v → ∃ v', lkp s.tm t = some v' ∧ v.den (reMap m ρF T0) = v'.den m
  | [], ρ, ρ', ps, h, _, _ => by
    simp only [covTm, Option.some.injEq, Prod.mk.injEq] at h
    obtain ⟨-, rfl⟩ := h
    exact ⟨ext.refl _, by simp [lkp]⟩
  | (t, v) :: r, ρ, ρ', ps, h, hp, hx => by
    simp only [covTm] at h
    split at h
    · rename_i v' hv'
      obtain ⟨p1, ρ1, p2, h1, h2, rfl⟩ := Cov.then_ok h
      obtain ⟨e2, d2⟩ := covTm_ok (m := m) (T0 := T0) h2 (fun p hp' => hp p (List.mem_append.2 (.inr hp'))) hx
      obtain ⟨e1, d1⟩ := covT_ok (m := m) (ρF := ρF) (T0 := T0) h1 (fun p hp' => hp p (List.mem_append.2 (.inl hp'))) (e2.trans hx)
      refine ⟨e1.trans e2, fun u y hy => ?_⟩
      rw [lkp_cons] at hy
      split at hy
      · rename_i e; subst e; obtain rfl := Option.some.inj hy; exact ⟨v', hv', d1⟩
      · exact d2 u y hy
    · cases h
/-- What the covering of one thing says, at the end. -/
def EnCov (s : St) (m : Maps) (ρF T0 : Ren) (i : Nat) (E : En) : Prop := ∃ i', lkp ρF i = some i' ∧
  match E, lkp s.en i' with
  | .box cs, some (.box ds) => cs.map (C.den (reMap m ρF T0)) = ds.map (C.den m)
  | .own e ts rows, some E' => E' = .own e ts rows
  | .top e ts rows _, some (.top e' ts' rows' _) => e' = e ∧ ts' = ts ∧ rows' = rows
  | .top e ts rows _, some (.own e' ts' rows') => e' = e ∧ ts' = ts ∧ rows' = rows ∧ rows = []
  | .view e ts rows _, some E' => ∃ deps', En.sl E' i' = some (e, ts, rows, deps')
  | _, _ => False
theorem covEn1_ok {m : Maps} {ρF T0 : Ren} {s : St} {i : Nat} {E : En} {ρ ρ' : Ren} {ps : List Prop} (h : covEn1 s ρ i E = some (ps, ρ')) (hp : ∀ p ∈ ps, p) (hx : ext ρ' ρF) : ext ρ ρ' ∧ EnCov s m ρF T0 i E := by
  unfold covEn1 at h
  split at h
  · cases h
  · rename_i i' hi
    split at h
    · rename_i cs ds he
      obtain ⟨h1, h2⟩ := covCs_ok (m := m) (T0 := T0) h hp hx
      exact ⟨h1, i', hx _ _ (h1 _ _ hi), by rw [he]; exact h2⟩
    · rename_i e ts rows e' ts' rows' he
      split at h
      · rename_i hc
        simp only [Bool.and_eq_true, Nat.beq_eq] at hc
        obtain ⟨rfl, hc⟩ := hc
        have hc := Ty.beqs_ok _ _ hc
        subst hc
        simp only [Option.some.injEq, Prod.mk.injEq] at h
        obtain ⟨rfl, rfl⟩ := h
        have := hp _ (List.mem_singleton.2 rfl)
        exact ⟨ext.refl _, i', hx _ _ hi, by rw [he]; simp [this]⟩
      · cases h
    · rename_i e ts rows _ e' ts' rows' _ he
      split at h
      · rename_i hc
        simp only [Bool.and_eq_true, Nat.beq_eq] at hc
        obtain ⟨rfl, hc⟩ := hc
        have hc := Ty.beqs_ok _ _ hc
        subst hc
        simp only [Option.some.injEq, Prod.mk.injEq] at h
        obtain ⟨rfl, rfl⟩ := h
        have := hp _ (List.mem_singleton.2 rfl)
        exact ⟨ext.refl _, i', hx _ _ hi, by rw [he]; exact ⟨rfl, rfl, this⟩⟩
      · cases h
    · rename_i e ts rows _ e' ts' he
      split at h
      · rename_i hc
        simp only [Bool.and_eq_true, Nat.beq_eq] at hc
        obtain ⟨rfl, hc⟩ := hc
        have hc := Ty.beqs_ok _ _ hc
        subst hc
        simp only [Option.some.injEq, Prod.mk.injEq] at h
        obtain ⟨rfl, rfl⟩ := h
        have := hp _ (List.mem_singleton.2 rfl)
        exact ⟨ext.refl _, i', hx _ _ hi, by rw [he]; exact ⟨rfl, rfl, this, this.symm⟩⟩
      · cases h
    · rename_i e ts rows _ E' he
      split at h
      · rename_i e' ts' rows' deps' hsl
        split at h
        · rename_i hc
          simp only [Bool.and_eq_true, Nat.beq_eq] at hc
          obtain ⟨rfl, hc⟩ := hc
          have hc := Ty.beqs_ok _ _ hc
          subst hc
          simp only [Option.some.injEq, Prod.mk.injEq] at h
          obtain ⟨rfl, rfl⟩ := h
          have := hp _ (List.mem_singleton.2 rfl)
          exact ⟨ext.refl _, i', hx _ _ hi, by rw [he]; exact ⟨deps', by rw [hsl, this]⟩⟩
        · cases h
      · cases h
    · cases h
    · cases h
theorem covEn_ok {m : Maps} {ρF T0 : Ren} {s : St} : ∀ {l : List (Nat × En)} {ρ ρ' : Ren} {ps : List Prop}, covEn s ρ l = some (ps, ρ') → (∀ p ∈ ps, p) → ext ρ' ρF → ext ρ ρ' ∧ ∀ i E, (i, E) ∈ l → EnCov s m ρF T0 i E
  | [], ρ, ρ', ps, h, _, _ => by
    simp only [covEn, Option.some.injEq, Prod.mk.injEq] at h
    obtain ⟨-, rfl⟩ := h
    exact ⟨ext.refl _, by simp⟩
  | (i, E) :: r, ρ, ρ', ps, h, hp, hx => by
    simp only [covEn] at h
    obtain ⟨p1, ρ1, p2, h1, h2, rfl⟩ := Cov.then_ok h
    obtain ⟨e2, d2⟩ := covEn_ok (m := m) (T0 := T0) h2 (fun p hp' => hp p (List.mem_append.2 (.inr hp'))) hx
    obtain ⟨e1, d1⟩ := covEn1_ok (m := m) (ρF := ρF) (T0 := T0) h1 (fun p hp' => hp p (List.mem_append.2 (.inl hp'))) (e2.trans hx)
    refine ⟨e1.trans e2, fun j F hj => ?_⟩
    rcases List.mem_cons.1 hj with hj | hj
    · simp only [Prod.mk.injEq] at hj
      obtain ⟨rfl, rfl⟩ := hj
      exact d1
    · exact d2 j F hj
theorem tracked_mem {ρ : Ren} : ∀ {l : List (Nat × En)} {i i' : Nat} {E : En}, (i, E) ∈ l → E.track = true → lkp ρ i = some i' → (i, i') ∈ tracked ρ l
  | [], _, _, _, h, _, _ => by simp at h
  | (j, F) :: r, i, i', E, h, ht, hi => by
    rcases List.mem_cons.1 h with h | h
    · simp only [Prod.mk.injEq] at h
      obtain ⟨rfl, rfl⟩ := h
      simp only [tracked, ht, hi]
      simp
    · simp only [tracked]
      split
      · exact List.mem_cons_of_mem _ (tracked_mem h ht hi)
      · exact tracked_mem h ht hi
theorem tracked_src {ρ : Ren} : ∀ {l : List (Nat × En)} {i i' : Nat}, (i, i') ∈ tracked ρ l → lkp ρ i = some i' ∧ ∃ E, (i, E) ∈ l ∧ E.track = true
  | [], _, _, h => by simp [tracked] at h
  | (j, F) :: r, i, i', h => by
    simp only [tracked] at h
    split at h
    · rename_i ht hj
      rcases List.mem_cons.1 h with h | h
      · simp only [Prod.mk.injEq] at h
        obtain ⟨rfl, rfl⟩ := h
        exact ⟨hj, F, by simp, ht⟩
      · obtain ⟨a, E, b, c⟩ := tracked_src h
        exact ⟨a, E, by simp [b], c⟩
    · obtain ⟨a, E, b, c⟩ := tracked_src h
      exact ⟨a, E, by simp [b], c⟩
theorem depChk_ok {s : St} {ρ T0 : Ren} : ∀ {l : List (Nat × En)}, depChk s ρ T0 l = true → ∀ {i : Nat} {E : En}, (i, E) ∈ l →
    match E, lkp ρ i with
     | .view _ _ _ deps, some i' => ∀ e ts rows deps', (lkp s.en i').bind (En.sl · i') = some (e, ts, rows, deps') → ∀ d ∈ deps', ∀ x ∈ T0, x.2 = d → x.1 ∈ deps
     | .top _ _ _ deps, some i' => ∀ e ts rows deps', lkp s.en i' = some (.top e ts rows deps') → ∀ d ∈ deps', ∀ x ∈ T0, x.2 = d → x.1 ∈ deps
     | _, _ => True
  | [], _, _, _, h => by simp at h
  | (j, F) :: r, hc, i, E, h => by
    simp only [depChk, Bool.and_eq_true] at hc
    rcases List.mem_cons.1 h with h | h
    · simp only [Prod.mk.injEq] at h
      obtain ⟨rfl, rfl⟩ := h
      have hc := hc.1
      have key : ∀ (deps deps' : List Nat), (deps'.all fun d => T0.all fun x => !(Nat.beq x.2 d) || mem deps x.1) = true → ∀ d ∈ deps', ∀ x ∈ T0, x.2 = d → x.1 ∈ deps := by
        intro deps deps' h d hd x hx e
        have := List.all_eq_true.1 (List.all_eq_true.1 h d hd) x hx
        rw [Bool.or_eq_true, Bool.not_eq_true'] at this
        rcases this with h | h
        · subst e; simp at h
        · exact mem_iff.1 h
      cases E with
      | view e ts rows deps =>
        cases hl : lkp ρ i with
        | none => trivial
        | some i' =>
          rw [hl] at hc
          simp only at hc ⊢
          intro e' ts' rows' deps' hs
          rw [hs] at hc
          exact key _ _ hc
      | top e ts rows deps =>
        cases hl : lkp ρ i with
        | none => trivial
        | some i' =>
          rw [hl] at hc
          simp only at hc ⊢
          intro e' ts' rows' deps' hs
          rw [hs] at hc
          exact key _ _ hc
      | _ => trivial
    · exact depChk_ok hc.2 h

section
variable {Γ : Env} {n : Nat} {w0 : World} {al : Nat → Prop} {s τ : St} {m : Maps} {a : Act} {w : World} {nx : Nat}
/-- A state that is covered is known as the covering one says. -/
theorem R.cover (h : R Γ n w0 al s m a w) (hc : covers nx s τ) : 0 < nx ∧ ∃ m', R Γ n w0 (alN nx) τ m' a w := by
  unfold covers at hc
  split at hc
  · exact hc.elim
  · rename_i ps ρ hcov
    split at hc
    · rename_i hchk
      simp only [Bool.and_eq_true] at hchk
      obtain ⟨⟨⟨hst, hnd⟩, hnk⟩, hdep⟩ := hchk
      have hp := conj_mem hc
      obtain ⟨p1, ρ1, p2, c1, c2, rfl⟩ := Cov.then_ok hcov
      let T0 := tracked ρ τ.en
      obtain ⟨e2, hen⟩ := covEn_ok (m := m) (T0 := T0) c2 (fun p hp' => hp p (List.mem_append.2 (.inr hp'))) (ext.refl ρ)
      obtain ⟨e1, htm⟩ := covTm_ok (m := m) (T0 := T0) c1 (fun p hp' => hp p (List.mem_append.2 (.inl hp'))) e2
      simp only [stOk, Bool.and_eq_true] at hst
      obtain ⟨⟨hn0, hst1⟩, hst2⟩ := hst
      have hst : _ ∧ _ := ⟨hst1, hst2⟩
      refine ⟨Nat.le_of_ble_eq_true hn0, ?_⟩
      have hid : ∀ {i : Nat}, idOk nx i = true → alN nx i := fun {i} hi => by
        simp only [idOk, Bool.and_eq_true, Nat.ble_eq] at hi
        unfold alN; omega
      have hndk := nodupB_ok hnd
      have hT0 : ∀ {i i' j : Nat}, (i, i') ∈ T0 → (j, i') ∈ T0 → i = j := by
        intro i i' j h1 h2
        have key : ∀ {l : Ren}, (l.map (·.2)).Nodup → (i, i') ∈ l → (j, i') ∈ l → i = j := by
          intro l
          induction l with
          | nil => intro _ h; simp at h
          | cons x r ih =>
            intro hn h1 h2
            simp only [List.map_cons, List.nodup_cons] at hn
            rcases List.mem_cons.1 h1 with g1 | g1
            · rcases List.mem_cons.1 h2 with g2 | g2
              · rw [← g2] at g1; simp at g1; exact g1
              · exact (hn.1 (by rw [← g1]; exact List.mem_map.2 ⟨(j, i'), g2, rfl⟩)).elim
            · rcases List.mem_cons.1 h2 with g2 | g2
              · exact (hn.1 (by rw [← g2]; exact List.mem_map.2 ⟨(i, i'), g1, rfl⟩)).elim
              · exact ih hn.2 g1 g2
        exact key hndk h1 h2
      have hπ1 : ∀ {i i' b : Nat}, (i, i') ∈ T0 → m.π b = i' → (reMap m ρ T0).π b = i := by
        intro i i' b hi hb
        simp only [reMap, hb]
        cases hf : T0.find? fun x => Nat.beq x.2 i' with
        | none =>
          have := List.find?_eq_none.1 hf _ hi
          simp at this
        | some x =>
          have h1 := List.find?_some hf
          have h2 := List.mem_of_find?_eq_some hf
          have h1 := Nat.eq_of_beq_eq_true h1
          obtain ⟨x1, x2⟩ := x
          simp only at h1
          subst h1
          exact hT0 h2 hi
      have hπ0 : ∀ {b : Nat}, (∀ x ∈ T0, x.2 ≠ m.π b) → (reMap m ρ T0).π b = 0 := by
        intro b hb
        simp only [reMap]
        cases hf : T0.find? fun x => Nat.beq x.2 (m.π b) with
        | none => rfl
        | some x =>
          have h1 := List.find?_some hf
          have h1 := Nat.eq_of_beq_eq_true h1
          exact absurd h1 (hb x (List.mem_of_find?_eq_some hf))
      have hT0al : ∀ x ∈ T0, al x.2 := by
        rintro ⟨i, i'⟩ hx
        obtain ⟨hl, E, hE, ht⟩ := tracked_src hx
        obtain ⟨i2, q1, q2⟩ := hen i E hE
        rw [hl] at q1
        obtain rfl := Option.some.inj q1
        cases hE' : lkp s.en i' with
        | none => rw [hE'] at q2; cases E <;> simp at q2
        | some E' => exact (h.en _ _ hE').2.1
      have hmay : ∀ (deps deps' : List Nat) (b : Nat), (∀ d ∈ deps', ∀ x ∈ T0, x.2 = d → x.1 ∈ deps) → Γ.may m deps' b → Γ.may (reMap m ρ T0) deps b := by
        intro deps deps' b hd hb
        rcases hb with hb | ⟨hb0, hb⟩ | ⟨hb0, hb⟩
        · exact .inl hb
        · refine .inr (.inl ⟨hb0, hπ0 fun x hx e => ?_⟩)
          rw [hb] at e
          exact h.pos (e ▸ hT0al x hx)
        · by_cases hx : ∃ x ∈ T0, x.2 = m.π b
          · obtain ⟨⟨i, i'⟩, hx, e⟩ := hx
            exact .inr (.inr ⟨hb0, by rw [hπ1 hx e.symm]; exact hd _ hb (i, i') hx e⟩)
          · exact .inr (.inl ⟨hb0, hπ0 fun x hx' e => hx ⟨x, hx', e⟩⟩)
      refine ⟨reMap m ρ T0, ⟨h.size, h.defers, h.old, h.below, fun t v hv => ?_, fun i E hE => ?_, by unfold alN; omega⟩⟩
      · obtain ⟨v', hv', hd⟩ := htm t v hv
        refine ⟨by rw [(h.tm t v' hv').1, hd], fun i hi => hid ?_⟩
        exact List.all_eq_true.1 (List.all_eq_true.1 hst.1 _ (lkp_mem hv)) i hi
      · have hm := lkp_mem hE
        have hs2 := List.all_eq_true.1 hst.2 _ hm
        simp only [Bool.and_eq_true] at hs2
        refine ⟨?_, hid hs2.1, fun j hj => hid (List.all_eq_true.1 hs2.2 j hj)⟩
        obtain ⟨i', hi', hcv⟩ := hen i E hm
        have hβ : (reMap m ρ T0).β i = m.β i' := by simp only [reMap, hi', Option.getD_some]
        have hε : (reMap m ρ T0).ε i = m.ε i' := by simp only [reMap, hi', Option.getD_some]
        have hdk := depChk_ok hdep hm
        rw [hi'] at hdk
        cases hE' : lkp s.en i' with
        | none => rw [hE'] at hcv; cases E <;> simp at hcv
        | some E' =>
          rw [hE'] at hcv
          have hat := (h.en _ _ hE').1
          cases E with
          | dead => trivial
          | box cs =>
            cases E' with
            | box ds =>
              obtain ⟨b1, b2, e, b3⟩ := hat
              have ht := tracked_mem (ρ := ρ) hm rfl hi'
              exact ⟨by rw [hβ]; exact b1, hπ1 ht (by rw [hβ]; exact b2), e, by rw [hβ, hcv]; exact b3⟩
            | _ => simp at hcv
          | own e ts rows =>
            simp only at hcv
            subst hcv
            obtain ⟨bs, b1, b2, b3⟩ := hat
            have ht := tracked_mem (ρ := ρ) hm rfl hi'
            exact ⟨bs, by rw [hε]; exact b1, b2, fun b hb => ⟨(b3 b hb).1, hπ1 ht (b3 b hb).2⟩⟩
          | top e ts rows deps =>
            have ht := tracked_mem (ρ := ρ) hm rfl hi'
            cases E' with
            | top e' ts' rows' deps' =>
              simp only at hcv
              obtain ⟨rfl, rfl, rfl⟩ := hcv
              obtain ⟨rv, q1, q2, q3, q4, q5⟩ := hat
              refine ⟨rv, by rw [hε]; exact q1, q2, q3, fun k hk => ?_, fun b hb => ?_⟩
              · obtain ⟨F, f1, f2⟩ := q4 k hk
                exact ⟨F, f1, fun b hb => hmay deps deps' b (hdk _ _ _ _ hE') (f2 b hb)⟩
              · rw [hε] at hb
                exact ⟨(q5 b hb).1, hπ1 ht (q5 b hb).2⟩
            | own e' ts' rows' =>
              simp only at hcv
              obtain ⟨rfl, rfl, rfl, rfl⟩ := hcv
              obtain ⟨bs, b1, b2, b3⟩ := hat
              simp only [Fp] at b1
              obtain ⟨rv, bss, q1, q2, q3, q4, q5, rfl⟩ := b1
              refine ⟨rv, by rw [hε]; exact q1, q2, q4, by simp, fun b hb => ?_⟩
              rw [hε] at hb
              have := b3 b (List.mem_append.2 (.inl (by simp [hb])))
              exact ⟨this.1, hπ1 ht this.2⟩
            | _ => simp at hcv
          | view e ts rows deps =>
            simp only at hcv
            obtain ⟨deps', hsl⟩ := hcv
            obtain ⟨F, f1, f2⟩ := hat.rd hsl
            refine ⟨F, by rw [hε]; exact f1, fun b hb => hmay deps deps' b (hdk e ts rows deps' (by rw [hE']; exact hsl)) (f2 b hb)⟩
    · exact hc.elim
end
end Go.Proofs.Ytemgpfojmdncjaa
