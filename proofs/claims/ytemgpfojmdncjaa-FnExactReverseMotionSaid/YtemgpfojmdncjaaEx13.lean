/-
  The reckoner's regions that draw their order: one walk of the text serves every order. Over any program.
-/
import Derived.Test.YtemgpfojmdncjaaEx12
namespace Go.Proofs.Ytemgpfojmdncjaa
set_option linter.unusedVariables false
set_option linter.unusedSimpArgs false
open Go.RowKit

abbrev Tr := List (Oper × Eff)
def mem (l : List Nat) (x : Nat) : Bool := l.any (Nat.beq x)
theorem mem_iff {l : List Nat} {x : Nat} : mem l x = true ↔ x ∈ l := by
  unfold mem
  constructor
  · intro h; obtain ⟨y, hy, e⟩ := List.any_eq_true.1 h; simp at e; subst e; exact hy
  · intro h; exact List.any_eq_true.2 ⟨x, h, by simp⟩
theorem mem_false {l : List Nat} {x : Nat} : mem l x = false ↔ x ∉ l := by
  rw [← mem_iff]; cases mem l x <;> simp

/-- The binding edges' ends. -/
def onsOf (o : Oper) : List Nat := (o.after.toList.filter (Region.binds .any)).map (·.on)
def dedup : List Nat → List Nat → List Nat
  | [], acc => acc
  | x :: r, acc => if mem acc x = true then dedup r acc else dedup r (x :: acc)
/-- For each operation those that come ahead of it whatever the order. -/
def ancs : List Oper → List (List Nat) → List (List Nat)
  | [], acc => acc
  | o :: r, acc => ancs r (acc ++ [dedup ((onsOf o).flatMap fun j => j :: acc.getD j []) []])
def anc (A : List (List Nat)) (i k : Nat) : Bool := mem (A.getD i []) k
def ancChk (A : List (List Nat)) : List Oper → Nat → Bool
  | [], _ => true
  | o :: r, i =>
    ((onsOf o).all fun j => Nat.ble (j + 1) i && anc A i j && (A.getD j []).all fun k => anc A i k) &&
    ((A.getD i []).all fun k => Nat.ble (k + 1) i && (onsOf o).any fun j => Nat.beq j k || anc A j k) && ancChk A r (i + 1)

def fold (D : Nat → Bool) : Tr → Nat → St → St
  | [], _, s => s
  | (o, e) :: r, k, s => fold D r (k + 1) (match D k with | true => s.app o.dst e | false => s)
def dstsUn (A : List (List Nat)) (i : Nat) : List Oper → Nat → List Nat
  | [], _ => []
  | o :: r, k => (match Nat.beq k i || anc A i k || anc A k i with | true => [] | false => o.dst.toList) ++ dstsUn A i r (k + 1)
def hideTm (ts : List Nat) (s : St) (lit : List Nat) : St := { tm := s.tm.filter fun x => !(mem ts x.1), en := s.en, lit := lit }
def skipE : Eff := ⟨T.ofV undef, []⟩
def setVal (tr : Tr) (j : Nat) (v : T) : Tr :=
  match tr[j]? with
  | some (o, e) => tr.set j (o, { e with val := v })
  | none => tr
def valB (tr : Tr) (j : Nat) : Option Bool :=
  match tr[j]? with
  | some (_, ⟨.one (.one (.im (.bool b))), _⟩) => some b
  | _ => none
def valU (tr : Tr) (j : Nat) : Bool :=
  match tr[j]? with
  | some (_, ⟨.one (.one (.im (.tuple _))), _⟩) => true
  | _ => false
def addLit (f : Bool) (dst : Option Tmp) (lit : List Nat) : List Nat :=
  match f, dst with
  | true, some t => t :: lit
  | _, _ => lit
def visOf (A : List (List Nat)) (all : List Oper) (s0 : St) (tr : Tr) (i : Nat) (lit : List Nat) : St := hideTm (dstsUn A i all 0) (fold (anc A i) tr 0 s0) lit

def xdraw (tt : TT) (ct : CTs) (hints : List Nat) (n : Nat) (all : List Oper) (A : List (List Nat)) (s0 : St) (nx : Nat) : List Oper → Nat → Tr → List Nat → (Tr → List Nat → Prop) → Prop
  | [], _, tr, lit, q => q tr lit
  | o :: r, i, tr, lit, q =>
    match dstOk n o with
    | false => False
    | true =>
      match o.guard with
      | none => xop tt ct hints o (visOf A all s0 tr i lit) (nx + 32 * i) fun e => xdraw tt ct hints n all A s0 nx r (i + 1) (tr ++ [(o, e)]) (addLit (litOp (visOf A all s0 tr i lit) o.op) o.dst lit) q
      | some (j, want) =>
        match anc A i j, guardTmp all j, valB tr j with
        | true, some t, some b =>
          gcase (mem lit t) (match want with | true => b | false => !b)
            (xop tt ct hints o (visOf A all s0 (setVal tr j (T.ofV (.bool want))) i (t :: lit)) (nx + 32 * i) fun e =>
              xdraw tt ct hints n all A s0 nx r (i + 1) (setVal tr j (T.ofV (.bool want)) ++ [(o, e)]) (addLit (litOp (visOf A all s0 (setVal tr j (T.ofV (.bool want))) i (t :: lit)) o.op) o.dst (t :: lit)) q)
            (xdraw tt ct hints n all A s0 nx r (i + 1) (setVal tr j (T.ofV (.bool (!want))) ++ [(o, skipE)]) (t :: lit) q)
        | true, some _, none =>
          match valU tr j with
          | true => xdraw tt ct hints n all A s0 nx r (i + 1) (tr ++ [(o, skipE)]) lit q
          | false => False
        | _, _, _ => False

def dstNe (x y : Oper) : Bool :=
  match x.dst, y.dst with
  | some a, some b => !(Nat.beq a b)
  | _, _ => true
def disj (a b : List Nat) : Bool := a.all fun x => !(mem b x)
def updHangs (us : List Nat) (u : List (Nat × En)) : Bool := u.any fun x => En.hangs us x.2
def commOk (x y : Oper × Eff) : Bool := dstNe x.1 y.1 && disj x.2.us y.2.us && !(updHangs y.2.us x.2.upd) && !(updHangs x.2.us y.2.upd)
def clearOf (us : List Nat) (en : List (Nat × En)) : Bool :=
  match us with
  | [] => true
  | _ => en.all fun x => !(mem us x.1) && !(En.hangs us x.2)
def visChk (A : List (List Nat)) (i : Nat) : Tr → Nat → St → Bool
  | [], _, _ => true
  | (o, e) :: r, k, V =>
    match anc A i k with
    | true => visChk A i r (k + 1) (V.app o.dst e)
    | false => (match Nat.beq k i || anc A k i with | true => true | false => clearOf e.us V.en) && visChk A i r (k + 1) V
def commChk (A : List (List Nat)) (i : Nat) (x : Oper × Eff) : Tr → Nat → Bool
  | [], _ => true
  | y :: r, k => (Nat.ble k i || anc A k i || commOk x y) && commChk A i x r (k + 1)
def drawChk (A : List (List Nat)) (s0 : St) (tr : Tr) : Tr → Nat → Bool
  | [], _ => true
  | x :: r, i => visChk A i tr 0 s0 && commChk A i x tr 0 && drawChk A s0 tr r (i + 1)
def dstsOf : List Oper → List Nat
  | [] => []
  | o :: r => o.dst.toList ++ dstsOf r
/-- A region that draws its order. -/
def xdrawn (tt : TT) (ct : CTs) (hints : List Nat) (n : Nat) (all : List Oper) (s0 : St) (nx : Nat) (q : St → Nat → Prop) : Prop :=
  match ancChk (ancs all []) all 0 && nodupB (dstsOf all) with
  | false => False
  | true => xdraw tt ct hints n all (ancs all []) s0 nx all 0 [] (s0.lit.filter fun t => !(mem (dstsOf all) t)) fun tr lit =>
    match drawChk (ancs all []) s0 tr tr 0 with
    | false => False
    | true => q { fold (fun _ => true) tr 0 s0 with lit := lit } (nx + 32 * all.length)

/-! ## Looking things up behind an effect -/
theorem app_tm (s : St) (dst : Option Tmp) (e : Eff) (t : Nat) : lkp (s.app dst e).tm t = if dst = some t then some e.val else lkp s.tm t := by
  cases dst with
  | none => simp [St.app]
  | some d => simp only [St.app, lkp_cons, Option.some.injEq]
def killE (us : List Nat) (E : En) : En := if En.hangs us E then .dead else E
theorem hangs_nil (E : En) : En.hangs [] E = false := by cases E <;> simp [En.hangs]
theorem app_en (s : St) (dst : Option Tmp) (e : Eff) (i : Nat) : lkp (s.app dst e).en i = (lkp e.upd i).or ((lkp s.en i).map (killE e.us)) := by
  have key : lkp (e.upd ++ kill e.us s.en) i = (lkp e.upd i).or ((lkp s.en i).map (killE e.us)) := by rw [lkp_append, kill_lkp]; rfl
  simp only [St.app]
  cases hu : e.upd with
  | nil =>
    have hus : e.us = [] := by simp [Eff.us, hu]
    have : killE e.us = id := by funext E; simp [killE, hus, hangs_nil]
    rw [this]
    simp [lkp]
  | cons x r => rw [hu] at key; exact key
def Vis (U : List Nat) (V S : St) : Prop := (∀ t, t ∉ U → lkp V.tm t = lkp S.tm t) ∧ ∀ i E, lkp V.en i = some E → (E = .dead ∧ ∃ E', lkp S.en i = some E') ∨ lkp S.en i = some E
theorem Vis.refl (U : List Nat) (s : St) : Vis U s s := ⟨fun _ _ => rfl, fun _ _ h => .inr h⟩
theorem Vis.both {U : List Nat} {V S : St} (h : Vis U V S) (dst : Option Tmp) (e : Eff) : Vis U (V.app dst e) (S.app dst e) := by
  refine ⟨fun t ht => by rw [app_tm, app_tm, h.1 t ht], fun i E hE => ?_⟩
  rw [app_en] at hE ⊢
  cases hu : lkp e.upd i with
  | some E' => rw [hu] at hE; exact .inr hE
  | none =>
    rw [hu, Option.none_or] at hE
    rw [Option.none_or]
    cases hv : lkp V.en i with
    | none => rw [hv] at hE; cases hE
    | some E0 =>
      rw [hv] at hE
      rcases h.2 i E0 hv with ⟨rfl, E', h2⟩ | h2
      · simp [killE, En.hangs] at hE; exact .inl ⟨hE.symm, by rw [h2]; exact ⟨_, rfl⟩⟩
      · rw [h2]; exact .inr hE
theorem Vis.other {U : List Nat} {V S : St} (h : Vis U V S) {dst : Option Tmp} {e : Eff} (hd : ∀ t, dst = some t → t ∈ U) (hc : clearOf e.us V.en = true) : Vis U V (S.app dst e) := by
  have hc : ∀ i E, lkp V.en i = some E → i ∉ e.us ∧ En.hangs e.us E = false := by
    intro i E hE
    unfold clearOf at hc
    split at hc
    · rename_i hus; rw [hus]; exact ⟨by simp, hangs_nil E⟩
    · have := List.all_eq_true.1 hc _ (lkp_mem hE)
      simp only [Bool.and_eq_true, Bool.not_eq_true'] at this
      exact ⟨mem_false.1 this.1, this.2⟩
  refine ⟨fun t ht => ?_, fun i E hE => ?_⟩
  · rw [app_tm, if_neg (fun e => ht (hd t e)), h.1 t ht]
  · obtain ⟨c1, c2⟩ := hc i E hE
    rcases h.2 i E hE with ⟨h2, E', h3⟩ | h2
    · left
      refine ⟨h2, ?_⟩
      rw [app_en, h3]
      cases lkp e.upd i with
      | none => exact ⟨_, rfl⟩
      | some E2 => exact ⟨_, rfl⟩
    · right
      rw [app_en, h2]
      have : lkp e.upd i = none := by
        cases hl : lkp e.upd i with
        | none => rfl
        | some E' => exact absurd (List.mem_map.2 ⟨_, lkp_mem hl, rfl⟩) c1
      rw [this]
      simp [killE, c2]
theorem fold_vis {A : List (List Nat)} {i : Nat} {U : List Nat} {D : Nat → Bool} (h1 : ∀ k, anc A i k = true → D k = true) (h2 : D i = false) (h3 : ∀ k, D k = true → anc A k i = false) : ∀ (tr : Tr) (k : Nat) (V S : St),
    (∀ q o e, tr[q]? = some (o, e) → D (k + q) = true → anc A i (k + q) = false → ∀ t, o.dst = some t → t ∈ U) → visChk A i tr k V = true → Vis U V S → Vis U (fold (anc A i) tr k V) (fold D tr k S)
  | [], k, V, S, _, _, h => h
  | (o, e) :: r, k, V, S, hU, hc, h => by
    have hU' : ∀ q o e, r[q]? = some (o, e) → D (k + 1 + q) = true → anc A i (k + 1 + q) = false → ∀ t, o.dst = some t → t ∈ U := fun q o e hq => by
      have := hU (q + 1) o e (by simpa using hq)
      rwa [show k + (q + 1) = k + 1 + q by omega] at this
    simp only [fold]
    simp only [visChk] at hc
    cases ha : anc A i k with
    | true =>
      rw [ha] at hc
      rw [h1 k ha]
      exact fold_vis h1 h2 h3 r (k + 1) _ _ hU' hc (h.both _ _)
    | false =>
      rw [ha] at hc
      simp only [Bool.and_eq_true] at hc
      cases hD : D k with
      | false => exact fold_vis h1 h2 h3 r (k + 1) _ _ hU' hc.2 h
      | true =>
        have hki : (Nat.beq k i || anc A k i) = false := by
          have e1 : Nat.beq k i = false := by
            cases he : Nat.beq k i with
            | false => rfl
            | true => have := Nat.eq_of_beq_eq_true he; subst this; rw [h2] at hD; cases hD
          rw [e1, h3 k hD]; rfl
        rw [hki] at hc
        exact fold_vis h1 h2 h3 r (k + 1) _ _ hU' hc.2 (h.other (hU 0 o e (by simp) (by simpa using hD) (by simpa using ha)) hc.1)

def Eqv (X Y : St) : Prop := (∀ t, lkp X.tm t = lkp Y.tm t) ∧ ∀ i, lkp X.en i = lkp Y.en i
theorem Eqv.refl (X : St) : Eqv X X := ⟨fun _ => rfl, fun _ => rfl⟩
theorem Eqv.trans {X Y Z : St} (h : Eqv X Y) (k : Eqv Y Z) : Eqv X Z := ⟨fun t => (h.1 t).trans (k.1 t), fun i => (h.2 i).trans (k.2 i)⟩
theorem Eqv.app {X Y : St} (h : Eqv X Y) (dst : Option Tmp) (e : Eff) : Eqv (X.app dst e) (Y.app dst e) :=
  ⟨fun t => by rw [app_tm, app_tm, h.1], fun i => by rw [app_en, app_en, h.2]⟩
theorem Eqv.fold {D : Nat → Bool} : ∀ (tr : Tr) (k : Nat) {X Y : St}, Eqv X Y → Eqv (fold D tr k X) (fold D tr k Y)
  | [], _, _, _, h => h
  | (o, e) :: r, k, X, Y, h => by
    simp only [Go.Proofs.Ytemgpfojmdncjaa.fold]
    cases D k with
    | true => exact Eqv.fold r (k + 1) (h.app _ _)
    | false => exact Eqv.fold r (k + 1) h
theorem killE_comm (u v : List Nat) (E : En) : killE u (killE v E) = killE v (killE u E) := by
  unfold killE
  cases h1 : En.hangs u E <;> cases h2 : En.hangs v E <;> simp [h1, h2] <;> simp [En.hangs]
theorem app_comm {x y : Oper × Eff} (h : commOk x y = true) (X : St) : Eqv ((X.app x.1.dst x.2).app y.1.dst y.2) ((X.app y.1.dst y.2).app x.1.dst x.2) := by
  simp only [commOk, Bool.and_eq_true, Bool.not_eq_true'] at h
  obtain ⟨⟨⟨h1, h2⟩, h3⟩, h4⟩ := h
  have hdj : ∀ i, i ∈ x.2.us → i ∉ y.2.us := fun i hi => by
    have := List.all_eq_true.1 h2 i hi
    exact mem_false.1 (by simpa using this)
  refine ⟨fun t => ?_, fun i => ?_⟩
  · simp only [app_tm]
    unfold dstNe at h1
    by_cases hx : x.1.dst = some t
    · by_cases hy : y.1.dst = some t
      · rw [hx, hy] at h1; simp at h1
      · simp [hx, hy]
    · simp [hx]
  · simp only [app_en]
    cases hx : lkp x.2.upd i with
    | some E =>
      have hmx : i ∈ x.2.us := List.mem_map.2 ⟨_, lkp_mem hx, rfl⟩
      have hy : lkp y.2.upd i = none := by
        cases hy : lkp y.2.upd i with
        | none => rfl
        | some E' => exact absurd (List.mem_map.2 ⟨_, lkp_mem hy, rfl⟩) (hdj i hmx)
      have hh : En.hangs y.2.us E = false := by
        have := List.any_eq_false.1 h3 _ (lkp_mem hx)
        simpa using this
      simp [hy, killE, hh]
    | none =>
      cases hy : lkp y.2.upd i with
      | some E =>
        have hh : En.hangs x.2.us E = false := by
          have := List.any_eq_false.1 h4 _ (lkp_mem hy)
          simpa using this
        simp [killE, hh]
      | none =>
        simp only [Option.none_or]
        cases lkp X.en i with
        | none => rfl
        | some E => simp only [Option.map_some]; rw [killE_comm]
theorem beq_ne {a b : Nat} (h : a ≠ b) : Nat.beq a b = false := by
  cases hb : Nat.beq a b with
  | false => rfl
  | true => exact absurd (Nat.eq_of_beq_eq_true hb) h
theorem fold_comm {D : Nat → Bool} {x : Oper × Eff} : ∀ (tr : Tr) (k : Nat) (X : St), (∀ q y, tr[q]? = some y → D (k + q) = true → commOk x y = true) → Eqv (fold D tr k (X.app x.1.dst x.2)) ((fold D tr k X).app x.1.dst x.2)
  | [], _, X, _ => Eqv.refl _
  | (o, e) :: r, k, X, h => by
    have h' : ∀ q y, r[q]? = some y → D (k + 1 + q) = true → commOk x y = true := fun q y hq hD => h (q + 1) y (by simpa using hq) (by rwa [show k + (q + 1) = k + 1 + q by omega])
    simp only [fold]
    cases hD : D k with
    | true =>
      have := app_comm (h 0 (o, e) (by simp) (by simpa using hD)) X
      exact (Eqv.fold r (k + 1) this).trans (fold_comm r (k + 1) _ h')
    | false => exact fold_comm r (k + 1) X h'
/-- One operation more is done: as if it had been done last. -/
theorem fold_last {D D' : Nat → Bool} {i : Nat} {x : Oper × Eff} (hi : D i = false) (hD : ∀ k, D' k = (D k || Nat.beq k i)) : ∀ (tr : Tr) (k : Nat) (X : St), k ≤ i → tr[i - k]? = some x → (∀ q y, tr[q]? = some y → i < k + q → D (k + q) = true → commOk x y = true) →
    Eqv (fold D' tr k X) ((fold D tr k X).app x.1.dst x.2)
  | [], k, X, _, hx, _ => by simp at hx
  | (o, e) :: r, k, X, hk, hx, h => by
    simp only [fold]
    by_cases hki : k = i
    · subst hki
      simp at hx
      subst hx
      have e1 : D' k = true := by rw [hD]; simp
      rw [e1, hi]
      have e2 : ∀ (r : Tr) (k' : Nat) (X : St), k < k' → fold D' r k' X = fold D r k' X := by
        intro r
        induction r with
        | nil => intro k' X _; rfl
        | cons y r ih =>
          intro k' X hk'
          obtain ⟨o', e'⟩ := y
          have : D' k' = D k' := by rw [hD, beq_ne (by omega), Bool.or_false]
          simp only [fold, this, ih (k' + 1) _ (by omega)]
      rw [e2 r (k + 1) _ (by omega)]
      exact fold_comm r (k + 1) X fun q y hq hDq => h (q + 1) y (by simpa using hq) (by omega) (by rwa [show k + (q + 1) = k + 1 + q by omega])
    · have e1 : D' k = D k := by rw [hD, beq_ne hki, Bool.or_false]
      rw [e1]
      exact fold_last hi hD r (k + 1) _ (by omega) (by rw [show i - k = (i - (k + 1)) + 1 by omega] at hx; simpa using hx) fun q y hq hlt hDq => h (q + 1) y (by simpa using hq) (by omega) (by rwa [show k + (q + 1) = k + 1 + q by omega])
/-- Only those before i count. -/
theorem fold_prefix {D : Nat → Bool} : ∀ (tr tr' : Tr) (k : Nat) (X : St), (∀ q, k + tr.length ≤ q → D q = false) → fold D (tr ++ tr') k X = fold D tr k X
  | [], tr', k, X, h => by
    simp only [List.nil_append, fold]
    induction tr' generalizing k X with
    | nil => rfl
    | cons y r ih =>
      obtain ⟨o, e⟩ := y
      simp only [fold, h k (by simp)]
      exact ih (k + 1) X (fun q hq => h q (by simp at hq ⊢; omega))
  | (o, e) :: r, tr', k, X, h => by
    simp only [List.cons_append, fold]
    exact fold_prefix r tr' (k + 1) _ fun q hq => h q (by simp at hq ⊢; omega)
end Go.Proofs.Ytemgpfojmdncjaa
