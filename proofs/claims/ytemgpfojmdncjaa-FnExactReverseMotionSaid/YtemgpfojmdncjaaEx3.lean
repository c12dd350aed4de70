/-
  The reckoner's operations that leave memory alone. Over any program.
-/
import Derived.Test.YtemgpfojmdncjaaEx2
namespace Go.Proofs.Ytemgpfojmdncjaa
set_option linter.unusedVariables false
set_option linter.unusedSimpArgs false
open Go.RowKit

/-! ## The types -/
inductive TD where
  | int (k : IntKind) | bool | str
  | slice (e : Nat)
  | struct (fs : List (Nat × Nat × Nat))
  | other
structure TI where
  d : TD
  size : Nat
  bytes : Nat
  zero : List Value
abbrev TT := List (Nat × TI)

def isAggD : TypeDesc → Bool
  | .struct _ | .array _ _ => true
  | _ => false
def TD.fits (P : Program) (t : Nat) : TD → Prop
  | .int k => P.underlying t = some (.int k)
  | .bool => P.underlying t = some .bool
  | .str => P.underlying t = some .string
  | .slice e => P.underlying t = some (.slice e)
  | .struct fs => ∃ fl, P.underlying t = some (.struct fl) ∧ fl.toList.map (fun f => (f.offset, f.type)) = fs.map (fun x => (x.1, x.2.1)) ∧ fl.toList.mapM (fun f => (P.info? f.type).map fun i => (f.offset, i.size)) = some (fs.map fun x => (x.1, x.2.2))
  | .other => ∃ d, P.underlying t = some d ∧ isAggD d = false
structure TIok (P : Program) (t : Nat) (i : TI) : Prop where
  info : ∃ inf, P.info? t = some inf ∧ inf.size = i.size ∧ inf.bytes = i.bytes ∧ inf.zero.map (·.cells) = some i.zero.toArray
  d : i.d.fits P t
def TTok (P : Program) (T : TT) : Prop := ∀ t i, lkp T t = some i → TIok P t i
theorem TTok.nil (P : Program) : TTok P [] := fun t i h => by simp [lkp] at h
theorem TTok.cons {P : Program} {t : Nat} {i : TI} {T : TT} (h : TIok P t i) (hT : TTok P T) : TTok P ((t, i) :: T) := fun u j hj => by
  rw [lkp_cons] at hj
  split at hj
  · rename_i e; subst e; obtain rfl := Option.some.inj hj; exact h
  · exact hT u j hj

def TD.agg : TD → Bool
  | .struct _ => true
  | _ => false

section
variable {P : Program} {w : World} {t : Nat} {i : TI}
theorem TIok.sizeOf (h : TIok P t i) : (Go.sizeOf t).run P w = .ok i.size w := by
  obtain ⟨inf, h1, h2, h3, h4⟩ := h.info
  simp [Go.sizeOf, typeInfo, program, Sem.run, h1, h2]
theorem TIok.typeInfo (h : TIok P t i) : ∃ inf, (Go.typeInfo t).run P w = .ok inf w ∧ inf.size = i.size ∧ inf.bytes = i.bytes ∧ inf.zero.map (·.cells) = some i.zero.toArray := by
  obtain ⟨inf, h1, h2, h3, h4⟩ := h.info
  exact ⟨inf, by simp [Go.typeInfo, program, Sem.run, h1], h2, h3, h4⟩
theorem TIok.zeroValue (h : TIok P t i) : ∃ z, (Go.zeroValue t).run P w = .ok z w ∧ z.cells = i.zero.toArray := by
  obtain ⟨inf, h1, h2, h3, h4⟩ := h.info
  cases hz : inf.zero with
  | none => rw [hz] at h4; cases h4
  | some z =>
    rw [hz] at h4
    exact ⟨z, by simp [Go.zeroValue, Go.typeInfo, program, Sem.run, h1, hz], Option.some.inj h4⟩
theorem TIok.isAgg (h : TIok P t i) : (Go.isAgg t).run P w = .ok i.d.agg w := by
  have hd := h.d
  cases hi : i.d <;> rw [hi] at hd <;> simp only [TD.fits] at hd
  case struct fs => obtain ⟨fl, h1, _⟩ := hd; simp [Go.isAgg, Go.underlying, program, Sem.run, h1, TD.agg]
  case other =>
    obtain ⟨d, h1, h2⟩ := hd
    cases d <;> simp [isAggD] at h2 <;> simp [Go.isAgg, Go.underlying, program, Sem.run, h1, TD.agg]
  all_goals simp [Go.isAgg, Go.underlying, program, Sem.run, hd, TD.agg]
end
theorem underlying_run {P : Program} {w : World} {t : Nat} {d : TypeDesc} (h : P.underlying t = some d) : (Go.underlying t).run P w = .ok d w := by
  simp [Go.underlying, program, Sem.run, h]

/-! ## Values -/
def T.im : T → Option Value
  | .one (.one (.im v)) => some v
  | _ => none
def T.ofV (v : Value) : T := .one (.one (.im v))
def T.cs : T → Option (List C)
  | .one (.one c) => some [c]
  | .one (.agg cs) => some cs
  | .tup _ => none
def T.ofCs (agg : Bool) (cs : List C) : Option T :=
  if agg then some (.one (.agg cs)) else match cs with | [c] => some (.one (.one c)) | _ => none

theorem T.im_den {t : T} {v : Value} (m : Maps) (h : t.im = some v) : t.den m = v ∧ t = T.ofV v := by
  unfold T.im at h; split at h
  · simp only [Option.some.injEq] at h; subst h; exact ⟨rfl, rfl⟩
  · cases h
theorem T.ofV_den (m : Maps) (v : Value) : (T.ofV v).den m = v := rfl
theorem T.ofV_ids (v : Value) : (T.ofV v).ids = [] := rfl

def Value.same (k k' : IntKind) : Bool := decide (k = k')
/-- A binary operation on immediate values: what must hold, and the value. -/
def xbin (op : BinOp) (x y : Value) : Option (Option Prop × Value) :=
  match x, y with
  | .int k a, .int k' b =>
    if decide (k = k') = true then
      match op with
      | .add => some (none, .int k (k.wrap (a + b)))
      | .sub => some (none, .int k (k.wrap (a - b)))
      | .mul => some (none, .int k (k.wrap (a * b)))
      | .quo => some (some (b ≠ 0), .int k (k.wrap (a.tdiv b)))
      | .rem => some (some (b ≠ 0), .int k (a.tmod b))
      | .eql => some (none, .bool (a == b))
      | .neq => some (none, .bool (a != b))
      | .lss => some (none, .bool (decide (a < b)))
      | .leq => some (none, .bool (decide (a ≤ b)))
      | .gtr => some (none, .bool (decide (a > b)))
      | .geq => some (none, .bool (decide (a ≥ b)))
      | _ => none
    else none
  | .string a, .string b =>
    match op with
    | .eql => some (none, .bool (a.toList == b.toList))
    | .neq => some (none, .bool (!(a.toList == b.toList)))
    | .add => some (some (a.size + b.size ≤ 1125899906842624), .string (a ++ b))
    | _ => none
  | _, _ => none
def ob (p : Option Prop) (k : Prop) : Prop :=
  match p with
  | none => k
  | some q => q ∧ k
theorem ob_elim {p : Option Prop} {k : Prop} (h : ob p k) : (∀ q, p = some q → q) ∧ k := by
  cases p with
  | none => exact ⟨fun _ h => (by cases h), h⟩
  | some q => exact ⟨fun _ hq => (by cases hq; exact h.1), h.2⟩

theorem xbin_run {P : Program} {w : World} {op : BinOp} {t : Nat} {a b : Operand} {x y v : Value} {p : Option Prop} (h : xbin op x y = some (p, v)) (hp : ∀ q, p = some q → q) :
    (do eqGuard op t a b x y; binOp op t x y : Sem Value).run P w = .ok v w := by
  unfold xbin at h
  split at h
  · rename_i k a k' b
    split at h
    · rename_i hk
      have hk := of_decide_eq_true hk
      subst hk
      have hg : ∀ o o', (eqGuard op t o o' (.int k a) (.int k b)).run P w = .ok () w := fun o o' => by
        unfold eqGuard; split <;> simp
      cases op <;> simp only [Option.some.injEq, Prod.mk.injEq, reduceCtorEq] at h <;> obtain ⟨rfl, rfl⟩ := h
      case quo => have := hp _ rfl; simp [hg, binOp, Op.intDiv, this]
      case rem => have := hp _ rfl; simp [hg, binOp, Op.intDiv, this]
      all_goals simp [hg, binOp, Op.intArith, Op.intCmp]
    · cases h
  · rename_i a b
    have hg : ∀ o o', (eqGuard op t o o' (.string a) (.string b)).run P w = .ok () w := fun o o' => by
      unfold eqGuard; split <;> simp
    cases op <;> simp only [Option.some.injEq, Prod.mk.injEq, reduceCtorEq] at h <;> obtain ⟨rfl, rfl⟩ := h
    case add =>
      have := hp _ rfl
      simp only [Sem.run_bind, hg, Result.andThen_ok, binOp, Op.stringOp]
      rw [if_neg (by have e : IntKind.i64.max = 9223372036854775807 := by decide
                     rw [e]; omega)]
      simp
    all_goals simp [hg, binOp, Op.stringOp]
  · cases h

def xun (op : UnOp) (x : Value) : Option Value :=
  match op, x with
  | .neg, .int k n => some (.int k (k.wrap (0 - n)))
  | .not, .bool b => some (.bool !b)
  | _, _ => none
theorem xun_run {P : Program} {w : World} {op : UnOp} {x v : Value} (h : xun op x = some v) : (Op.unary op x).run P w = .ok v w := by
  unfold xun at h
  split at h <;> simp only [Option.some.injEq, reduceCtorEq] at h <;> subst h <;> simp [Op.unary, Op.intArith]

/-! ## Parts -/
def fldOf (T : TT) (t f : Nat) : Option (Nat × TI) :=
  match lkp T t with
  | some { d := .struct fs, .. } =>
    match fs[f]? with
    | some (o, u, _) => (lkp T u).map (o, ·)
    | none => none
  | _ => none
theorem fldOf_ok {P : Program} {T : TT} (hT : TTok P T) {t f o : Nat} {i : TI} (h : fldOf T t f = some (o, i)) : ∃ fl fd, P.underlying t = some (.struct fl) ∧ fl[f]? = some fd ∧ fd.offset = o ∧ TIok P fd.type i := by
  unfold fldOf at h
  split at h
  · rename_i fs sz by_ z hl
    have ht := hT _ _ hl
    obtain ⟨fl, h1, h2, _⟩ := ht.d
    split at h
    · rename_i o' u _ hf
      cases hu : lkp T u with
      | none => rw [hu] at h; cases h
      | some j =>
        rw [hu] at h
        simp only [Option.map_some, Option.some.injEq, Prod.mk.injEq] at h
        obtain ⟨rfl, rfl⟩ := h
        have h3 : (fl.toList.map (fun f => (f.offset, f.type)))[f]? = some (o', u) := by rw [h2, List.getElem?_map, hf]; rfl
        simp only [List.getElem?_map, Option.map_eq_some_iff, Prod.mk.injEq] at h3
        obtain ⟨fd, hfd, rfl, rfl⟩ := h3
        exact ⟨fl, fd, h1, by simpa using hfd, rfl, hT _ _ hu⟩
    · cases h
  · cases h

/-- Cells of a list, from o on. -/
def sub {α : Type} (cs : List α) (o n : Nat) : Option (List α) := if Nat.ble (o + n) cs.length = true then some ((cs.drop o).take n) else none
theorem sub_some {α : Type} {cs : List α} {o n : Nat} {x : List α} (h : sub cs o n = some x) : o + n ≤ cs.length ∧ x = (cs.drop o).take n := by
  unfold sub at h
  split at h
  · rename_i hl; exact ⟨Nat.le_of_ble_eq_true hl, (Option.some.inj h).symm⟩
  · cases h
theorem sub_mem {α : Type} {cs : List α} {o n : Nat} {x : List α} (h : sub cs o n = some x) : ∀ c ∈ x, c ∈ cs := by
  obtain ⟨_, rfl⟩ := sub_some h
  exact fun c hc => List.mem_of_mem_drop (List.mem_of_mem_take hc)
theorem sub_len {α : Type} {cs : List α} {o n : Nat} {x : List α} (h : sub cs o n = some x) : x.length = n := by
  obtain ⟨h1, rfl⟩ := sub_some h
  simp; omega
theorem sub_get {α : Type} {cs : List α} {o n : Nat} {x : List α} (h : sub cs o n = some x) (j : Nat) (hj : j < n) : cs[o + j]? = x[j]? := by
  obtain ⟨_, rfl⟩ := sub_some h
  simp [hj]

theorem T.ofCs_ids {b : Bool} {cs : List C} {v : T} (h : T.ofCs b cs = some v) : v.ids = cs.flatMap C.ids := by
  unfold T.ofCs at h
  split at h
  · simp only [Option.some.injEq] at h; subst h; rfl
  · split at h
    · simp only [Option.some.injEq] at h; subst h; simp [T.ids, A.ids]
    · cases h
theorem T.cs_ids {v : T} {cs : List C} (h : v.cs = some cs) : v.ids = cs.flatMap C.ids := by
  unfold T.cs at h
  split at h <;> simp only [Option.some.injEq, reduceCtorEq] at h <;> subst h <;> simp [T.ids, A.ids]
/-- The value out of its cells. -/
def valOf (agg : Bool) (vs : List Value) : Value := if agg then .agg vs.toArray else vs.getD 0 undef
theorem T.ofCs_den {b : Bool} {cs : List C} {v : T} (m : Maps) (h : T.ofCs b cs = some v) : v.den m = valOf b (cs.map (C.den m)) ∧ (b = false → cs.length = 1) := by
  unfold T.ofCs at h
  split at h
  · rename_i hb
    simp only [Option.some.injEq] at h; subst h
    simp [T.den, A.den, valOf, hb]
  · rename_i hb
    split at h
    · simp only [Option.some.injEq] at h; subst h
      have hb : b = false := by simpa using hb
      simp [T.den, A.den, valOf, hb]
    · cases h
end Go.Proofs.Ytemgpfojmdncjaa
