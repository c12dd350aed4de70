/-
  The reckoner's calls: what a function promises, and a call of it. Over any program.
-/
import Derived.Test.YtemgpfojmdncjaaEx9
namespace Go.Proofs.Ytemgpfojmdncjaa
set_option linter.unusedVariables false
set_option linter.unusedSimpArgs false
open Go.RowKit

/-- A cell that is handed over; a value that is handed over. -/
inductive DC where
  | im (v : Value)
  | sl (e : Nat) (ts : List Ty) (rows : List (List Dat))
inductive DA where
  | one (c : DC)
  | agg (cs : List DC)
def DA.cells : DA → List DC
  | .one c => [c]
  | .agg cs => cs
/-- A cell that comes back: immediate; a slice in new memory of its own; a slice that may lie in what was handed over. -/
inductive RC where
  | im (v : Value)
  | own (e : Nat) (ts : List Ty) (rows : List (List Dat))
  | view (e : Nat) (ts : List Ty) (rows : List (List Dat))
/-- What comes back: a tuple or one value, of numbers and structs. -/
structure RT where
  tup : Bool
  sh : List (Option Nat)
  cells : List RC

def valD : List DA → List Value → List Value
  | [], _ => []
  | .one _ :: r, us => us.headD undef :: valD r us.tail
  | .agg cs :: r, us => .agg (us.take cs.length).toArray :: valD r (us.drop cs.length)
def valA : List (Option Nat) → List Value → List Value
  | [], _ => []
  | none :: r, us => us.headD undef :: valA r us.tail
  | some n :: r, us => .agg (us.take n).toArray :: valA r (us.drop n)
def RT.val (r : RT) (us : List Value) : Value := if r.tup then .tuple (valA r.sh us).toArray else (valA r.sh us).headD undef
def asA : List (Option Nat) → List C → List A
  | [], _ => []
  | none :: r, cs => .one (cs.headD (.im undef)) :: asA r cs.tail
  | some n :: r, cs => .agg (cs.take n) :: asA r (cs.drop n)
def RT.t (r : RT) (cs : List C) : T := if r.tup then .tup (asA r.sh cs) else .one ((asA r.sh cs).headD (.one (.im undef)))
theorem asA_den (m : Maps) : ∀ (sh : List (Option Nat)) (cs : List C), (asA sh cs).map (A.den m) = valA sh (cs.map (C.den m))
  | [], cs => rfl
  | none :: r, cs => by
    simp only [asA, valA, List.map_cons, asA_den m r]
    cases cs <;> simp [A.den, C.den]
  | some n :: r, cs => by simp only [asA, valA, List.map_cons, asA_den m r, A.den, List.map_take, List.map_drop]
theorem RT.t_den (m : Maps) (r : RT) (cs : List C) : (r.t cs).den m = r.val (cs.map (C.den m)) := by
  unfold RT.t RT.val
  split
  · simp [T.den, asA_den]
  · simp only [T.den]
    rw [← asA_den]
    cases asA r.sh cs <;> simp [A.den, C.den]
theorem asA_ids {sh : List (Option Nat)} : ∀ {cs : List C} {x : A}, x ∈ asA sh cs → ∀ i ∈ x.ids, ∃ c ∈ cs, i ∈ c.ids := by
  induction sh with
  | nil => intro cs x hx; simp [asA] at hx
  | cons q r ih =>
    intro cs x hx i hi
    cases q with
    | none =>
      simp only [asA, List.mem_cons] at hx
      rcases hx with rfl | hx
      · cases cs with
        | nil => simp [A.ids, C.ids] at hi
        | cons c cs => exact ⟨c, by simp, by simpa [A.ids] using hi⟩
      · obtain ⟨c, hc, h⟩ := ih hx i hi
        exact ⟨c, List.mem_of_mem_tail hc, h⟩
    | some n =>
      simp only [asA, List.mem_cons] at hx
      rcases hx with rfl | hx
      · simp only [A.ids, List.mem_flatMap] at hi
        obtain ⟨c, hc, h⟩ := hi
        exact ⟨c, List.mem_of_mem_take hc, h⟩
      · obtain ⟨c, hc, h⟩ := ih hx i hi
        exact ⟨c, List.mem_of_mem_drop hc, h⟩
theorem RT.t_ids {r : RT} {cs : List C} {i : Nat} (h : i ∈ (r.t cs).ids) : ∃ c ∈ cs, i ∈ c.ids := by
  unfold RT.t at h
  split at h
  · simp only [T.ids, List.mem_flatMap] at h
    obtain ⟨x, hx, h⟩ := h
    exact asA_ids hx i h
  · simp only [T.ids] at h
    cases hq : asA r.sh cs with
    | nil => rw [hq] at h; simp [A.ids, C.ids] at h
    | cons x y => rw [hq] at h; exact asA_ids (sh := r.sh) (x := x) (by rw [hq]; simp) i (by simpa using h)

/-- A function's promise: for every i what is handed over, what must hold, which cells of the arguments are turned and into what, and what comes back. -/
structure Con where
  ι : Type
  pre : ι → Prop
  args : ι → List DA
  mu : List Nat := []
  new : ι → List (List (List Dat)) := fun _ => []
  res : ι → RT

def CellAt (F : Nat → Prop) (w : World) : DC → Value → Prop
  | .im v, u => u = v
  | .sl e ts rows, u => RdS F w (.sl e ts) (.sl rows) u
structure ArgsAt (F : Nat → Prop) (w : World) (mu : List Nat) (mb : Nat → List Nat) (dcs : List DC) (us : List Value) : Prop where
  len : us.length = dcs.length
  lt : ∀ b, F b → b < w.heap.size
  rd : ∀ p d u, dcs[p]? = some d → us[p]? = some u → p ∉ mu → CellAt F w d u
  own : ∀ j p, mu[j]? = some p → ∃ e ts rows u, dcs[p]? = some (.sl e ts rows) ∧ us[p]? = some u ∧ Fp w (.sl e ts) (.sl rows) u (mb j) ∧ (mb j).Nodup
  dis : ∀ i j b, i ≠ j → i < mu.length → j < mu.length → b ∈ mb i → b ∉ mb j
  out : ∀ j b, j < mu.length → b ∈ mb j → ¬ F b
def RCsAt (F : Nat → Prop) (w w' : World) (all : List Nat) : List RC → List Value → List Nat → Prop
  | [], [], bs => bs = []
  | .im v :: r, u :: us, bs => u = v ∧ RCsAt F w w' all r us bs
  | .own e ts rows :: r, u :: us, bs => ∃ b1 b2, bs = b1 ++ b2 ∧ Fp w' (.sl e ts) (.sl rows) u b1 ∧ RCsAt F w w' all r us b2
  | .view e ts rows :: r, u :: us, bs => RdS (fun b => F b ∨ (w.heap.size ≤ b ∧ b ∉ all)) w' (.sl e ts) (.sl rows) u ∧ RCsAt F w w' all r us bs
  | _, _, _ => False
structure Con.Post (c : Con) (i : c.ι) (F : Nat → Prop) (w : World) (us : List Value) (mb : Nat → List Nat) (rs : List Value) (bs : List Nat) (w' : World) : Prop where
  res : RCsAt F w w' bs (c.res i).cells rs bs
  nd : bs.Nodup
  fresh : ∀ b ∈ bs, w.heap.size ≤ b
  turned : ∀ j p e ts rows u, c.mu[j]? = some p → ((c.args i).flatMap DA.cells)[p]? = some (.sl e ts rows) → us[p]? = some u → Fp w' (.sl e ts) (.sl ((c.new i).getD j [])) u (mb j)
  os : w'.os = w.os
  tape : w'.tape = w.tape
  output : w'.output = w.output
  size : w.heap.size ≤ w'.heap.size
  keep : ∀ b, b < w.heap.size → (∀ j, j < c.mu.length → b ∉ mb j) → w'.heap[b]? = w.heap[b]?
structure Con.Ok (P : Program) (f : Nat) (c : Con) : Prop where
  enter : ∃ fn, P.funcs[f]? = some fn ∧ fn.name ≠ "runtime.NumGoroutine" ∧ fn.body.isNone = false
  small : ∀ i, (c.res i).cells.length ≤ 32
  calls : ∀ i, c.pre i → ∀ F w us mb, ArgsAt F w c.mu mb ((c.args i).flatMap DA.cells) us → Calls P f (valD (c.args i) us).toArray w fun e w' => ∃ rs bs, e = .returned ((c.res i).val rs) ∧ c.Post i F w us mb rs bs w'
abbrev CTs := List (Nat × Con)
def CTok (P : Program) (ct : CTs) : Prop := ∀ f c, lkp ct f = some c → c.Ok P f
theorem CTok.nil (P : Program) : CTok P [] := fun t i h => by simp [lkp] at h
theorem CTok.cons {P : Program} {t : Nat} {i : Con} {ct : CTs} (h : i.Ok P t) (hT : CTok P ct) : CTok P ((t, i) :: ct) := fun u j hj => by
  rw [lkp_cons] at hj
  split at hj
  · rename_i e; subst e; obtain rfl := Option.some.inj hj; exact h
  · exact hT u j hj

/-! ## The arguments as the reckoner knows them -/
def shapeOf (tt : TT) : Nat → Nat → List Ty
  | 0, _ => []
  | f + 1, t =>
    match lkp tt t with
    | some { d := .int _, .. } => [.int]
    | some { d := .bool, .. } => [.bool]
    | some { d := .str, .. } => [.str]
    | some { d := .slice e, .. } => [.sl e (shapeOf tt f e)]
    | some { d := .struct fs, .. } => fs.flatMap fun x => shapeOf tt f x.2.1
    | _ => [.int]
def argC (s : St) (t : Ty) (c : C) : Option DC :=
  match t, c with
  | .sl e ts, .im (.slice none 0 0) => some (.sl e ts [])
  | _, .im v => some (.im v)
  | _, .ext k =>
    match slOf s k with
    | some (e, ts, rows, _) => some (.sl e ts rows)
    | none => none
  | _, _ => none
def argCs (s : St) : List Ty → List C → Option (List DC)
  | [], [] => some []
  | t :: ts, c :: cs =>
    match argC s t c, argCs s ts cs with
    | some d, some ds => some (d :: ds)
    | _, _ => none
  | _, _ => none
def argA (tt : TT) (s : St) (t : Nat) (a : T) : Option (DA × List C) :=
  match a with
  | .one (.one c) =>
    match shapeOf tt 9 t with
    | [ty] => (argC s ty c).map fun d => (.one d, [c])
    | _ => none
  | .one (.agg cs) => (argCs s (shapeOf tt 9 t) cs).map fun ds => (.agg ds, cs)
  | .tup _ => none
def argsD (tt : TT) (s : St) : List Nat → List T → Option (List DA × List C)
  | [], [] => some ([], [])
  | t :: ts, a :: as =>
    match argA tt s t a, argsD tt s ts as with
    | some (d, c), some (ds, cs) => some (d :: ds, c ++ cs)
    | _, _ => none
  | _, _ => none
def cellDeps (s : St) (c : C) : List Nat :=
  match c with
  | .ext k =>
    match slOf s k with
    | some (_, _, _, deps) => deps
    | none => []
  | _ => []
/-- What the cells that are only read hang on. -/
def argDeps (s : St) (mu : List Nat) : List C → Nat → List Nat
  | [], _ => []
  | c :: cs, p => (if (mu.any (Nat.beq p)) = true then [] else cellDeps s c) ++ argDeps s mu cs (p + 1)
def muId (s : St) (cells : List C) (p : Nat) : Option Nat :=
  match cells[p]? with
  | some (.ext k) =>
    match lkp s.en k with
    | some (.own _ _ _) => some k
    | _ => none
  | _ => none
def muIds (s : St) (cells : List C) : List Nat → Option (List Nat)
  | [] => some []
  | p :: ps =>
    match muId s cells p, muIds s cells ps with
    | some k, some ks => some (k :: ks)
    | _, _ => none
def rcCells : List RC → Nat → List C
  | [], _ => []
  | .im v :: r, nx => .im v :: rcCells r (nx + 1)
  | .own _ _ _ :: r, nx => .ext nx :: rcCells r (nx + 1)
  | .view _ _ _ :: r, nx => .ext nx :: rcCells r (nx + 1)
def rcEn (deps : List Nat) : List RC → Nat → List (Nat × En)
  | [], _ => []
  | .im _ :: r, nx => rcEn deps r (nx + 1)
  | .own e ts rows :: r, nx => (nx, .own e ts rows) :: rcEn deps r (nx + 1)
  | .view e ts rows :: r, nx => (nx, .view e ts rows deps) :: rcEn deps r (nx + 1)
def muEn (s : St) (new : List (List (List Dat))) : List Nat → Nat → List (Nat × En)
  | [], _ => []
  | k :: ks, j => (k, match lkp s.en k with | some (.own e ts _) => .own e ts (new.getD j []) | _ => .dead) :: muEn s new ks (j + 1)
def callEff (s : St) (nx : Nat) (deps ks : List Nat) (r : RT) (new : List (List (List Dat))) : Eff :=
  ⟨r.t (rcCells r.cells nx), rcEn deps r.cells nx ++ muEn s new ks 0⟩
def xcall (tt : TT) (ct : CTs) (s : St) (nx f : Nat) (tys : List Nat) (as : List T) (q : Eff → Prop) : Prop :=
  match lkp ct f, argsD tt s tys as with
  | some c, some (ds, cells) =>
    match muIds s cells c.mu with
    | some ks => if (nodupB ks && !(ks.any fun k => (argDeps s c.mu cells 0).any (Nat.beq k))) = true then ∃ i : c.ι, ds = c.args i ∧ c.pre i ∧ q (callEff s nx (argDeps s c.mu cells 0) ks (c.res i) (c.new i)) else False
    | none => False
  | _, _ => False

section
variable {P : Program} {tt : TT} {ct : CTs} {Γ : Env} {n : Nat} {w0 : World} {al fr : Nat → Prop} {s : St} {m : Maps} {a : Act} {w : World} {nx : Nat} {o : Oper}

theorem argC_ok (h : R Γ n w0 al s m a w) {t : Ty} {c : C} {d : DC} (hx : argC s t c = some d) : CellAt (fun b => Γ.may m (cellDeps s c) b ∧ b < w.heap.size) w d (c.den m) := by
  unfold argC at hx
  split at hx
  · simp only [Option.some.injEq] at hx
    subst hx
    simp only [CellAt, RdS, C.den]
    exact ⟨[], ⟨none, 0, rfl, Nat.le_refl _, by unfold maxLen; omega, by simp, .inl ⟨rfl, fun _ => rfl⟩⟩, by simp, rfl, by simp⟩
  · simp only [Option.some.injEq] at hx
    subst hx
    rfl
  · split at hx
    · rename_i k e ts rows deps hk
      simp only [Option.some.injEq] at hx
      subst hx
      obtain ⟨⟨F, f1, f2⟩, -, -⟩ := h.sl hk
      simp only [CellAt, C.den, cellDeps, hk]
      have := RdS.step (Nat.le_refl _) (fun _ _ _ => rfl) _ _ _ f1
      exact RdS.mono (fun b hb => ⟨f2 b hb.1, hb.2⟩) _ _ _ this
    · cases hx
  · cases hx
theorem argCs_ok : ∀ {ts : List Ty} {cs : List C} {ds : List DC}, argCs s ts cs = some ds → All2 (fun c d => ∃ t, argC s t c = some d) cs ds
  | [], [], ds, hx => by simp only [argCs, Option.some.injEq] at hx; subst hx; exact .nil
  | [], _ :: _, _, hx => by simp [argCs] at hx
  | _ :: _, [], _, hx => by simp [argCs] at hx
  | t :: ts, c :: cs, ds, hx => by
    simp only [argCs] at hx
    split at hx
    · rename_i d ds' h1 h2
      simp only [Option.some.injEq] at hx
      subst hx
      exact .cons ⟨t, h1⟩ (argCs_ok h2)
    · cases hx
theorem All2.len {α β : Type} {p : α → β → Prop} {l : List α} {r : List β} (h : All2 p l r) : l.length = r.length := by
  induction h with
  | nil => rfl
  | cons _ _ ih => simp [ih]
theorem All2.get {α β : Type} {p : α → β → Prop} {l : List α} {r : List β} (h : All2 p l r) {j : Nat} {x : α} {y : β} (hx : l[j]? = some x) (hy : r[j]? = some y) : p x y := by
  induction h generalizing j with
  | nil => simp at hx
  | cons h1 _ ih =>
    cases j with
    | zero => simp at hx hy; subst hx; subst hy; exact h1
    | succ j => exact ih (by simpa using hx) (by simpa using hy)
theorem All2.append {α β : Type} {p : α → β → Prop} {l l' : List α} {r r' : List β} (h : All2 p l r) (h' : All2 p l' r') : All2 p (l ++ l') (r ++ r') := by
  induction h with
  | nil => exact h'
  | cons h1 _ ih => exact .cons h1 ih
theorem argsD_ok : ∀ {tys : List Nat} {as : List T} {ds : List DA} {cells : List C}, argsD tt s tys as = some (ds, cells) →
    All2 (fun c d => ∃ t, argC s t c = some d) cells (ds.flatMap DA.cells) ∧ as.map (T.den m) = valD ds (cells.map (C.den m))
  | [], [], ds, cells, hx => by
    simp only [argsD, Option.some.injEq, Prod.mk.injEq] at hx
    obtain ⟨rfl, rfl⟩ := hx
    exact ⟨.nil, rfl⟩
  | [], _ :: _, _, _, hx => by simp [argsD] at hx
  | _ :: _, [], _, _, hx => by simp [argsD] at hx
  | t :: ts, x :: as, ds, cells, hx => by
    simp only [argsD] at hx
    split at hx
    · rename_i d c ds' cs' h1 h2
      simp only [Option.some.injEq, Prod.mk.injEq] at hx
      obtain ⟨rfl, rfl⟩ := hx
      obtain ⟨i1, i2⟩ := argsD_ok h2
      unfold argA at h1
      split at h1
      · rename_i c0
        split at h1
        · rename_i ty _
          cases hc : argC s ty c0 with
          | none => rw [hc] at h1; cases h1
          | some d0 =>
            rw [hc] at h1
            simp only [Option.map_some, Option.some.injEq, Prod.mk.injEq] at h1
            obtain ⟨rfl, rfl⟩ := h1
            exact ⟨by simpa [DA.cells] using All2.append (.cons ⟨ty, hc⟩ .nil) i1, by simp [valD, i2, T.den, A.den]⟩
        · cases h1
      · rename_i cs0
        cases hc : argCs s (shapeOf tt 9 t) cs0 with
        | none => rw [hc] at h1; cases h1
        | some d0 =>
          rw [hc] at h1
          simp only [Option.map_some, Option.some.injEq, Prod.mk.injEq] at h1
          obtain ⟨rfl, rfl⟩ := h1
          have hall := argCs_ok hc
          have hl := hall.len
          refine ⟨by simpa [DA.cells] using All2.append hall i1, ?_⟩
          · simp only [List.map_cons, valD, i2, T.den, A.den, List.map_append]
            rw [← hl]
            have e1 : (cs0.map (C.den m) ++ cs'.map (C.den m)).take cs0.length = cs0.map (C.den m) := by rw [List.take_left' (by simp)]
            have e2 : (cs0.map (C.den m) ++ cs'.map (C.den m)).drop cs0.length = cs'.map (C.den m) := by rw [List.drop_left' (by simp)]
            rw [e1, e2]
      · cases h1
    · cases hx
theorem argDeps_mem {mu : List Nat} : ∀ {cells : List C} {p0 p : Nat} {c : C}, cells[p]? = some c → (p0 + p) ∉ mu → ∀ i ∈ cellDeps s c, i ∈ argDeps s mu cells p0
  | [], _, _, _, h, _ => by simp at h
  | c0 :: cs, p0, p, c, h, hp => by
    intro i hi
    simp only [argDeps]
    cases p with
    | zero =>
      simp at h
      subst h
      refine List.mem_append.2 (.inl ?_)
      rw [if_neg]
      · exact hi
      · intro he
        obtain ⟨q, hq, e⟩ := List.any_eq_true.1 he
        simp at e
        subst e
        exact hp (by simpa using hq)
    | succ p => exact List.mem_append.2 (.inr (argDeps_mem (p0 := p0 + 1) (by simpa using h) (by rw [Nat.add_assoc, Nat.add_comm 1]; exact hp) i hi))
theorem argDeps_al (h : R Γ n w0 al s m a w) {mu : List Nat} : ∀ {cells : List C} {p0 i : Nat}, i ∈ argDeps s mu cells p0 → al i
  | [], _, _, hi => by simp [argDeps] at hi
  | c0 :: cs, p0, i, hi => by
    simp only [argDeps] at hi
    rcases List.mem_append.1 hi with hi | hi
    · split at hi
      · simp at hi
      · unfold cellDeps at hi
        split at hi
        · split at hi
          · rename_i hk
            exact (h.sl hk).2.2 i hi
          · simp at hi
        · simp at hi
    · exact argDeps_al h hi
theorem muIds_ok {cells : List C} : ∀ {mu ks : List Nat}, muIds s cells mu = some ks → ks.length = mu.length ∧ ∀ j p : Nat, mu[j]? = some p → ∃ (k e : Nat) (ts : List Ty) (rows : List (List Dat)), ks[j]? = some k ∧ cells[p]? = some (C.ext k) ∧ lkp s.en k = some (.own e ts rows)
  | [], ks, hx => by simp only [muIds, Option.some.injEq] at hx; subst hx; exact ⟨rfl, by simp⟩
  | p :: ps, ks, hx => by
    simp only [muIds] at hx
    split at hx
    · rename_i k ks' h1 h2
      simp only [Option.some.injEq] at hx
      subst hx
      obtain ⟨i1, i2⟩ := muIds_ok h2
      refine ⟨by simp [i1], fun j q hq => ?_⟩
      cases j with
      | zero =>
        simp at hq
        subst hq
        unfold muId at h1
        split at h1
        · rename_i k' hk'
          split at h1
          · rename_i e ts rows hl
            simp only [Option.some.injEq] at h1
            subst h1
            exact ⟨_, e, ts, rows, rfl, hk', hl⟩
          · cases h1
        · cases h1
      | succ j => simpa using i2 j q (by simpa using hq)
    · cases hx
/-- The numbers and owners of what came back. -/
theorem rcs_ok {F : Nat → Prop} {w' : World} {all deps : List Nat} : ∀ {rcs : List RC} {us : List Value} {bs : List Nat} {nx : Nat}, RCsAt F w w' all rcs us bs → bs.Nodup → (∀ b ∈ bs, Γ.base ≤ b) →
    us.length = rcs.length ∧ (∀ c ∈ rcCells rcs nx, ∀ i ∈ c.ids, nx ≤ i ∧ i < nx + rcs.length) ∧
    ∃ g : Nat → Nat, (∀ b ∈ bs, nx ≤ g b ∧ g b < nx + rcs.length) ∧ ∀ M : Maps, (∀ b, F b ∨ (w.heap.size ≤ b ∧ b ∉ all) → Γ.may M deps b) → (∀ q, q < rcs.length → M.ε (nx + q) = us.getD q undef) → (∀ b ∈ bs, M.π b = g b) →
      (rcCells rcs nx).map (C.den M) = us ∧ ∀ i E, lkp (rcEn deps rcs nx) i = some E → (nx ≤ i ∧ i < nx + rcs.length) ∧ EnAt Γ M w' i E ∧ ∀ j ∈ E.ids, j ∈ deps
  | [], [], bs, nx, h, _, _ => by
    simp only [RCsAt] at h
    subst h
    exact ⟨rfl, by simp [rcCells], fun _ => 0, by simp, fun _ _ _ _ => ⟨rfl, fun i E hE => by simp [rcEn, lkp] at hE⟩⟩
  | [], _ :: _, _, _, h, _, _ => by simp [RCsAt] at h
  | rc :: _, [], _, _, h, _, _ => by cases rc <;> simp [RCsAt] at h
  | rc :: r, u :: us, bs, nx, h, hn, hb => by
    have hsh : ∀ {M : Maps} {us' : List Value} {N : Nat}, (∀ q, q < N + 1 → M.ε (nx + q) = (u :: us').getD q undef) → ∀ q, q < N → M.ε (nx + 1 + q) = us'.getD q undef := fun hm q hq => by
      have := hm (q + 1) (by omega)
      simpa [Nat.add_assoc, Nat.add_comm 1] using this
    have hm0 : ∀ {M : Maps} {N : Nat}, (∀ q, q < N + 1 → M.ε (nx + q) = (u :: us).getD q undef) → M.ε nx = u := fun hm => by simpa using hm 0 (by omega)
    cases rc with
    | im v =>
      simp only [RCsAt] at h
      obtain ⟨rfl, h⟩ := h
      obtain ⟨a1, a3, g, a4, a5⟩ := rcs_ok (nx := nx + 1) h hn hb
      refine ⟨by simp [a1], fun c hc i hi => ?_, g, fun b hb => by have := a4 b hb; simp; omega, fun M hF hm hg => ?_⟩
      · simp only [rcCells, List.mem_cons] at hc
        rcases hc with rfl | hc
        · simp [C.ids] at hi
        · have := a3 c hc i hi; simp; omega
      · obtain ⟨x1, x2⟩ := a5 M hF (hsh hm) hg
        refine ⟨by simp only [rcCells, List.map_cons, C.den]; rw [x1], fun i E hE => ?_⟩
        obtain ⟨e1, e2⟩ := x2 i E hE
        exact ⟨by simp; omega, e2⟩
    | own e ts rows =>
      simp only [RCsAt] at h
      obtain ⟨b1, b2, rfl, h1, h⟩ := h
      obtain ⟨n1, n2, n3⟩ := List.nodup_append.1 hn
      obtain ⟨a1, a3, g, a4, a5⟩ := rcs_ok (nx := nx + 1) h n2 (fun b hb' => hb b (List.mem_append.2 (.inr hb')))
      refine ⟨by simp [a1], fun c hc i hi => ?_, fun b => if b ∈ b1 then nx else g b, fun b hb => ?_, fun M hF hm hg => ?_⟩
      · simp only [rcCells, List.mem_cons] at hc
        rcases hc with rfl | hc
        · simp [C.ids] at hi; subst hi; simp
        · have := a3 c hc i hi; simp; omega
      · by_cases hb1 : b ∈ b1
        · simp [hb1]
        · simp only [hb1, if_false]
          have := a4 b ((List.mem_append.1 hb).resolve_left hb1)
          simp; omega
      · obtain ⟨x1, x2⟩ := a5 M hF (hsh hm) (fun b hb' => (hg b (List.mem_append.2 (.inr hb'))).trans (if_neg (fun hb1 => n3 b hb1 b hb' rfl)))
        refine ⟨by simp only [rcCells, List.map_cons, C.den]; rw [x1, hm0 hm], fun i E hE => ?_⟩
        simp only [rcEn, lkp_cons] at hE
        split at hE
        · rename_i e'
          subst e'
          obtain rfl := Option.some.inj hE
          refine ⟨by simp, ⟨b1, by rw [hm0 hm]; exact h1, n1, fun b hb' => ⟨hb b (List.mem_append.2 (.inl hb')), ?_⟩⟩, by simp [En.ids]⟩
          exact (hg b (List.mem_append.2 (.inl hb'))).trans (if_pos hb')
        · obtain ⟨e1, e2⟩ := x2 i E hE
          exact ⟨by simp; omega, e2⟩
    | view e ts rows =>
      simp only [RCsAt] at h
      obtain ⟨h1, h⟩ := h
      obtain ⟨a1, a3, g, a4, a5⟩ := rcs_ok (nx := nx + 1) h hn hb
      refine ⟨by simp [a1], fun c hc i hi => ?_, g, fun b hb => by have := a4 b hb; simp; omega, fun M hF hm hg => ?_⟩
      · simp only [rcCells, List.mem_cons] at hc
        rcases hc with rfl | hc
        · simp [C.ids] at hi; subst hi; simp
        · have := a3 c hc i hi; simp; omega
      · obtain ⟨x1, x2⟩ := a5 M hF (hsh hm) hg
        refine ⟨by simp only [rcCells, List.map_cons, C.den]; rw [x1, hm0 hm], fun i E hE => ?_⟩
        simp only [rcEn, lkp_cons] at hE
        split at hE
        · rename_i e'
          subst e'
          obtain rfl := Option.some.inj hE
          exact ⟨by simp, ⟨_, by rw [hm0 hm]; exact h1, hF⟩, by simp [En.ids]⟩
        · obtain ⟨e1, e2⟩ := x2 i E hE
          exact ⟨by simp; omega, e2⟩
theorem muEn_lkp {new : List (List (List Dat))} : ∀ {ks : List Nat} {j0 i : Nat} {E : En}, lkp (muEn s new ks j0) i = some E → ∃ j, ks[j]? = some i ∧ E = (match lkp s.en i with | some (.own e ts _) => .own e ts (new.getD (j0 + j) []) | _ => .dead)
  | [], j0, i, E, h => by simp [muEn, lkp] at h
  | k :: ks, j0, i, E, h => by
    simp only [muEn, lkp_cons] at h
    split at h
    · rename_i e
      subst e
      obtain rfl := Option.some.inj h
      exact ⟨0, rfl, rfl⟩
    · obtain ⟨j, h1, h2⟩ := muEn_lkp h
      exact ⟨j + 1, by simpa using h1, by rw [h2, Nat.add_assoc, Nat.add_comm 1]⟩
theorem nodup_idx {α : Type} : ∀ {l : List α} {x : α} {i j : Nat}, l.Nodup → l[i]? = some x → l[j]? = some x → i = j
  | [], _, _, _, _, h, _ => by simp at h
  | y :: r, x, i, j, hn, h, k => by
    obtain ⟨n1, n2⟩ := List.nodup_cons.1 hn
    cases i with
    | zero =>
      cases j with
      | zero => rfl
      | succ j => simp at h k; subst h; exact absurd (List.mem_of_getElem? k) n1
    | succ i =>
      cases j with
      | zero => simp at h k; subst k; exact absurd (List.mem_of_getElem? h) n1
      | succ j => exact congrArg (· + 1) (nodup_idx n2 (x := x) (i := i) (j := j) (by simpa using h) (by simpa using k))
theorem muEn_ids {new : List (List (List Dat))} : ∀ {ks : List Nat} {j0 : Nat}, (muEn s new ks j0).map (·.1) = ks
  | [], _ => rfl
  | k :: ks, j0 => by simp [muEn, muEn_ids (ks := ks)]

theorem snd_call (hct : CTok P ct) (h : R Γ n w0 al s m a w) {f : Nat} {fo : Operand} {as : Array Operand} {tys : Array Nat} {ts : List T} (ho : o.op = .call { callee := .value fo, args := as, argTypes := tys }) (hfo : ev s fo = some (.one (.one (.clo f [])))) (has : All2 (fun x t => ev s x = some t) as.toList ts)
    (hal : ∀ i, al i → ¬ (nx ≤ i ∧ i < nx + 32)) (hfr : ∀ i, nx ≤ i → i < nx + 32 → fr i) : Snd P Γ al fr m a w o (xcall tt ct s nx f tys.toList ts) := by
  intro q hk Q
  unfold xcall at hk
  split at hk
  · rename_i c ds cells hc hds
    split at hk
    · rename_i ks hks
      split at hk
      · rename_i hcond
        simp only [Bool.and_eq_true, Bool.not_eq_true'] at hcond
        obtain ⟨hnd, hdisj⟩ := hcond
        have hnd := nodupB_ok hnd
        obtain ⟨i, rfl, hpre, hk⟩ := hk
        have hok := hct _ _ hc
        obtain ⟨d1, d2⟩ := argsD_ok (m := m) hds
        obtain ⟨m1, m2⟩ := muIds_ok hks
        have hts : as.toList.map a.eval = ts.map (T.den m) := by
          clear hds d2 hk
          generalize as.toList = l at has
          induction has with
          | nil => rfl
          | cons h1 _ ih => simp [ih, (h.ev h1).1]
        let deps := argDeps s c.mu cells 0
        let F : Nat → Prop := fun b => Γ.may m deps b ∧ b < w.heap.size
        have hkdeps : ∀ k ∈ ks, k ∉ deps := fun k hk hd => by
          have := List.any_eq_false.1 hdisj k hk
          exact this (List.any_eq_true.2 ⟨k, hd, by simp⟩)
        -- the blocks of what is turned
        obtain ⟨mb, hmb⟩ : ∃ mb : Nat → List Nat, ∀ j k : Nat, ks[j]? = some k → ∀ (e : Nat) (ts : List Ty) (rows : List (List Dat)), lkp s.en k = some (.own e ts rows) → Fp w (.sl e ts) (.sl rows) (m.ε k) (mb j) ∧ (mb j).Nodup ∧ ∀ b ∈ mb j, Γ.base ≤ b ∧ m.π b = k := by
          have : ∀ j : Nat, ∃ bs : List Nat, ∀ k : Nat, ks[j]? = some k → ∀ (e : Nat) (ts : List Ty) (rows : List (List Dat)), lkp s.en k = some (.own e ts rows) → Fp w (.sl e ts) (.sl rows) (m.ε k) bs ∧ bs.Nodup ∧ ∀ b ∈ bs, Γ.base ≤ b ∧ m.π b = k := fun j => by
            cases hj : ks[j]? with
            | none => exact ⟨[], by simp⟩
            | some k =>
              cases hl : lkp s.en k with
              | none => exact ⟨[], fun k' hk' e ts rows hl' => by simp at hk'; subst hk'; rw [hl] at hl'; cases hl'⟩
              | some E =>
                cases E with
                | own e ts rows =>
                  obtain ⟨bs, b1, b2, b3⟩ := (h.en _ _ hl).1
                  exact ⟨bs, fun k' hk' e' ts' rows' hl' => by simp at hk'; subst hk'; rw [hl] at hl'; simp only [Option.some.injEq, En.own.injEq] at hl'; obtain ⟨rfl, rfl, rfl⟩ := hl'; exact ⟨b1, b2, b3⟩⟩
                | _ => exact ⟨[], fun k' hk' e ts rows hl' => by simp at hk'; subst hk'; rw [hl] at hl'; cases hl'⟩
          exact Classical.skolem.1 this
        have hmbk : ∀ j, j < c.mu.length → ∃ k, ks[j]? = some k ∧ al k ∧ ∀ b ∈ mb j, Γ.base ≤ b ∧ m.π b = k := fun j hj => by
          obtain ⟨k, e, ts, rows, k1, k2, k3⟩ := m2 j _ (List.getElem?_eq_getElem hj)
          exact ⟨k, k1, (h.en _ _ k3).2.1, (hmb j k k1 _ _ _ k3).2.2⟩
        have hargs : ArgsAt F w c.mu mb ((c.args i).flatMap DA.cells) (cells.map (C.den m)) := by
          refine ⟨by simp [d1.len], fun b hb => hb.2, fun p d u hd hu hp => ?_, fun j p hj => ?_, fun j1 j2 b hne h1 h2 hb1 hb2 => ?_, fun j b hj hb hF => ?_⟩
          · simp only [List.getElem?_map, Option.map_eq_some_iff] at hu
            obtain ⟨c0, hc0, rfl⟩ := hu
            obtain ⟨t, ht⟩ := d1.get hc0 hd
            have := argC_ok h ht
            have hsub : ∀ b, Γ.may m (cellDeps s c0) b ∧ b < w.heap.size → F b := fun b hb => ⟨may_mono (argDeps_mem (p0 := 0) hc0 (by simpa using hp)) hb.1, hb.2⟩
            cases d with
            | im v => exact this
            | sl e ts rows => exact RdS.mono hsub _ _ _ this
          · obtain ⟨k, e, ts, rows, k1, k2, k3⟩ := m2 j p hj
            have hb := hmb j k k1 _ _ _ k3
            refine ⟨e, ts, rows, m.ε k, ?_, by simp [k2, C.den], hb.1, hb.2.1⟩
            have hlen : p < ((c.args i).flatMap DA.cells).length := by rw [← d1.len]; exact (List.getElem?_eq_some_iff.1 k2).1
            obtain ⟨t, ht⟩ := d1.get k2 (List.getElem?_eq_getElem hlen)
            rw [List.getElem?_eq_getElem hlen]
            unfold argC at ht
            split at ht
            · rename_i heq; cases heq
            · rename_i heq; cases heq
            · rename_i k' heq
              simp only [C.ext.injEq] at heq
              subst heq
              simp only [slOf, k3, Option.bind_some, En.sl] at ht
              rw [← ht]
            · cases ht
          · obtain ⟨k, k1, -, k2⟩ := hmbk j1 h1
            obtain ⟨k', k1', -, k2'⟩ := hmbk j2 h2
            have e1 := (k2 b hb1).2
            have e2 := (k2' b hb2).2
            rw [e1] at e2
            subst e2
            exact hne (nodup_idx hnd k1 k1')
          · obtain ⟨k, k1, k0, k2⟩ := hmbk j hj
            have hkm : k ∈ ks := List.mem_of_getElem? k1
            obtain ⟨e1, e2⟩ := k2 b hb
            rcases hF.1 with h1 | h1 | h1
            · have := Γ.hG b h1; omega
            · rw [e2] at h1; exact h.pos (h1.2 ▸ k0)
            · rw [e2] at h1; exact hkdeps k hkm h1.2
        have hcalls := hok.calls i hpre F w _ mb hargs
        obtain ⟨fn, e1, e2, e3⟩ := hok.enter
        have hexec : (execOp a.eval o).run P w = .ok (.enter f (valD (c.args i) (cells.map (C.den m))).toArray) w := by
          have hf1 : a.eval fo = .func (.func f) #[] #[] := (h.ev hfo).1
          have hmap : as.map a.eval = (valD (c.args i) (cells.map (C.den m))).toArray := by
            apply Array.ext'
            rw [Array.toList_map, hts, d2]
          simp only [execOp, ho, resolve, hf1, Deferred.ofValue, Sem.run_bind, Sem.run_pure, Result.andThen_ok, invoke, callFunc, program, Sem.run, e1, hmap, Array.empty_append, Array.append_empty]
          simp [e2, e3]
        unfold Oper.wp
        rw [hexec]
        simp only [Oper.upon]
        refine hcalls.mono ?_
        rintro e w' ⟨rs, bs, rfl, hp⟩
        simp only
        have hsm := hok.small i
        let N := (c.res i).cells.length
        have hbase : ∀ b ∈ bs, Γ.base ≤ b := fun b hb => Nat.le_trans h.old (hp.fresh b hb)
        obtain ⟨r1, r2, g, r3, r4⟩ := rcs_ok (Γ := Γ) (deps := deps) (nx := nx) hp.res hp.nd hbase
        let π' : Nat → Nat := fun b => if b ∈ bs then g b else if b < w.heap.size then m.π b else 0
        let M : Maps := ⟨m.β, fun j => if nx ≤ j ∧ j < nx + N then rs.getD (j - nx) undef else m.ε j, π'⟩
        have hnb : ∀ b, b < w.heap.size → b ∉ bs := fun b hb hx => by have := hp.fresh b hx; omega
        have hπ : ∀ b, b < w.heap.size → π' b = m.π b := fun b hb => by simp only [π', if_neg (hnb b hb), if_pos hb]
        have hview : ∀ b, F b ∨ (w.heap.size ≤ b ∧ b ∉ bs) → Γ.may M deps b := by
          intro b hb
          rcases hb with ⟨hb, hlt⟩ | ⟨hb, hx⟩
          · have e : M.π b = m.π b := hπ b hlt
            rcases hb with h1 | h1 | h1
            · exact .inl h1
            · exact .inr (.inl ⟨h1.1, by rw [e]; exact h1.2⟩)
            · exact .inr (.inr ⟨h1.1, by rw [e]; exact h1.2⟩)
          · exact .inr (.inl ⟨Nat.le_trans h.old hb, by show π' b = 0; simp only [π', if_neg hx, if_neg (Nat.not_lt.2 hb)]⟩)
        obtain ⟨x1, x2⟩ := r4 M hview (fun q hq => by
          show (if nx ≤ nx + q ∧ nx + q < nx + N then rs.getD (nx + q - nx) undef else m.ε (nx + q)) = _
          rw [if_pos ⟨by omega, by omega⟩, Nat.add_sub_cancel_left]) (fun b hb => by show π' b = _; simp only [π', if_pos hb])
        have hsame : Maps.same al m M := fun j hj => ⟨rfl, if_neg (by have := hal j hj; omega)⟩
        have hus : ∀ k ∈ ks, k ∈ (callEff s nx deps ks (c.res i) (c.new i)).us := fun k hk => by
          simp only [Eff.us, callEff, List.map_append, muEn_ids]
          exact List.mem_append.2 (.inr hk)
        have hkeep : ∀ b, b < w.heap.size → (b < Γ.base ∨ m.π b ∉ ks) → w'.heap[b]? = w.heap[b]? := fun b hb h2 => hp.keep b hb fun j hj hbj => by
          obtain ⟨k, k1, -, k2⟩ := hmbk j hj
          have := k2 b hbj
          rcases h2 with h2 | h2
          · omega
          · exact h2 (this.2 ▸ List.mem_of_getElem? k1)
        refine ⟨callEff s nx deps ks (c.res i) (c.new i), M, hk, ⟨?_, hsame, ?_, fun b hb h2 => hkeep b hb (h2.imp id fun hx hy => hx (hus _ hy)), fun b hb _ => hπ b hb, fun j E hE => ?_, fun j hj => ?_⟩⟩
        · simp only [callEff, RT.t_den, x1]
        · exact ⟨hp.os, hp.tape, hp.output, hp.size, fun b hb => hkeep b (Nat.lt_of_lt_of_le hb h.old) (.inl hb)⟩
        · simp only [callEff, lkp_append] at hE
          cases hl : lkp (rcEn deps (c.res i).cells nx) j with
          | some E' =>
            rw [hl] at hE
            obtain rfl := Option.some.inj hE
            obtain ⟨e1, e2, e3⟩ := x2 j E' hl
            exact ⟨e2, .inr (hfr j e1.1 (by omega)), fun j' hj' => .inl (argDeps_al h (e3 j' hj'))⟩
          | none =>
            rw [hl, Option.none_or] at hE
            obtain ⟨j', k1, rfl⟩ := muEn_lkp hE
            have hj' : j' < c.mu.length := by rw [← m1]; exact (List.getElem?_eq_some_iff.1 k1).1
            obtain ⟨k, e, ts, rows, k1', k2, k3⟩ := m2 j' _ (List.getElem?_eq_getElem hj')
            rw [k1] at k1'
            obtain rfl := Option.some.inj k1'
            rw [k3]
            simp only [Nat.zero_add]
            obtain ⟨b1, b2, b3⟩ := hmb j' j k1 _ _ _ k3
            have hal' := (h.en _ _ k3).2.1
            refine ⟨⟨mb j', ?_, b2, fun b hb => ⟨(b3 b hb).1, ?_⟩⟩, .inl hal', by simp [En.ids]⟩
            · obtain ⟨e', ts', rows', u, q1, q2, -, -⟩ := hargs.own j' _ (List.getElem?_eq_getElem hj')
              have hu : u = m.ε j := by
                simp only [List.getElem?_map, k2, Option.map_some, Option.some.injEq, C.den] at q2
                exact q2.symm
              have := hp.turned j' _ e' ts' rows' u (List.getElem?_eq_getElem hj') q1 q2
              rw [hu] at this
              rw [(hsame j hal').2]
              have hd : e' = e ∧ ts' = ts := by
                obtain ⟨t, ht⟩ := d1.get k2 q1
                unfold argC at ht
                split at ht
                · rename_i heq; cases heq
                · rename_i heq; cases heq
                · rename_i k' heq
                  simp only [C.ext.injEq] at heq
                  subst heq
                  simp only [slOf, k3, Option.bind_some, En.sl, Option.some.injEq, DC.sl.injEq] at ht
                  exact ⟨ht.1.symm, ht.2.1.symm⟩
                · cases ht
              rw [← hd.1, ← hd.2]; exact this
            · show π' b = j
              rw [hπ b (Fp.lt _ _ _ _ b1 b hb)]; exact (b3 b hb).2
        · obtain ⟨c', hc', hj⟩ := RT.t_ids hj
          have := r2 c' hc' j hj
          exact .inr (hfr j this.1 (by omega))
      · exact hk.elim
    · exact hk.elim
  · exact hk.elim
end
end Go.Proofs.Ytemgpfojmdncjaa
