/-
  A reckoner over a function's text, by values alone: what it knows of a state of the machine, and what stays known when some of the memory turns. Over any program.
-/
import Derived.Test.YtemgpfojmdncjaaGrow
import Derived.Orders
namespace Go.Proofs.Ytemgpfojmdncjaa
set_option linter.unusedVariables false
set_option linter.unusedSimpArgs false
open Go.RowKit

/-- The first row of a table with this number. -/
def lkp {α : Type _} : List (Nat × α) → Nat → Option α
  | [], _ => none
  | (i, x) :: r, n => if Nat.beq i n = true then some x else lkp r n

theorem lkp_cons {α : Type _} (i : Nat) (x : α) (r : List (Nat × α)) (n : Nat) : lkp ((i, x) :: r) n = if i = n then some x else lkp r n := by
  simp only [lkp, Nat.beq_eq]
theorem lkp_append {α : Type _} (a b : List (Nat × α)) (n : Nat) : lkp (a ++ b) n = (lkp a n).or (lkp b n) := by
  induction a with
  | nil => simp [lkp]
  | cons x r ih => obtain ⟨i, y⟩ := x; simp only [List.cons_append, lkp_cons]; split <;> simp [ih]
theorem lkp_mem {α : Type _} {a : List (Nat × α)} {n : Nat} {x : α} (h : lkp a n = some x) : (n, x) ∈ a := by
  induction a with
  | nil => simp [lkp] at h
  | cons y r ih =>
    obtain ⟨i, z⟩ := y
    rw [lkp_cons] at h
    split at h
    · rename_i e; subst e; simp at h; simp [h]
    · exact List.mem_cons_of_mem _ (ih h)

/-- A one-cell value: an immediate one; a variable's address; a cell of a slice; a slice; a function that looks at variables. -/
inductive C where
  | im (v : Value)
  | bp (i off : Nat)
  | ep (k sz i j : Nat)
  | ext (k : Nat)
  | clo (f : Nat) (caps : List Nat)
inductive A where
  | one (c : C)
  | agg (cs : List C)
inductive T where
  | one (a : A)
  | tup (as : List A)

/-- Where the numbered things lie: a variable's block, a slice's value; and whose a block is (0: nobody's, it stays). -/
structure Maps where
  β : Nat → Nat
  ε : Nat → Value
  π : Nat → Nat

def elemAddr (v : Value) (o : Nat) : Value :=
  match v with
  | .slice (some a) _ _ => .pointer (some (a.add o))
  | _ => undef
def C.den (m : Maps) : C → Value
  | .im v => v
  | .bp i o => .pointer (some ⟨m.β i, o, none⟩)
  | .ep k sz i j => elemAddr (m.ε k) (i * sz + j)
  | .ext k => m.ε k
  | .clo f caps => .func (.func f) #[] (caps.map fun i => .pointer (some ⟨m.β i, 0, none⟩)).toArray
def A.den (m : Maps) : A → Value
  | .one c => c.den m
  | .agg cs => .agg (cs.map (C.den m)).toArray
def T.den (m : Maps) : T → Value
  | .one a => a.den m
  | .tup as => .tuple (as.map (A.den m)).toArray

def C.ids : C → List Nat
  | .im _ => []
  | .bp i _ => [i]
  | .ep k _ _ _ => [k]
  | .ext k => [k]
  | .clo _ caps => caps
def A.ids : A → List Nat
  | .one c => c.ids
  | .agg cs => cs.flatMap C.ids
def T.ids : T → List Nat
  | .one a => a.ids
  | .tup as => as.flatMap A.ids

/-- The same places for the numbers of S. -/
def Maps.same (S : Nat → Prop) (m m' : Maps) : Prop := ∀ i, S i → m'.β i = m.β i ∧ m'.ε i = m.ε i
theorem C.den_same {S : Nat → Prop} {m m' : Maps} (h : Maps.same S m m') {c : C} (hc : ∀ i ∈ c.ids, S i) : c.den m' = c.den m := by
  cases c with
  | im v => rfl
  | bp i o => simp only [C.den]; rw [(h i (hc i (by simp [C.ids]))).1]
  | ep k sz i j => simp only [C.den]; rw [(h k (hc k (by simp [C.ids]))).2]
  | ext k => exact (h k (hc k (by simp [C.ids]))).2
  | clo f caps =>
    simp only [C.den]
    congr 2
    refine List.map_congr_left fun i hi => ?_
    rw [(h i (hc i (by simpa [C.ids] using hi))).1]
theorem A.den_same {S : Nat → Prop} {m m' : Maps} (h : Maps.same S m m') {a : A} (ha : ∀ i ∈ a.ids, S i) : a.den m' = a.den m := by
  cases a with
  | one c => exact C.den_same h ha
  | agg cs =>
    simp only [A.den]
    congr 2
    exact List.map_congr_left fun c hc => C.den_same h fun i hi => ha i (List.mem_flatMap.2 ⟨c, hc, hi⟩)
theorem T.den_same {S : Nat → Prop} {m m' : Maps} (h : Maps.same S m m') {t : T} (ht : ∀ i ∈ t.ids, S i) : t.den m' = t.den m := by
  cases t with
  | one a => exact A.den_same h ht
  | tup as =>
    simp only [T.den]
    congr 2
    exact List.map_congr_left fun a ha => A.den_same h fun i hi => ht i (List.mem_flatMap.2 ⟨a, ha, hi⟩)

/-- What is known of a numbered thing: a variable's cells; a slice of the call's own, to the bottom; a slice whose own row is the call's own, what its cells lead to is read (it may hang on the things named); a slice that is read; nothing any more. -/
inductive En where
  | box (cs : List C)
  | own (e : Nat) (ts : List Ty) (rows : List (List Dat))
  | top (e : Nat) (ts : List Ty) (rows : List (List Dat)) (deps : List Nat)
  | view (e : Nat) (ts : List Ty) (rows : List (List Dat)) (deps : List Nat)
  | dead

theorem cell_same {w w' : World} {a : Addr} (h : w'.heap[a.block]? = w.heap[a.block]?) : w'.cell? a = w.cell? a := by
  unfold World.cell?; rw [h]
theorem SlAt.same {w w' : World} {sz : Nat} {v : Value} {xs : List (List Value)} (hs : w.heap.size ≤ w'.heap.size) (hb : ∀ b, b < w.heap.size → w'.heap[b]? = w.heap[b]?) (h : SlAt sz w v xs) : SlAt sz w' v xs := by
  obtain ⟨a, cap, h1, h2, h3, h4, h5⟩ := h
  refine ⟨a, cap, h1, h2, h3, h4, ?_⟩
  rcases h5 with h5 | ⟨b, off, h5, h6, h7⟩
  · exact .inl h5
  · refine .inr ⟨b, off, h5, Nat.lt_of_lt_of_le h6 hs, fun j hj i hi => ?_⟩
    rw [cell_same (hb b h6)]; exact h7 j hj i hi
mutual
theorem Rd.same {w w' : World} (hs : w.heap.size ≤ w'.heap.size) (hb : ∀ b, b < w.heap.size → w'.heap[b]? = w.heap[b]?) : ∀ (t : Ty) (d : Dat) (v : Value), Rd w t d v → Rd w' t d v
  | .int, d, v => fun h => by cases d <;> simp only [Rd] at h ⊢ <;> exact h
  | .bool, d, v => fun h => by cases d <;> simp only [Rd] at h ⊢ <;> exact h
  | .str, d, v => fun h => by cases d <;> simp only [Rd] at h ⊢ <;> exact h
  | .sl e ts, d, v => fun h => by
    cases d with
    | sl ls =>
      simp only [Rd] at h ⊢
      obtain ⟨rows, h1, h2, h3⟩ := h
      exact ⟨rows, h1.same hs hb, h2, fun k hk => RdRow.same hs hb ts _ _ (h3 k hk)⟩
    | _ => simp [Rd] at h
theorem RdRow.same {w w' : World} (hs : w.heap.size ≤ w'.heap.size) (hb : ∀ b, b < w.heap.size → w'.heap[b]? = w.heap[b]?) : ∀ (ts : List Ty) (ds : List Dat) (vs : List Value), RdRow w ts ds vs → RdRow w' ts ds vs
  | [], ds, vs => fun h => by cases ds <;> cases vs <;> simp [RdRow] at h ⊢
  | t :: ts, [], vs => fun h => by simp [RdRow] at h
  | t :: ts, d :: ds, [] => fun h => by simp [RdRow] at h
  | t :: ts, d :: ds, v :: vs => fun h => by
    simp only [RdRow] at h ⊢
    exact ⟨Rd.same hs hb t d v h.1, RdRow.same hs hb ts ds vs h.2⟩
end
theorem owns_same {w w' : World} {base : Nat} {e : TypeId} {size : Nat} {v : Value} {n : Nat} {xs : List Value} (h : w.ownsRow base e size v n xs) (hb : ∀ b, v.ownBlock = some b → w'.heap[b]? = w.heap[b]?) : w'.ownsRow base e size v n xs := by
  obtain ⟨h1, h2⟩ := h
  refine ⟨h1, ?_⟩
  rcases h2 with h2 | ⟨g, cap, cur, hv, hg, hh, r⟩
  · exact .inl h2
  · exact .inr ⟨g, cap, cur, hv, hg, by rw [hb g (by rw [hv]; rfl)]; exact hh, r⟩
mutual
theorem Fp.same {w w' : World} : ∀ (t : Ty) (d : Dat) (v : Value) (bs : List Nat), Fp w t d v bs → (∀ b ∈ bs, w'.heap[b]? = w.heap[b]?) → Fp w' t d v bs
  | .int, d, v, bs => fun h _ => by cases d <;> simp only [Fp] at h ⊢ <;> exact h
  | .bool, d, v, bs => fun h _ => by cases d <;> simp only [Fp] at h ⊢ <;> exact h
  | .str, d, v, bs => fun h _ => by cases d <;> simp only [Fp] at h ⊢ <;> exact h
  | .sl e ts, d, v, bs => fun h hS => by
    cases d with
    | sl ls =>
      simp only [Fp] at h ⊢
      obtain ⟨rows, bss, h1, h2, h3, h4, h5, rfl⟩ := h
      exact ⟨rows, bss, owns_same h1 (fun k hk => hS k (by simp [hk])), h2, h3, h4, fun k hk => FpRow.same ts _ _ _ (h5 k hk) (fun b hb => hS b (List.mem_append.2 (.inr (getD_mem_flatten hb)))), rfl⟩
    | _ => simp [Fp] at h
theorem FpRow.same {w w' : World} : ∀ (ts : List Ty) (ds : List Dat) (vs : List Value) (bs : List Nat), FpRow w ts ds vs bs → (∀ b ∈ bs, w'.heap[b]? = w.heap[b]?) → FpRow w' ts ds vs bs
  | [], ds, vs, bs => fun h _ => by cases ds <;> cases vs <;> simp [FpRow] at h ⊢; exact h
  | t :: ts, [], vs, bs => fun h _ => by simp [FpRow] at h
  | t :: ts, d :: ds, [], bs => fun h _ => by simp [FpRow] at h
  | t :: ts, d :: ds, v :: vs, bs => fun h hS => by
    simp only [FpRow] at h ⊢
    obtain ⟨b1, b2, rfl, h1, h2⟩ := h
    exact ⟨b1, b2, rfl, Fp.same t d v b1 h1 (fun b hb => hS b (List.mem_append.2 (.inl hb))), FpRow.same ts ds vs b2 h2 (fun b hb => hS b (List.mem_append.2 (.inr hb)))⟩
end

mutual
/-- The value reads as the datum, and all that it takes lies in blocks of F. -/
def RdS (F : Nat → Prop) (w : World) : Ty → Dat → Value → Prop
  | .int, .int n, v => v = .int .i64 n
  | .bool, .bool b, v => v = .bool b
  | .str, .str s, v => v = .string s
  | .sl _ ts, .sl ls, v => ∃ rows : List (List Value), SlAt ts.length w v rows ∧ (rows ≠ [] → ∀ b, v.ownBlock = some b → F b) ∧ rows.length = ls.length ∧ ∀ k, k < ls.length → RdRowS F w ts (ls.getD k []) (rows.getD k [])
  | _, _, _ => False
def RdRowS (F : Nat → Prop) (w : World) : List Ty → List Dat → List Value → Prop
  | [], [], [] => True
  | t :: ts, d :: ds, v :: vs => RdS F w t d v ∧ RdRowS F w ts ds vs
  | _, _, _ => False
end
theorem SlAt.sameS {w w' : World} {sz : Nat} {v : Value} {xs : List (List Value)} (hs : w.heap.size ≤ w'.heap.size) (hb : xs ≠ [] → ∀ b, b < w.heap.size → v.ownBlock = some b → w'.heap[b]? = w.heap[b]?) (h : SlAt sz w v xs) : SlAt sz w' v xs := by
  obtain ⟨a, cap, h1, h2, h3, h4, h5⟩ := h
  refine ⟨a, cap, h1, h2, h3, h4, ?_⟩
  rcases h5 with h5 | ⟨b, off, h5, h6, h7⟩
  · exact .inl h5
  · refine .inr ⟨b, off, h5, Nat.lt_of_lt_of_le h6 hs, fun j hj i hi => ?_⟩
    rw [cell_same (hb (fun e => by subst e; simp at hj) b h6 (by rw [h1, h5]; rfl))]; exact h7 j hj i hi
mutual
theorem RdS.step {F : Nat → Prop} {w w' : World} (hs : w.heap.size ≤ w'.heap.size) (hF : ∀ b, b < w.heap.size → F b → w'.heap[b]? = w.heap[b]?) : ∀ (t : Ty) (d : Dat) (v : Value), RdS F w t d v → RdS (fun b => F b ∧ b < w.heap.size) w' t d v
  | .int, d, v => fun h => by cases d <;> simp only [RdS] at h ⊢ <;> exact h
  | .bool, d, v => fun h => by cases d <;> simp only [RdS] at h ⊢ <;> exact h
  | .str, d, v => fun h => by cases d <;> simp only [RdS] at h ⊢ <;> exact h
  | .sl e ts, d, v => fun h => by
    cases d with
    | sl ls =>
      simp only [RdS] at h ⊢
      obtain ⟨rows, h1, h2, h3, h4⟩ := h
      refine ⟨rows, h1.sameS hs (fun hne b hb hv => hF b hb (h2 hne b hv)), fun hne b hv => ⟨h2 hne b hv, ?_⟩, h3, fun k hk => RdRowS.step hs hF ts _ _ (h4 k hk)⟩
      obtain ⟨a, cap, e1, _, _, _, h5⟩ := h1
      rcases h5 with h5 | ⟨b', off, h5, h6, _⟩
      · exact absurd h5.1 hne
      · rw [e1, h5] at hv; simp [Value.ownBlock] at hv; omega
    | _ => simp [RdS] at h
theorem RdRowS.step {F : Nat → Prop} {w w' : World} (hs : w.heap.size ≤ w'.heap.size) (hF : ∀ b, b < w.heap.size → F b → w'.heap[b]? = w.heap[b]?) : ∀ (ts : List Ty) (ds : List Dat) (vs : List Value), RdRowS F w ts ds vs → RdRowS (fun b => F b ∧ b < w.heap.size) w' ts ds vs
  | [], ds, vs => fun h => by cases ds <;> cases vs <;> simp [RdRowS] at h ⊢
  | t :: ts, [], vs => fun h => by simp [RdRowS] at h
  | t :: ts, d :: ds, [] => fun h => by simp [RdRowS] at h
  | t :: ts, d :: ds, v :: vs => fun h => by
    simp only [RdRowS] at h ⊢
    exact ⟨RdS.step hs hF t d v h.1, RdRowS.step hs hF ts ds vs h.2⟩
end
mutual
theorem RdS.rd {F : Nat → Prop} {w : World} : ∀ (t : Ty) (d : Dat) (v : Value), RdS F w t d v → Rd w t d v
  | .int, d, v => fun h => by cases d <;> simp only [RdS, Rd] at h ⊢ <;> exact h
  | .bool, d, v => fun h => by cases d <;> simp only [RdS, Rd] at h ⊢ <;> exact h
  | .str, d, v => fun h => by cases d <;> simp only [RdS, Rd] at h ⊢ <;> exact h
  | .sl e ts, d, v => fun h => by
    cases d with
    | sl ls =>
      simp only [RdS, Rd] at h ⊢
      obtain ⟨rows, h1, h2, h3, h4⟩ := h
      exact ⟨rows, h1, h3, fun k hk => RdRowS.rd ts _ _ (h4 k hk)⟩
    | _ => simp [RdS] at h
theorem RdRowS.rd {F : Nat → Prop} {w : World} : ∀ (ts : List Ty) (ds : List Dat) (vs : List Value), RdRowS F w ts ds vs → RdRow w ts ds vs
  | [], ds, vs => fun h => by cases ds <;> cases vs <;> simp [RdRowS, RdRow] at h ⊢
  | t :: ts, [], vs => fun h => by simp [RdRowS] at h
  | t :: ts, d :: ds, [] => fun h => by simp [RdRowS] at h
  | t :: ts, d :: ds, v :: vs => fun h => by
    simp only [RdRowS, RdRow] at h ⊢
    exact ⟨RdS.rd t d v h.1, RdRowS.rd ts ds vs h.2⟩
end
mutual
theorem RdS.mono {F G : Nat → Prop} {w : World} (hFG : ∀ b, F b → G b) : ∀ (t : Ty) (d : Dat) (v : Value), RdS F w t d v → RdS G w t d v
  | .int, d, v => fun h => by cases d <;> simp only [RdS] at h ⊢ <;> exact h
  | .bool, d, v => fun h => by cases d <;> simp only [RdS] at h ⊢ <;> exact h
  | .str, d, v => fun h => by cases d <;> simp only [RdS] at h ⊢ <;> exact h
  | .sl e ts, d, v => fun h => by
    cases d with
    | sl ls =>
      simp only [RdS] at h ⊢
      obtain ⟨rows, h1, h2, h3, h4⟩ := h
      exact ⟨rows, h1, fun hne b hv => hFG b (h2 hne b hv), h3, fun k hk => RdRowS.mono hFG ts _ _ (h4 k hk)⟩
    | _ => simp [RdS] at h
theorem RdRowS.mono {F G : Nat → Prop} {w : World} (hFG : ∀ b, F b → G b) : ∀ (ts : List Ty) (ds : List Dat) (vs : List Value), RdRowS F w ts ds vs → RdRowS G w ts ds vs
  | [], ds, vs => fun h => by cases ds <;> cases vs <;> simp [RdRowS] at h ⊢
  | t :: ts, [], vs => fun h => by simp [RdRowS] at h
  | t :: ts, d :: ds, [] => fun h => by simp [RdRowS] at h
  | t :: ts, d :: ds, v :: vs => fun h => by
    simp only [RdRowS] at h ⊢
    exact ⟨RdS.mono hFG t d v h.1, RdRowS.mono hFG ts ds vs h.2⟩
end
mutual
theorem RdS.of_rd {w : World} : ∀ (t : Ty) (d : Dat) (v : Value), Rd w t d v → RdS (fun b => b < w.heap.size) w t d v
  | .int, d, v => fun h => by cases d <;> simp only [RdS, Rd] at h ⊢ <;> exact h
  | .bool, d, v => fun h => by cases d <;> simp only [RdS, Rd] at h ⊢ <;> exact h
  | .str, d, v => fun h => by cases d <;> simp only [RdS, Rd] at h ⊢ <;> exact h
  | .sl e ts, d, v => fun h => by
    cases d with
    | sl ls =>
      simp only [RdS, Rd] at h ⊢
      obtain ⟨rows, h1, h3, h4⟩ := h
      refine ⟨rows, h1, fun hne b hv => ?_, h3, fun k hk => RdRowS.of_rd ts _ _ (h4 k hk)⟩
      obtain ⟨a, cap, e1, _, _, _, h5⟩ := h1
      rcases h5 with h5 | ⟨b', off, h5, h6, _⟩
      · exact absurd h5.1 hne
      · rw [e1, h5] at hv; simp [Value.ownBlock] at hv; omega
    | _ => simp [Rd] at h
theorem RdRowS.of_rd {w : World} : ∀ (ts : List Ty) (ds : List Dat) (vs : List Value), RdRow w ts ds vs → RdRowS (fun b => b < w.heap.size) w ts ds vs
  | [], ds, vs => fun h => by cases ds <;> cases vs <;> simp [RdRowS, RdRow] at h ⊢
  | t :: ts, [], vs => fun h => by simp [RdRow] at h
  | t :: ts, d :: ds, [] => fun h => by simp [RdRow] at h
  | t :: ts, d :: ds, v :: vs => fun h => by
    simp only [RdRowS, RdRow] at h ⊢
    exact ⟨RdS.of_rd t d v h.1, RdRowS.of_rd ts ds vs h.2⟩
end
mutual
theorem RdS.of_fp {w : World} : ∀ (t : Ty) (d : Dat) (v : Value) (bs : List Nat), Fp w t d v bs → RdS (fun b => b ∈ bs) w t d v
  | .int, d, v, bs => fun h => by cases d <;> simp only [Fp, RdS] at h ⊢ <;> exact h.1
  | .bool, d, v, bs => fun h => by cases d <;> simp only [Fp, RdS] at h ⊢ <;> exact h.1
  | .str, d, v, bs => fun h => by cases d <;> simp only [Fp, RdS] at h ⊢ <;> exact h.1
  | .sl e ts, d, v, bs => fun h => by
    cases d with
    | sl ls =>
      simp only [Fp, RdS] at h ⊢
      obtain ⟨rows, bss, h1, h2, h3, h4, h5, rfl⟩ := h
      exact ⟨rows, owns_SlAt h1 h4, fun _ b hv => List.mem_append.2 (.inl (by rw [hv]; simp)), h2, fun k hk => RdRowS.mono (fun b hb => List.mem_append.2 (.inr (getD_mem_flatten hb))) ts _ _ (RdRowS.of_fp ts _ _ _ (h5 k hk))⟩
    | _ => simp [Fp] at h
theorem RdRowS.of_fp {w : World} : ∀ (ts : List Ty) (ds : List Dat) (vs : List Value) (bs : List Nat), FpRow w ts ds vs bs → RdRowS (fun b => b ∈ bs) w ts ds vs
  | [], ds, vs, bs => fun h => by cases ds <;> cases vs <;> simp [FpRow, RdRowS] at h ⊢
  | t :: ts, [], vs, bs => fun h => by simp [FpRow] at h
  | t :: ts, d :: ds, [], bs => fun h => by simp [FpRow] at h
  | t :: ts, d :: ds, v :: vs, bs => fun h => by
    simp only [FpRow, RdRowS] at h ⊢
    obtain ⟨b1, b2, rfl, h1, h2⟩ := h
    exact ⟨RdS.mono (fun b hb => List.mem_append.2 (.inl hb)) _ _ _ (RdS.of_fp t d v b1 h1), RdRowS.mono (fun b hb => List.mem_append.2 (.inr hb)) _ _ _ (RdRowS.of_fp ts ds vs b2 h2)⟩
end

/-- Where a call's own memory begins, and which old blocks its arguments lead to. -/
structure Env where
  base : Nat
  G : Nat → Prop
  hG : ∀ b, G b → b < base

/-- The blocks that a thing may hang on: those that the arguments lead to, new ones that are nobody's, or those of the things named. -/
def Env.may (Γ : Env) (m : Maps) (deps : List Nat) (b : Nat) : Prop := Γ.G b ∨ (Γ.base ≤ b ∧ m.π b = 0) ∨ (Γ.base ≤ b ∧ m.π b ∈ deps)

def EnAt (Γ : Env) (m : Maps) (w : World) (i : Nat) : En → Prop
  | .box cs => Γ.base ≤ m.β i ∧ m.π (m.β i) = i ∧ ∃ e, w.heap[m.β i]? = some (.cells (cs.map (C.den m)).toArray e (0, 0))
  | .own e ts rows => ∃ bs, Fp w (.sl e ts) (.sl rows) (m.ε i) bs ∧ bs.Nodup ∧ ∀ b ∈ bs, Γ.base ≤ b ∧ m.π b = i
  | .top e ts rows deps => ∃ rv : List (List Value), w.ownsRow 0 e ts.length (m.ε i) rv.length rv.flatten ∧ rv.length = rows.length ∧ (∀ r ∈ rv, r.length = ts.length) ∧
      (∀ k, k < rows.length → ∃ F, RdRowS F w ts (rows.getD k []) (rv.getD k []) ∧ ∀ b, F b → Γ.may m deps b) ∧ ∀ b, (m.ε i).ownBlock = some b → Γ.base ≤ b ∧ m.π b = i
  | .view e ts rows deps => ∃ F, RdS F w (.sl e ts) (.sl rows) (m.ε i) ∧ ∀ b, F b → Γ.may m deps b
  | .dead => True

def En.ids : En → List Nat
  | .box cs => cs.flatMap C.ids
  | .top _ _ _ deps => deps
  | .view _ _ _ deps => deps
  | _ => []
/-- Does it hang on one of these? -/
def En.hangs (us : List Nat) : En → Bool
  | .top _ _ _ deps => deps.any us.elem
  | .view _ _ _ deps => deps.any us.elem
  | _ => false

/-- Nothing that it stands on has turned: it still holds. -/
theorem EnAt.keep {Γ : Env} {m m' : Maps} {w w' : World} {i : Nat} {E : En} {S : Nat → Prop} {us : List Nat} (h : EnAt Γ m w i E) (hi : S i) (hE : ∀ j ∈ E.ids, S j) (hm : Maps.same S m m')
    (h0 : 0 ∉ us) (hu : i ∉ us) (hh : E.hangs us = false) (hs : w.heap.size ≤ w'.heap.size) (hw : ∀ b, b < w.heap.size → (b < Γ.base ∨ m.π b ∉ us) → w'.heap[b]? = w.heap[b]?) (hπ : ∀ b, b < w.heap.size → m.π b ∉ us → m'.π b = m.π b) : EnAt Γ m' w' i E := by
  have hmay : ∀ deps : List Nat, deps.any us.elem = false → ∀ b, b < w.heap.size → Γ.may m deps b → (b < Γ.base ∨ m.π b ∉ us) ∧ Γ.may m' deps b := by
    intro deps hd b hb hm
    rcases hm with hm | ⟨hb0, hm⟩ | ⟨hb0, hm⟩
    · exact ⟨.inl (Γ.hG b hm), .inl hm⟩
    · have : m.π b ∉ us := by rw [hm]; exact h0
      exact ⟨.inr this, .inr (.inl ⟨hb0, by rw [hπ b hb this]; exact hm⟩)⟩
    · have : m.π b ∉ us := fun hx => by
        have := List.any_eq_false.1 hd (m.π b) hm
        simp [hx] at this
      exact ⟨.inr this, .inr (.inr ⟨hb0, by rw [hπ b hb this]; exact hm⟩)⟩
  cases E with
  | dead => trivial
  | box cs =>
    obtain ⟨h1, h2, e, h3⟩ := h
    have hlt := (Array.getElem?_eq_some_iff.1 h3).1
    have hne : m.π (m.β i) ∉ us := by rw [h2]; exact hu
    refine ⟨by rw [(hm i hi).1]; exact h1, by rw [(hm i hi).1, hπ _ hlt hne]; exact h2, e, ?_⟩
    rw [(hm i hi).1, hw _ hlt (.inr hne), h3]
    have : cs.map (C.den m') = cs.map (C.den m) := List.map_congr_left fun c hc => C.den_same hm fun j hj => hE j (List.mem_flatMap.2 ⟨c, hc, hj⟩)
    rw [this]
  | own e ts rows =>
    obtain ⟨bs, h1, h2, h3⟩ := h
    rw [← (hm i hi).2] at h1
    have hlt := Fp.lt _ _ _ _ h1
    refine ⟨bs, Fp.same _ _ _ _ h1 fun b hb => hw b (hlt b hb) (.inr (by rw [(h3 b hb).2]; exact hu)), h2, fun b hb => ⟨(h3 b hb).1, ?_⟩⟩
    rw [hπ b (hlt b hb) (by rw [(h3 b hb).2]; exact hu)]; exact (h3 b hb).2
  | top e ts rows deps =>
    obtain ⟨rv, h1, h2, h3, h4, h5⟩ := h
    rw [← (hm i hi).2] at h1 h5
    have hlt : ∀ b, (m'.ε i).ownBlock = some b → b < w.heap.size := fun b hb => (World.ownsRow.lt h1 b hb).2
    have hne : ∀ b, (m'.ε i).ownBlock = some b → m.π b ∉ us := fun b hb => by rw [(h5 b hb).2]; exact hu
    refine ⟨rv, owns_same h1 fun b hb => hw b (hlt b hb) (.inr (hne b hb)), h2, h3, fun k hk => ?_, fun b hb => ⟨(h5 b hb).1, by rw [hπ b (hlt b hb) (hne b hb)]; exact (h5 b hb).2⟩⟩
    obtain ⟨F, f1, f2⟩ := h4 k hk
    exact ⟨_, RdRowS.step hs (fun b hlt hb => hw b hlt (hmay deps hh b hlt (f2 b hb)).1) _ _ _ f1, fun b hb => (hmay deps hh b hb.2 (f2 b hb.1)).2⟩
  | view e ts rows deps =>
    obtain ⟨F, f1, f2⟩ := h
    rw [← (hm i hi).2] at f1
    exact ⟨_, RdS.step hs (fun b hlt hb => hw b hlt (hmay deps hh b hlt (f2 b hb)).1) _ _ _ f1, fun b hb => (hmay deps hh b hb.2 (f2 b hb.1)).2⟩
end Go.Proofs.Ytemgpfojmdncjaa
