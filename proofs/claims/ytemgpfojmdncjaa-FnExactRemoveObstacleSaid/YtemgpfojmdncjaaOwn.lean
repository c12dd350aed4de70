/-
  Slices that a call made itself: a row of elements, its growth by append, how it stays and how it reads. Over any program.
-/
import Derived.Test.YtemgpfojmdncjaaLib
import Derived.OwnWalk
import Derived.Deep.LoopGhost
namespace Go.Proofs.Ytemgpfojmdncjaa
set_option linter.unusedVariables false
set_option linter.unusedSimpArgs false
open Go.RowKit

/-- What is known of an element type: its slice's type, its zero value, its cells and bytes. -/
structure ElemT (P : Program) (t e size bytes : Nat) : Prop where
  slice : P.underlying t = some (.slice e)
  info : ∃ i z, P.info? e = some i ∧ i.zero = some z ∧ i.size = size ∧ i.bytes = bytes ∧ z.cells.size = size
  pos : 0 < size

theorem ElemT.mk' {P : Program} {t e size bytes : Nat} (z : Value) (h1 : P.underlying t = some (.slice e)) (h2 : (P.info? e).map (fun i => (i.zero, i.size, i.bytes)) = some (some z, size, bytes)) (h3 : z.cells.size = size) (h4 : 0 < size) : ElemT P t e size bytes := by
  refine ⟨h1, ?_, h4⟩
  cases h : P.info? e with
  | none => rw [h] at h2; simp at h2
  | some i =>
    rw [h] at h2
    simp at h2
    exact ⟨i, z, rfl, h2.1, h2.2.1, h2.2.2, h3⟩

theorem ownsRow_below {w w' : World} {base : Nat} {e : TypeId} {size : Nat} {v : Value} {n : Nat} {xs : List Value} (h : w.ownsRow base e size v n xs) (hb : Below w.heap.size w w') : w'.ownsRow base e size v n xs := by
  obtain ⟨h1, h2⟩ := h
  refine ⟨h1, ?_⟩
  rcases h2 with h2 | ⟨g, cap, cur, hv, hg, hh, r⟩
  · exact .inl h2
  · refine .inr ⟨g, cap, cur, hv, hg, ?_, r⟩
    rw [hb.block g (Array.getElem?_eq_some_iff.1 hh).1]; exact hh

theorem below_own {B : Nat} {a w w' : World} {base : Nat} {e : TypeId} {size : Nat} {v : Value} {n : Nat} {xs : List Value} (h : Below B a w) (ho : w.ownsRow base e size v n xs) (hg : w.grownBy w' v.ownBlock) (hB : B ≤ w.heap.size) (hbase : B ≤ base) : Below B a w' :=
  h.grown hg hB fun k hk => Nat.le_trans hbase (ho.lt k hk).1

/-- An element appended. -/
theorem wp_app1 {P : Program} {t e size bytes : Nat} (E : ElemT P t e size bytes) {w : World} {ops : Array Oper} {rest : List Oper} {o : Oper} {a : Act} {Q : Exit → Act → World → Prop} (hgd : o.guard = none) (s x : Operand)
    (ho : o.op = .call { callee := .builtin .append, args := #[s, x], argTypes := #[t, t] })
    (base : Nat) (v : Value) (n : Nat) (xs : List Value) (hs : a.eval s = v) (hown : w.ownsRow base e size v n xs)
    (b : Nat) (news : List Value) (hx : a.eval x = .slice (some ⟨b, 0, none⟩) 1 1) (hl : news.length = size) (hnews : ∀ j, j < size → w.cell? ⟨b, j, none⟩ = news[j]?) (h1 : ∀ u ∈ news, u.oneCell' = true)
    (hlen : n + 1 ≤ 1073741824) (hbytes : bytes ≤ 1024) (hbase : base ≤ w.heap.size)
    (h : ∀ v' w', w'.ownsRow base e size v' (n + 1) (xs ++ news) → w.grownBy w' v.ownBlock → wpList P ops Q rest (a.put o.dst v') w') : wpList P ops Q (o :: rest) a w := by
  obtain ⟨i, z, hi, hz, h2, h3, h4⟩ := E.info
  refine wpList_append_own w hgd s x t ho base e i z size bytes E.slice hi hz h2 h3 h4 E.pos v n xs hs hown ⟨b, 0, none⟩ 1 1 news hx (by omega) (fun j u hj => ?_) h1 ?_ ?_ hbase (fun v' w' p1 p2 _ => h v' w' p1 p2)
  · have hj' : j < size := by rw [← hl]; exact (List.getElem?_eq_some_iff.1 hj).1
    have := hnews j hj'
    rw [← hj, ← this]
    unfold Addr.add
    split
    · subst_vars; rfl
    · simp
  · unfold maxLen; omega
  · have : (n + 1) * bytes ≤ 1073741824 * 1024 := Nat.mul_le_mul hlen hbytes
    omega

/-- The row that an empty literal makes. -/
theorem owns_empty (w : World) (base : Nat) (e : TypeId) (size : Nat) (hb : base ≤ w.heap.size) : (w.alloc (.cells #[] e)).ownsRow base e size (.slice (some ⟨w.heap.size, 0, none⟩) 0 0) 0 [] :=
  ⟨by simp, .inr ⟨w.heap.size, 0, #[], rfl, hb, heap_alloc_new w _, Nat.le_refl _, by decide, by simp, by simp⟩⟩

theorem flatten_get (rows : List (List Value)) (size : Nat) (hr : ∀ x ∈ rows, x.length = size) (j : Nat) (hj : j / size < rows.length) (hi : j % size < size) : rows.flatten[j]? = some ((rows.getD (j / size) []).getD (j % size) undef) := by
  have key : ∀ (rows : List (List Value)), (∀ x ∈ rows, x.length = size) → ∀ q i, q < rows.length → i < size → rows.flatten[q * size + i]? = some ((rows.getD q []).getD i undef) := by
    intro rows
    induction rows with
    | nil => intro _ q i hq; simp at hq
    | cons x r ih =>
      intro hr q i hq hi
      have hx := hr x (by simp)
      cases q with
      | zero =>
        simp only [List.flatten_cons, Nat.zero_mul, Nat.zero_add]
        rw [List.getElem?_append_left (by omega)]
        simp [List.getD, List.getElem?_eq_getElem (show i < x.length by omega)]
      | succ q =>
        have := ih (fun y hy => hr y (by simp [hy])) q i (by simpa using hq) hi
        simp only [List.flatten_cons]
        rw [List.getElem?_append_right (by rw [hx, Nat.add_mul]; omega), hx]
        rw [show (q + 1) * size + i - size = q * size + i by rw [Nat.add_mul]; omega, this]
        simp [List.getD]
  have := key rows hr (j / size) (j % size) hj hi
  rwa [show j / size * size + j % size = j by rw [Nat.mul_comm]; exact Nat.div_add_mod j size] at this

/-- An owned row reads as a slice of its elements. -/
theorem owns_SlAt {w : World} {base : Nat} {e : TypeId} {size : Nat} {v : Value} {rows : List (List Value)} (h : w.ownsRow base e size v rows.length rows.flatten) (hr : ∀ x ∈ rows, x.length = size) : SlAt size w v rows := by
  obtain ⟨h1, h2⟩ := h
  rcases h2 with ⟨rfl, h2⟩ | ⟨g, cap, cur, rfl, hg, hh, hc, hm, hs, ht⟩
  · have : rows = [] := List.eq_nil_of_length_eq_zero h2
    subst this
    exact ⟨none, 0, rfl, Nat.le_refl _, by decide, by simp, .inl ⟨rfl, fun _ => rfl⟩⟩
  · refine ⟨_, cap, rfl, hc, hm, hr, ?_⟩
    refine .inr ⟨g, 0, rfl, (Array.getElem?_eq_some_iff.1 hh).1, fun j hj i hi => ?_⟩
    have key : (rows.flatten)[j * size + i]? = some ((rows.getD j []).getD i undef) := by
      clear h1 hh hc hm hs ht hg
      induction rows generalizing j with
      | nil => simp at hj
      | cons x r ih =>
        have hx := hr x (by simp)
        cases j with
        | zero =>
          simp only [List.flatten_cons, Nat.zero_mul, Nat.zero_add]
          rw [List.getElem?_append_left (by omega)]
          simp [List.getD, List.getElem?_eq_getElem (show i < x.length by omega)]
        | succ j =>
          have := ih (fun y hy => hr y (by simp [hy])) j (by simpa using hj)
          simp only [List.flatten_cons]
          rw [List.getElem?_append_right (by rw [hx, Nat.add_mul]; omega), hx]
          rw [show (j + 1) * size + i - size = j * size + i by rw [Nat.add_mul]; omega, this]
          simp [List.getD]
    have hlt : j * size + i < rows.length * size := by
      have : (j + 1) * size ≤ rows.length * size := Nat.mul_le_mul_right _ hj
      rw [Nat.add_mul] at this; omega
    rw [← ht, List.getElem?_take, if_pos hlt] at key
    rw [← key]
    simp [World.cell?, hh]

/-- A slice of vectors in memory of the call's own. -/
def ownsVecs (w : World) (base e : Nat) (v : Value) (l : List V2) : Prop := w.ownsRow base e 2 v l.length (l.map vecRow).flatten
theorem ownsVecs.at {w : World} {base e : Nat} {v : Value} {l : List V2} (h : ownsVecs w base e v l) : VecsAt w v l := by
  refine owns_SlAt (base := base) (e := e) ?_ (by intro x hx; simp at hx; obtain ⟨a, b, _, rfl⟩ := hx; rfl)
  rw [List.length_map]; exact h
theorem ownsVecs.below {w w' : World} {base e : Nat} {v : Value} {l : List V2} (h : ownsVecs w base e v l) (hb : Below w.heap.size w w') : ownsVecs w' base e v l := ownsRow_below h hb
theorem ownsVecs.alloc {w : World} {base e : Nat} {v : Value} {l : List V2} (h : ownsVecs w base e v l) (o : Obj) : ownsVecs (w.alloc o) base e v l := World.ownsRow.alloc h o
theorem ownsVecs_empty (w : World) (base e : Nat) (hb : base ≤ w.heap.size) : ownsVecs (w.alloc (.cells #[] e)) base e (.slice (some ⟨w.heap.size, 0, none⟩) 0 0) [] := owns_empty w base e 2 hb

theorem wp_appVec {P : Program} {t e bytes : Nat} (E : ElemT P t e 2 bytes) {w : World} {ops : Array Oper} {rest : List Oper} {o : Oper} {a : Act} {Q : Exit → Act → World → Prop} (hgd : o.guard = none) (s x : Operand)
    (ho : o.op = .call { callee := .builtin .append, args := #[s, x], argTypes := #[t, t] })
    (base : Nat) (v : Value) (l : List V2) (hs : a.eval s = v) (hown : ownsVecs w base e v l)
    (b : Nat) (p q : Int) (hx : a.eval x = .slice (some ⟨b, 0, none⟩) 1 1) (h0 : w.cell? ⟨b, 0, none⟩ = some (.int .i64 p)) (h1 : w.cell? ⟨b, 1, none⟩ = some (.int .i64 q))
    (hlen : l.length + 1 ≤ 1073741824) (hbytes : bytes ≤ 1024) (hbase : base ≤ w.heap.size)
    (h : ∀ v' w', ownsVecs w' base e v' (l ++ [(p, q)]) → w.grownBy w' v.ownBlock → wpList P ops Q rest (a.put o.dst v') w') : wpList P ops Q (o :: rest) a w := by
  refine wp_app1 E hgd s x ho base v l.length (l.map vecRow).flatten hs hown b (vecRow (p, q)) hx rfl (fun j hj => ?_) (by simp [vecRow, Value.oneCell']) hlen hbytes hbase (fun v' w' h2 h3 => h v' w' ?_ h3)
  · have : j = 0 ∨ j = 1 := by omega
    rcases this with rfl | rfl <;> simp [vecRow, h0, h1]
  · unfold ownsVecs
    simpa using h2


/-- All elements of a slice appended to a row of the call's own. -/
theorem wp_appAll {P : Program} {t e size bytes : Nat} (E : ElemT P t e size bytes) {w : World} {ops : Array Oper} {rest : List Oper} {o : Oper} {a : Act} {Q : Exit → Act → World → Prop} (hgd : o.guard = none) (s x : Operand)
    (ho : o.op = .call { callee := .builtin .append, args := #[s, x], argTypes := #[t, t] })
    (base : Nat) (v : Value) (n : Nat) (xs : List Value) (hs : a.eval s = v) (hown : w.ownsRow base e size v n xs)
    (u : Value) (rows : List (List Value)) (hx : a.eval x = u) (hat : SlAt size w u rows) (h1 : ∀ r ∈ rows, ∀ q ∈ r, q.oneCell' = true)
    (hlen : n + rows.length ≤ 1073741824) (hbytes : bytes ≤ 1024) (hbase : base ≤ w.heap.size)
    (h : ∀ v' w', w'.ownsRow base e size v' (n + rows.length) (xs ++ rows.flatten) → w.grownBy w' v.ownBlock → wpList P ops Q rest (a.put o.dst v') w') : wpList P ops Q (o :: rest) a w := by
  obtain ⟨i, z, hi, hz, h2, h3, h4⟩ := E.info
  obtain ⟨ad, cap, rfl, hl, hc, hsz, hcell⟩ := hat
  cases ad with
  | none =>
    rcases hcell with ⟨rfl, hcap⟩ | ⟨b, off, hb, _⟩
    · have hcap := hcap rfl
      subst hcap
      refine wpList_plain hgd fun K hK => ?_
      have hr := run_append_owned_none (P := P) (w := w) base t o.type e i size E.slice hi v n xs hown
      unfold Oper.wp execOp
      simp only [ho, resolve, invoke, builtin, Sem.run_bind, Sem.run_pure, Result.andThen_ok, List.map_toArray, List.map_cons, List.map_nil, hs, hx]
      simp only [List.length_nil] at hr ⊢
      simp only [hr, Result.andThen_ok]
      refine hK _ _ (h v w ?_ ⟨rfl, rfl, rfl, Nat.le_refl _, fun _ _ _ => rfl⟩)
      simpa using hown
    · simp at hb
  | some ad =>
    have hlf : rows.flatten.length = rows.length * size := by
      clear h hcell hx hlen hl
      induction rows with
      | nil => simp
      | cons y r ih =>
        rw [List.flatten_cons, List.length_append, ih (fun q hq => h1 q (by simp [hq])) (fun q hq => hsz q (by simp [hq])), hsz y (by simp), List.length_cons, Nat.add_mul]
        omega
    refine wpList_append_own w hgd s x t ho base e i z size bytes E.slice hi hz h2 h3 h4 E.pos v n xs hs hown ad rows.length cap rows.flatten hx hlf (fun j q hj => ?_) ?_ ?_ ?_ hbase (fun v' w' p1 p2 _ => h v' w' p1 p2)
    · have hjl : j < rows.length * size := by rw [← hlf]; exact (List.getElem?_eq_some_iff.1 hj).1
      rcases hcell with ⟨rfl, _⟩ | ⟨b, off, hb, _, hcl⟩
      · simp at hjl
      · simp at hb
        subst hb
        have hj1 : j / size < rows.length := Nat.div_lt_of_lt_mul (by rw [Nat.mul_comm]; exact hjl)
        have hj2 : j % size < size := Nat.mod_lt _ E.pos
        have e0 := hcl (j / size) hj1 (j % size) hj2
        have e1 : j / size * size + j % size = j := by rw [Nat.mul_comm]; exact Nat.div_add_mod j size
        rw [e1] at e0
        have e2 : (⟨b, off, none⟩ : Addr).add j = ⟨b, off + j, none⟩ := by
          unfold Addr.add; split
          · subst_vars; rfl
          · rfl
        rw [e2, e0]
        rw [flatten_get rows size hsz j hj1 hj2] at hj
        exact hj
    · intro q hq
      obtain ⟨r, hr, hq⟩ := List.mem_flatten.1 hq
      exact h1 r hr q hq
    · unfold maxLen; omega
    · have : (n + rows.length) * bytes ≤ 1073741824 * 1024 := Nat.mul_le_mul hlen hbytes
      omega
end Go.Proofs.Ytemgpfojmdncjaa
