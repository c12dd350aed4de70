/-
  A slice of the call's own grows by append: one element, or all elements of another slice. Over any program.
-/
import Derived.Test.YtemgpfojmdncjaaDatV
import Derived.Maps.AppendAt
import Derived.WalkSpells
namespace Go.Proofs.Ytemgpfojmdncjaa
set_option linter.unusedVariables false
set_option linter.unusedSimpArgs false
open Go.RowKit

/-- Rows that are appended: their cells, and what they lead to, apart from what the slice owns. -/
theorem Own.app {w w' : World} {base m hi e : Nat} {ts : List Ty} {ls ls2 : List (List Dat)} {v v' : Value} {rows2 : List (List Value)} {bss2 : List (List Nat)} (h : Own w base m [.sl e ts] [.sl ls] [v])
    (hl2 : rows2.length = ls2.length) (hb2 : bss2.length = ls2.length) (hr2 : ∀ r ∈ rows2, r.length = ts.length) (hf2 : ∀ k, k < ls2.length → FpRow w ts (ls2.getD k []) (rows2.getD k []) (bss2.getD k [])) (hn2 : bss2.flatten.Nodup) (hi2 : ∀ b ∈ bss2.flatten, m ≤ b ∧ b < hi)
    (hm : base ≤ m) (hmh : m ≤ hi) (hhi : hi ≤ w.heap.size)
    (rows : List (List Value)) (hrows : ∀ xs, w.ownsRow base e ts.length v ls.length xs → xs = rows.flatten) (hrl : rows.length = ls.length) (hrt : ∀ r ∈ rows, r.length = ts.length)
    (hown : w'.ownsRow base e ts.length v' (ls.length + rows2.length) (rows.flatten ++ rows2.flatten)) (hg : w.grownBy w' v.ownBlock) (hat : v'.ownBlock = v.ownBlock ∨ v'.ownBlock = some w.heap.size) :
    Own w' base w'.heap.size [.sl e ts] [.sl (ls ++ ls2)] [v'] := by
  obtain ⟨bs, p1, p2, p3⟩ := h.one
  simp only [Fp] at p1
  obtain ⟨rows', bss, q1, q2, q3, q4, q5, rfl⟩ := p1
  have hb1 : w.ownsRow base e ts.length v ls.length rows'.flatten := by
    rw [← q2]
    refine ⟨q1.1, q1.2.imp id ?_⟩
    rintro ⟨g, cap, cur, a, _, r⟩
    exact ⟨g, cap, cur, a, (p3 g (by simp [a, Value.ownBlock])).1, r⟩
  have hrr : rows' = rows := by
    have e1 := hrows _ hb1
    have key : ∀ (A B : List (List Value)), A.length = B.length → (∀ r ∈ A, r.length = ts.length) → (∀ r ∈ B, r.length = ts.length) → A.flatten = B.flatten → A = B := by
      intro A
      induction A with
      | nil => intro B hl _ _ _; exact (List.eq_nil_of_length_eq_zero hl.symm).symm
      | cons x r ih =>
        intro B hl h1 h2 hf
        match B, hl with
        | y :: s, hl =>
          simp only [List.flatten_cons] at hf
          have hx := h1 x (by simp)
          have hy := h2 y (by simp)
          obtain ⟨e1, e2⟩ := List.append_inj hf (by omega)
          rw [e1, ih s (by simpa using hl) (fun r hr => h1 r (by simp [hr])) (fun r hr => h2 r (by simp [hr])) e2]
    exact key _ _ (by omega) q4 hrt e1
  subst hrr
  have ho : OnlyIn (fun b => v.ownBlock = some b) w w' := OnlyIn.of_grown hg (fun _ hb => hb)
  have hp2 := List.nodup_append.1 p2
  have nb1 : ∀ b ∈ bss.flatten, v.ownBlock ≠ some b := fun b hb hv => hp2.2.2 b (by simp [hv]) b hb rfl
  have nb2 : ∀ b ∈ bss2.flatten, v.ownBlock ≠ some b := fun b hb hv => by
    have := (p3 b (by simp [hv])).2; have := (hi2 b hb).1; omega
  have hsz := hg.size
  refine ⟨v'.ownBlock.toList ++ (bss ++ bss2).flatten, ?_, ?_, ?_⟩
  · simp only [FpRow, Fp]
    refine ⟨_, [], (List.append_nil _).symm, ⟨rows' ++ rows2, bss ++ bss2, ?_, by simp [q2, hl2], by simp [q3, hb2], ?_, ?_, rfl⟩, rfl⟩
    · have : (rows' ++ rows2).length = ls.length + rows2.length := by simp [q2]
      rw [this, List.flatten_append]
      exact ⟨hown.1, hown.2.imp id (fun ⟨g, cap, cur, a, _, r⟩ => ⟨g, cap, cur, a, Nat.zero_le _, r⟩)⟩
    · intro r hr
      rcases List.mem_append.1 hr with hr | hr
      · exact q4 r hr
      · exact hr2 r hr
    · intro k hk
      have g1 : ∀ {α : Type} (A B : List α) (d : α), k < A.length → (A ++ B).getD k d = A.getD k d := fun A B d h => by simp [List.getD, List.getElem?_append_left h]
      have g2 : ∀ {α : Type} (A B : List α) (d : α), A.length ≤ k → (A ++ B).getD k d = B.getD (k - A.length) d := fun A B d h => by simp [List.getD, List.getElem?_append_right h]
      by_cases hkl : k < ls.length
      · rw [g1 _ _ _ hkl, g1 _ _ _ (by omega), g1 _ _ _ (by omega)]
        exact FpRow.only ho _ _ _ _ (q5 k hkl) (fun b hb => nb1 b (getD_mem_flatten hb))
      · simp only [List.length_append] at hk
        rw [g2 _ _ _ (by omega), g2 _ _ _ (by omega), g2 _ _ _ (by omega), q2, q3]
        exact FpRow.only ho _ _ _ _ (hf2 (k - ls.length) (by omega)) (fun b hb => nb2 b (getD_mem_flatten hb))
  · rw [List.flatten_append]
    refine List.nodup_append.2 ⟨by cases v'.ownBlock <;> simp, List.nodup_append.2 ⟨hp2.2.1, hn2, fun a ha b hb e => ?_⟩, fun a ha b hb e => ?_⟩
    · have := (p3 a (List.mem_append.2 (.inr ha))).2; have := (hi2 b hb).1; omega
    · subst e
      have hv : v'.ownBlock = some a := by simpa using ha
      rcases hat with hat | hat
      · rw [hat] at hv
        rcases List.mem_append.1 hb with hb | hb
        · exact nb1 a hb hv
        · exact nb2 a hb hv
      · rw [hat] at hv
        simp at hv
        rcases List.mem_append.1 hb with hb | hb
        · have := (p3 a (List.mem_append.2 (.inr hb))).2; omega
        · have := (hi2 a hb).2; omega
  · intro b hb
    rcases List.mem_append.1 hb with hb | hb
    · exact World.ownsRow.lt hown b (by simpa using hb)
    · rw [List.flatten_append] at hb
      rcases List.mem_append.1 hb with hb | hb
      · have := p3 b (List.mem_append.2 (.inr hb)); omega
      · have := hi2 b hb; omega

theorem Own.rows {w : World} {base m e : Nat} {ts : List Ty} {ls : List (List Dat)} {v : Value} (h : Own w base m [.sl e ts] [.sl ls] [v]) : ∃ rows : List (List Value), w.ownsRow base e ts.length v ls.length rows.flatten ∧ rows.length = ls.length ∧ ∀ r ∈ rows, r.length = ts.length := by
  obtain ⟨bs, p1, p2, p3⟩ := h.one
  simp only [Fp] at p1
  obtain ⟨rows, bss, q1, q2, q3, q4, q5, rfl⟩ := p1
  refine ⟨rows, ?_, q2, q4⟩
  rw [← q2]
  refine ⟨q1.1, q1.2.imp id ?_⟩
  rintro ⟨g, cap, cur, a, _, r⟩
  exact ⟨g, cap, cur, a, (p3 g (by simp [a, Value.ownBlock])).1, r⟩
theorem ownsRow_unique {w : World} {base e size n : Nat} {v : Value} {xs ys : List Value} (h : w.ownsRow base e size v n xs) (k : w.ownsRow base e size v n ys) : xs = ys := by
  rcases h.2 with ⟨rfl, rfl⟩ | ⟨g, cap, cur, rfl, _, hh, _, _, _, ht⟩
  · have e1 : xs.length = 0 := by simpa using h.1
    have e2 : ys.length = 0 := by simpa using k.1
    rw [List.eq_nil_of_length_eq_zero e1, List.eq_nil_of_length_eq_zero e2]
  · rcases k.2 with ⟨hv, _⟩ | ⟨g', cap', cur', hv, _, hh', _, _, _, ht'⟩
    · simp at hv
    · simp at hv
      obtain ⟨rfl, rfl⟩ := hv
      rw [hh] at hh'
      simp at hh'
      subst hh'
      rw [← ht, ← ht']

/-- The block of an owned slice. -/
theorem Own.blk {w : World} {lo hi e b : Nat} {ts : List Ty} {ls : List (List Dat)} {v : Value} (h : Own w lo hi [.sl e ts] [.sl ls] [v]) (hb : v.ownBlock = some b) : lo ≤ b ∧ b < hi := by
  obtain ⟨bs, h1, _, h3⟩ := h.one
  simp only [Fp] at h1
  obtain ⟨_, _, _, _, _, _, _, rfl⟩ := h1
  exact h3 b (List.mem_append.2 (.inl (by simp [hb])))
/-- An owned slice's value. -/
theorem Own.shape {w : World} {lo hi e : Nat} {ts : List Ty} {ls : List (List Dat)} {v : Value} (h : Own w lo hi [.sl e ts] [.sl ls] [v]) : ∃ a c, v = .slice a ls.length c := by
  obtain ⟨q, q1, -, -⟩ := Own.one h
  obtain ⟨a, c, q2, -⟩ := Rd.sl2 (Fp.rd _ _ _ _ q1)
  exact ⟨a, c, q2⟩

/-- One element appended. -/
theorem op_appOne {P : Program} {t e size bytes : Nat} (E : ElemT P t e size bytes) {w : World} {o : Oper} {a : Act} {K : Act → World → Prop} {Q : Exit → Act → World → Prop} (s x : Operand)
    (ho : o.op = .call { callee := .builtin .append, args := #[s, x], argTypes := #[t, t] })
    (base m hi : Nat) (ts : List Ty) (ls : List (List Dat)) (v : Value) (hs : a.eval s = v) (hown : Own w base m [.sl e ts] [.sl ls] [v])
    (b : Nat) (d : List Dat) (cs : List Value) (hx : a.eval x = .slice (some ⟨b, 0, none⟩) 1 1) (hts : ts.length = size) (hcs : ∀ j, j < size → w.cell? ⟨b, j, none⟩ = cs[j]?) (hd : Own w m hi ts d cs)
    (hm : base ≤ m) (hmh : m ≤ hi) (hhi : hi ≤ w.heap.size) (hlen : ls.length + 1 ≤ 1073741824) (hbytes : bytes ≤ 1024)
    (h : ∀ v' w', Own w' base w'.heap.size [.sl e ts] [.sl (ls ++ [d])] [v'] → OnlyIn (fun b => v.ownBlock = some b) w w' → (v'.ownBlock = v.ownBlock ∨ v'.ownBlock = some w.heap.size) → K (a.put o.dst v') w') : o.wp P a w K Q := by
  obtain ⟨i, z, hi', hz, h2, h3, h4⟩ := E.info
  obtain ⟨rows, r1, r2, r3⟩ := hown.rows
  subst hts
  obtain ⟨b2, f1, f2, f3⟩ := hd
  have hcl := (RdRow.lens _ _ _ (FpRow.rd _ _ _ _ f1)).2
  obtain ⟨v', w', hr, p1, p2, _, p4⟩ := run_append_own_at (P := P) w base t o.type e i z ts.length bytes E.slice hi' hz h2 h3 h4 E.pos v ls.length rows.flatten r1 ⟨b, 0, none⟩ 1 1 cs (by omega) (fun j u hj => by
    have hj' : j < ts.length := by rw [← hcl]; exact (List.getElem?_eq_some_iff.1 hj).1
    have := hcs j hj'
    rw [← hj, ← this]
    unfold Addr.add
    split
    · subst_vars; rfl
    · simp) (fun u hu => RdRow.one _ _ _ (FpRow.rd _ _ _ _ f1) u hu) (by unfold maxLen; omega) (by
    have : (ls.length + 1) * bytes ≤ 1073741824 * 1024 := Nat.mul_le_mul hlen hbytes
    omega) (by omega)
  unfold Oper.wp execOp
  simp only [ho, resolve, invoke, builtin, Sem.run_bind, Sem.run_pure, Result.andThen_ok, List.map_toArray, List.map_cons, List.map_nil, hs, hx, hr]
  refine h v' w' ?_ (OnlyIn.of_grown p2 (fun _ hb => hb)) p4
  refine Own.app (rows2 := [cs]) (bss2 := [b2]) hown rfl rfl (by simpa using hcl) (fun k hk => ?_) (by simpa using f2) (by simpa using f3) hm hmh hhi rows (fun xs hx => ownsRow_unique hx r1) r2 r3 (by simpa using p1) p2 p4
  obtain rfl : k = 0 := by simp at hk; omega
  simpa using f1
theorem wp_appOne {P : Program} {t e size bytes : Nat} (E : ElemT P t e size bytes) {w : World} {ops : Array Oper} {rest : List Oper} {o : Oper} {a : Act} {Q : Exit → Act → World → Prop} (hgd : o.guard = none) (s x : Operand)
    (ho : o.op = .call { callee := .builtin .append, args := #[s, x], argTypes := #[t, t] })
    (base m hi : Nat) (ts : List Ty) (ls : List (List Dat)) (v : Value) (hs : a.eval s = v) (hown : Own w base m [.sl e ts] [.sl ls] [v])
    (b : Nat) (d : List Dat) (cs : List Value) (hx : a.eval x = .slice (some ⟨b, 0, none⟩) 1 1) (hts : ts.length = size) (hcs : ∀ j, j < size → w.cell? ⟨b, j, none⟩ = cs[j]?) (hd : Own w m hi ts d cs)
    (hm : base ≤ m) (hmh : m ≤ hi) (hhi : hi ≤ w.heap.size) (hlen : ls.length + 1 ≤ 1073741824) (hbytes : bytes ≤ 1024)
    (h : ∀ v' w', Own w' base w'.heap.size [.sl e ts] [.sl (ls ++ [d])] [v'] → OnlyIn (fun b => v.ownBlock = some b) w w' → (v'.ownBlock = v.ownBlock ∨ v'.ownBlock = some w.heap.size) → wpList P ops Q rest (a.put o.dst v') w') : wpList P ops Q (o :: rest) a w :=
  wpList_plain hgd fun _ hK => op_appOne E s x ho base m hi ts ls v hs hown b d cs hx hts hcs hd hm hmh hhi hlen hbytes fun v' w' h1 h2 h3 => hK _ _ (h v' w' h1 h2 h3)
theorem step_appOne {P : Program} {t e size bytes : Nat} (E : ElemT P t e size bytes) {w : World} {ops : Array Oper} {o : Oper} {a : Act} {K : Act → World → Prop} {Q : Exit → Act → World → Prop} {F : Prop} (hgd : o.guard = none) (s x : Operand)
    (ho : o.op = .call { callee := .builtin .append, args := #[s, x], argTypes := #[t, t] })
    (base m hi : Nat) (ts : List Ty) (ls : List (List Dat)) (v : Value) (hs : a.eval s = v) (hown : Own w base m [.sl e ts] [.sl ls] [v])
    (b : Nat) (d : List Dat) (cs : List Value) (hx : a.eval x = .slice (some ⟨b, 0, none⟩) 1 1) (hts : ts.length = size) (hcs : ∀ j, j < size → w.cell? ⟨b, j, none⟩ = cs[j]?) (hd : Own w m hi ts d cs)
    (hm : base ≤ m) (hmh : m ≤ hi) (hhi : hi ≤ w.heap.size) (hlen : ls.length + 1 ≤ 1073741824) (hbytes : bytes ≤ 1024)
    (h : ∀ v' w', Own w' base w'.heap.size [.sl e ts] [.sl (ls ++ [d])] [v'] → OnlyIn (fun b => v.ownBlock = some b) w w' → (v'.ownBlock = v.ownBlock ∨ v'.ownBlock = some w.heap.size) → K (a.put o.dst v') w') : if Region.wanted o (yielded ops a.tmps) = true then Oper.wp P o a w K Q else F := by
  rw [if_pos (by simp [Region.wanted, hgd])]
  exact op_appOne E s x ho base m hi ts ls v hs hown b d cs hx hts hcs hd hm hmh hhi hlen hbytes h

/-- All elements of a slice appended; what they lead to is the call's own. -/
theorem op_appMany {P : Program} {t e size bytes : Nat} (E : ElemT P t e size bytes) {w : World} {o : Oper} {a : Act} {K : Act → World → Prop} {Q : Exit → Act → World → Prop} (s x : Operand)
    (ho : o.op = .call { callee := .builtin .append, args := #[s, x], argTypes := #[t, t] })
    (base m hi : Nat) (ts : List Ty) (ls : List (List Dat)) (v : Value) (hs : a.eval s = v) (hown : Own w base m [.sl e ts] [.sl ls] [v])
    (ls2 : List (List Dat)) (u : Value) (hx : a.eval x = u) (hts : ts.length = size) (rows2 : List (List Value)) (bss2 : List (List Nat)) (hat : SlAt ts.length w u rows2) (hl2 : rows2.length = ls2.length) (hb2 : bss2.length = ls2.length) (hf2 : ∀ k, k < ls2.length → FpRow w ts (ls2.getD k []) (rows2.getD k []) (bss2.getD k [])) (hn2 : bss2.flatten.Nodup) (hi2 : ∀ b ∈ bss2.flatten, m ≤ b ∧ b < hi)
    (hm : base ≤ m) (hmh : m ≤ hi) (hhi : hi ≤ w.heap.size) (hlen : ls.length + ls2.length ≤ 1073741824) (hbytes : bytes ≤ 1024)
    (h : ∀ v' w', Own w' base w'.heap.size [.sl e ts] [.sl (ls ++ ls2)] [v'] → OnlyIn (fun b => v.ownBlock = some b) w w' → (v'.ownBlock = v.ownBlock ∨ v'.ownBlock = some w.heap.size) → K (a.put o.dst v') w') : o.wp P a w K Q := by
  obtain ⟨i, z, hi', hz, h2, h3, h4⟩ := E.info
  obtain ⟨rows, r1, r2, r3⟩ := hown.rows
  subst hts
  have hsz : ∀ r ∈ rows2, r.length = ts.length := by obtain ⟨_, _, _, _, _, q, _⟩ := hat; exact q
  have hone : ∀ r ∈ rows2, ∀ q ∈ r, q.oneCell' = true := fun r hr => by
    obtain ⟨k, hk, rfl⟩ := List.mem_iff_getElem.1 hr
    have := hf2 k (by omega)
    have e0 : rows2.getD k [] = rows2[k] := by simp [List.getD, hk]
    rw [e0] at this
    exact RdRow.one _ _ _ (FpRow.rd _ _ _ _ this)
  have fin : ∀ v' w', w'.ownsRow base e ts.length v' (ls.length + rows2.length) (rows.flatten ++ rows2.flatten) → w.grownBy w' v.ownBlock → (v'.ownBlock = v.ownBlock ∨ v'.ownBlock = some w.heap.size) → Own w' base w'.heap.size [.sl e ts] [.sl (ls ++ ls2)] [v'] := fun v' w' p1 p2 p4 =>
    Own.app hown hl2 hb2 hsz hf2 hn2 hi2 hm hmh hhi rows (fun xs hx => ownsRow_unique hx r1) r2 r3 p1 p2 p4
  obtain ⟨ad, cap, rfl, hl, hc, -, hcell⟩ := hat
  cases ad with
  | none =>
    rcases hcell with ⟨rfl, hcap⟩ | ⟨b, off, hb, _⟩
    · have hcap := hcap rfl
      subst hcap
      have hr := run_append_owned_none (P := P) (w := w) base t o.type e i ts.length E.slice hi' v ls.length rows.flatten r1
      unfold Oper.wp execOp
      simp only [ho, resolve, invoke, builtin, Sem.run_bind, Sem.run_pure, Result.andThen_ok, List.map_toArray, List.map_cons, List.map_nil, hs, hx]
      simp only [List.length_nil] at hr ⊢
      simp only [hr, Result.andThen_ok]
      refine (h v w (fin v w (by simpa using r1) ⟨rfl, rfl, rfl, Nat.le_refl _, fun _ _ _ => rfl⟩ (.inl rfl)) (OnlyIn.refl _ _) (.inl rfl))
    · simp at hb
  | some ad =>
    have hlf : rows2.flatten.length = rows2.length * ts.length := by
      clear h hcell hx hlen hl hl2 hb2 hf2 hone fin hown
      induction rows2 with
      | nil => simp
      | cons y r ih =>
        rw [List.flatten_cons, List.length_append, ih (fun q hq => hsz q (by simp [hq])), hsz y (by simp), List.length_cons, Nat.add_mul]
        omega
    have a1 : ∀ j q, rows2.flatten[j]? = some q → w.cell? (ad.add j) = some q := fun j q hj => by
      have hjl : j < rows2.length * ts.length := by rw [← hlf]; exact (List.getElem?_eq_some_iff.1 hj).1
      rcases hcell with ⟨rfl, _⟩ | ⟨b, off, hb, _, hcl⟩
      · simp at hjl
      · simp at hb
        subst hb
        have hj1 : j / ts.length < rows2.length := Nat.div_lt_of_lt_mul (by rw [Nat.mul_comm]; exact hjl)
        have hj2 : j % ts.length < ts.length := Nat.mod_lt _ E.pos
        have e0 := hcl (j / ts.length) hj1 (j % ts.length) hj2
        have e1 : j / ts.length * ts.length + j % ts.length = j := by rw [Nat.mul_comm]; exact Nat.div_add_mod j ts.length
        rw [e1] at e0
        have e2 : (⟨b, off, none⟩ : Addr).add j = ⟨b, off + j, none⟩ := by
          unfold Addr.add; split
          · subst_vars; rfl
          · rfl
        rw [e2, e0]
        rw [flatten_get rows2 ts.length hsz j hj1 hj2] at hj
        exact hj
    have a2 : ∀ q ∈ rows2.flatten, q.oneCell' = true := by
      intro q hq
      obtain ⟨r, hr, hq⟩ := List.mem_flatten.1 hq
      exact hone r hr q hq
    have a3 : ls.length + rows2.length ≤ maxLen := by
      unfold maxLen; omega
    have a4 : (ls.length + rows2.length) * bytes ≤ 140737488355328 := by
      have : (ls.length + rows2.length) * bytes ≤ 1073741824 * 1024 := Nat.mul_le_mul (by omega) hbytes
      omega
    obtain ⟨v', w', hr, p1, p2, _, p4⟩ := run_append_own_at (P := P) w base t o.type e i z ts.length bytes E.slice hi' hz h2 h3 h4 E.pos v ls.length rows.flatten r1 ad rows2.length cap rows2.flatten hlf a1 a2 a3 a4 (by omega)
    unfold Oper.wp execOp
    simp only [ho, resolve, invoke, builtin, Sem.run_bind, Sem.run_pure, Result.andThen_ok, List.map_toArray, List.map_cons, List.map_nil, hs, hx, hr]
    exact h v' w' (fin v' w' p1 p2 p4) (OnlyIn.of_grown p2 (fun _ hb => hb)) p4
theorem wp_appMany {P : Program} {t e size bytes : Nat} (E : ElemT P t e size bytes) {w : World} {ops : Array Oper} {rest : List Oper} {o : Oper} {a : Act} {Q : Exit → Act → World → Prop} (hgd : o.guard = none) (s x : Operand)
    (ho : o.op = .call { callee := .builtin .append, args := #[s, x], argTypes := #[t, t] })
    (base m hi : Nat) (ts : List Ty) (ls : List (List Dat)) (v : Value) (hs : a.eval s = v) (hown : Own w base m [.sl e ts] [.sl ls] [v])
    (ls2 : List (List Dat)) (u : Value) (hx : a.eval x = u) (hts : ts.length = size) (rows2 : List (List Value)) (bss2 : List (List Nat)) (hat : SlAt ts.length w u rows2) (hl2 : rows2.length = ls2.length) (hb2 : bss2.length = ls2.length) (hf2 : ∀ k, k < ls2.length → FpRow w ts (ls2.getD k []) (rows2.getD k []) (bss2.getD k [])) (hn2 : bss2.flatten.Nodup) (hi2 : ∀ b ∈ bss2.flatten, m ≤ b ∧ b < hi)
    (hm : base ≤ m) (hmh : m ≤ hi) (hhi : hi ≤ w.heap.size) (hlen : ls.length + ls2.length ≤ 1073741824) (hbytes : bytes ≤ 1024)
    (h : ∀ v' w', Own w' base w'.heap.size [.sl e ts] [.sl (ls ++ ls2)] [v'] → OnlyIn (fun b => v.ownBlock = some b) w w' → (v'.ownBlock = v.ownBlock ∨ v'.ownBlock = some w.heap.size) → wpList P ops Q rest (a.put o.dst v') w') : wpList P ops Q (o :: rest) a w :=
  wpList_plain hgd fun _ hK => op_appMany E s x ho base m hi ts ls v hs hown ls2 u hx hts rows2 bss2 hat hl2 hb2 hf2 hn2 hi2 hm hmh hhi hlen hbytes fun v' w' h1 h2 h3 => hK _ _ (h v' w' h1 h2 h3)
theorem step_appMany {P : Program} {t e size bytes : Nat} (E : ElemT P t e size bytes) {w : World} {ops : Array Oper} {o : Oper} {a : Act} {K : Act → World → Prop} {Q : Exit → Act → World → Prop} {F : Prop} (hgd : o.guard = none) (s x : Operand)
    (ho : o.op = .call { callee := .builtin .append, args := #[s, x], argTypes := #[t, t] })
    (base m hi : Nat) (ts : List Ty) (ls : List (List Dat)) (v : Value) (hs : a.eval s = v) (hown : Own w base m [.sl e ts] [.sl ls] [v])
    (ls2 : List (List Dat)) (u : Value) (hx : a.eval x = u) (hts : ts.length = size) (rows2 : List (List Value)) (bss2 : List (List Nat)) (hat : SlAt ts.length w u rows2) (hl2 : rows2.length = ls2.length) (hb2 : bss2.length = ls2.length) (hf2 : ∀ k, k < ls2.length → FpRow w ts (ls2.getD k []) (rows2.getD k []) (bss2.getD k [])) (hn2 : bss2.flatten.Nodup) (hi2 : ∀ b ∈ bss2.flatten, m ≤ b ∧ b < hi)
    (hm : base ≤ m) (hmh : m ≤ hi) (hhi : hi ≤ w.heap.size) (hlen : ls.length + ls2.length ≤ 1073741824) (hbytes : bytes ≤ 1024)
    (h : ∀ v' w', Own w' base w'.heap.size [.sl e ts] [.sl (ls ++ ls2)] [v'] → OnlyIn (fun b => v.ownBlock = some b) w w' → (v'.ownBlock = v.ownBlock ∨ v'.ownBlock = some w.heap.size) → K (a.put o.dst v') w') : if Region.wanted o (yielded ops a.tmps) = true then Oper.wp P o a w K Q else F := by
  rw [if_pos (by simp [Region.wanted, hgd])]
  exact op_appMany E s x ho base m hi ts ls v hs hown ls2 u hx hts rows2 bss2 hat hl2 hb2 hf2 hn2 hi2 hm hmh hhi hlen hbytes h

/-- Rows without memory behind them are the call's own wherever they are read. -/
theorem leaf_rows {w : World} {e : Nat} {ts : List Ty} {ls : List (List Dat)} {u : Value} (hleaf : ∀ t ∈ ts, t.leaf = true) (h : Rd w (.sl e ts) (.sl ls) u) : ∃ (rows : List (List Value)) (bss : List (List Nat)), SlAt ts.length w u rows ∧ rows.length = ls.length ∧ bss.length = ls.length ∧ (∀ k, k < ls.length → FpRow w ts (ls.getD k []) (rows.getD k []) (bss.getD k [])) ∧ bss.flatten = [] := by
  simp only [Rd] at h
  obtain ⟨rows, h1, h2, h3⟩ := h
  refine ⟨rows, List.replicate ls.length [], h1, h2, by simp, fun k hk => ?_, by simp⟩
  have e0 : (List.replicate ls.length ([] : List Nat)).getD k [] = [] := by simp [List.getD, hk]
  rw [e0]
  have key : ∀ (ts : List Ty) (ds : List Dat) (vs : List Value), (∀ t ∈ ts, t.leaf = true) → RdRow w ts ds vs → FpRow w ts ds vs [] := by
    intro ts
    induction ts with
    | nil => intro ds vs _ h; obtain ⟨rfl, rfl⟩ := RdRow.nil_inv h; simp [FpRow]
    | cons t ts ih =>
      intro ds vs hl h
      obtain ⟨d, ds, v, vs, rfl, rfl, h1, h2⟩ := RdRow.cons_inv h
      have hlt := hl t (by simp)
      simp only [FpRow]
      refine ⟨[], [], rfl, ?_, ih ds vs (fun t ht => hl t (by simp [ht])) h2⟩
      cases t <;> cases d <;> simp [Rd, Fp, Ty.leaf] at h1 hlt ⊢ <;> exact h1
  exact key ts _ _ hleaf (h3 k hk)

/-- What the rows of an owned slice lead to, without the slice's own block. -/
theorem own_rows {w : World} {lo hi e : Nat} {ts : List Ty} {ls : List (List Dat)} {u : Value} (h : Own w lo hi [.sl e ts] [.sl ls] [u]) : ∃ (rows : List (List Value)) (bss : List (List Nat)), SlAt ts.length w u rows ∧ rows.length = ls.length ∧ bss.length = ls.length ∧ (∀ k, k < ls.length → FpRow w ts (ls.getD k []) (rows.getD k []) (bss.getD k [])) ∧ bss.flatten.Nodup ∧ ∀ b ∈ bss.flatten, lo ≤ b ∧ b < hi := by
  obtain ⟨bs, p1, p2, p3⟩ := h.one
  simp only [Fp] at p1
  obtain ⟨rows, bss, q1, q2, q3, q4, q5, rfl⟩ := p1
  exact ⟨rows, bss, owns_SlAt q1 q4, q2, q3, q5, (List.nodup_append.1 p2).2.1, fun b hb => p3 b (List.mem_append.2 (.inr hb))⟩

theorem Own.empty (w : World) (base e : Nat) (ts : List Ty) (hb : base ≤ w.heap.size) : Own (w.alloc (.cells #[] e)) base (w.heap.size + 1) [.sl e ts] [.sl []] [.slice (some ⟨w.heap.size, 0, none⟩) 0 0] := by
  refine ⟨[w.heap.size], ?_, by simp, by simp; omega⟩
  simp only [FpRow, Fp]
  exact ⟨[w.heap.size], [], rfl, ⟨[], [], owns_empty w 0 e ts.length (Nat.zero_le _), rfl, rfl, by simp, by simp, by simp [Value.ownBlock]⟩, rfl⟩
theorem Own.nilSl (w : World) (lo hi e : Nat) (ts : List Ty) : Own w lo hi [.sl e ts] [.sl []] [.slice none 0 0] := by
  refine ⟨[], ?_, by simp, by simp⟩
  simp only [FpRow, Fp]
  exact ⟨[], [], rfl, ⟨[], [], World.ownsRow_nil _ _ _ _, rfl, rfl, by simp, by simp, by simp [Value.ownBlock]⟩, rfl⟩
/-- The object of a block. -/
def HasObj (w : World) (b : Nat) (x : Obj) : Prop := w.heap[b]? = some x
theorem HasObj.new {w : World} {x : Obj} {n : Nat} (h : n = w.heap.size) : HasObj (w.alloc x) n x := by subst h; exact heap_alloc_new w x
theorem HasObj.lt {w : World} {x : Obj} {n : Nat} (h : HasObj w n x) : n < w.heap.size := (Array.getElem?_eq_some_iff.1 h).1
theorem HasObj.old {w : World} {x o : Obj} {n : Nat} (h : HasObj w n x) : HasObj (w.alloc o) n x := (Below.heap_alloc w o n h.lt).trans h
theorem HasObj.drew {w : World} {x : Obj} {n : Nat} (h : HasObj w n x) : HasObj w.drew n x := h
theorem HasObj.below {w w' : World} {x : Obj} {n : Nat} (h : HasObj w n x) (hb : Below w.heap.size w w') : HasObj w' n x := (hb.block n h.lt).trans h
theorem HasObj.far {w w' : World} {x : Obj} {n g k c : Nat} (h : HasObj w n x) (ho : OnlyIn (fun b => (Value.slice (some ⟨g, 0, .none⟩) k c).ownBlock = some b) w w') (hne : n ≠ g) : HasObj w' n x :=
  (ho.block n h.lt (fun e => hne (Option.some.inj e).symm)).trans h
theorem Own.emptyAt {w : World} {b e : Nat} {ts : List Ty} (h : HasObj w b (.cells #[] e (0, 0))) : Own w b (b + 1) [.sl e ts] [.sl []] [.slice (some ⟨b, 0, none⟩) 0 0] := by
  refine ⟨[b], ?_, by simp, by simp⟩
  simp only [FpRow, Fp]
  refine ⟨[b], [], rfl, ⟨[], [], ?_, rfl, rfl, by simp, by simp, by simp [Value.ownBlock]⟩, rfl⟩
  exact ⟨by simp, .inr ⟨b, 0, #[], rfl, Nat.zero_le _, h, Nat.le_refl _, by decide, by simp, by simp⟩⟩
/-- Behind a step that may turn one block: cells and blocks elsewhere. -/
theorem OnlyIn.cells {g n c : Nat} {w w' : World} (h : OnlyIn (fun b => (Value.slice (some ⟨g, 0, none⟩) n c).ownBlock = some b) w w') : (∀ b o, b < w.heap.size → b ≠ g → w'.cell? ⟨b, o, none⟩ = w.cell? ⟨b, o, none⟩) ∧ (∀ b o, b < w.heap.size → b ≠ g → w'.frozen? ⟨b, o, none⟩ = w.frozen? ⟨b, o, none⟩) ∧ (∀ b, b < w.heap.size → b ≠ g → w'.heap[b]? = w.heap[b]?) := by
  have hs : ∀ b, b ≠ g → ¬ (Value.slice (some ⟨g, 0, none⟩) n c).ownBlock = some b := fun b hb e => hb (Option.some.inj e).symm
  exact ⟨fun b o hb hne => World.cell?_of_block (a := ⟨b, o, none⟩) (h.block b hb (hs b hne)), fun b o hb hne => World.frozen?_of_block (a := ⟨b, o, none⟩) (h.block b hb (hs b hne)), fun b hb hne => h.block b hb (hs b hne)⟩
end Go.Proofs.Ytemgpfojmdncjaa
