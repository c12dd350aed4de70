/-
  Data of whatever shape, in a walk: an element read, stored, marked. Over any program.
-/
import Derived.Test.YtemgpfojmdncjaaDat
namespace Go.Proofs.Ytemgpfojmdncjaa
set_option linter.unusedVariables false
set_option linter.unusedSimpArgs false
open Go.RowKit

theorem Rd.open {w : World} {e : Nat} {ts : List Ty} {ls : List (List Dat)} {v : Value} (h : Rd w (.sl e ts) (.sl ls) v) : ∃ (a : Option Addr) (cap : Nat), v = .slice a ls.length cap ∧ ls.length ≤ cap ∧ cap ≤ 9223372036854775807 ∧
    ∀ k, k < ls.length → ∃ b off row, a = some ⟨b, off, none⟩ ∧ b < w.heap.size ∧ (∀ i, i < ts.length → w.cell? ⟨b, off + (k * ts.length + i), none⟩ = some (row.getD i undef)) ∧ RdRow w ts (ls.getD k []) row := by
  simp only [Rd] at h
  obtain ⟨rows, ⟨a, cap, h1, h2, h3, h4, h5⟩, hl, hr⟩ := h
  rw [hl] at h1 h2
  refine ⟨a, cap, h1, h2, by unfold maxLen at h3; omega, fun k hk => ?_⟩
  rcases h5 with ⟨h5, _⟩ | ⟨b, off, h5, h6, h7⟩
  · simp [h5] at hl; omega
  · exact ⟨b, off, rows.getD k [], h5, h6, fun i hi => h7 k (by omega) i hi, hr k hk⟩

theorem Rd.nil_of {w : World} {e : Nat} {ts : List Ty} {ls : List (List Dat)} {n cap : Nat} (h : Rd w (.sl e ts) (.sl ls) (.slice none n cap)) : ls = [] ∧ cap = 0 := by
  simp only [Rd] at h
  obtain ⟨rows, ⟨a, c, h1, h2, h3, h4, h5⟩, hl, hr⟩ := h
  simp at h1
  obtain ⟨rfl, rfl, rfl⟩ := h1
  rcases h5 with ⟨rfl, h5⟩ | ⟨b, off, h5, _⟩
  · exact ⟨List.eq_nil_of_length_eq_zero (by simpa using hl.symm), h5 rfl⟩
  · simp at h5

/-! Cells stored side by side. -/
def stN (w : World) (g : Nat) : Nat → List Value → World
  | _, [] => w
  | o, c :: cs => stN (w.setCell ⟨g, o, none⟩ c) g (o + 1) cs
theorem stN_only (g : Nat) : ∀ (cs : List Value) (w : World) (o : Nat), OnlyIn (fun b => b = g) w (stN w g o cs)
  | [], _, _ => OnlyIn.refl _ _
  | c :: cs, w, o => (OnlyIn.setCell (S := fun b => b = g) (OnlyIn.refl _ w) (p := ⟨g, o, none⟩) rfl c).trans (stN_only g cs _ _)
theorem stN_size (g : Nat) : ∀ (cs : List Value) (w : World) (o : Nat), (stN w g o cs).heap.size = w.heap.size
  | [], w, o => rfl
  | c :: cs, w, o => by rw [stN, stN_size g cs]; simp [World.setCell]
theorem stN_owns {base e size g n cap : Nat} : ∀ (cs : List Value) (w : World) (o : Nat) (xs : List Value), w.ownsRow base e size (.slice (some ⟨g, 0, none⟩) n cap) n xs → o + cs.length ≤ xs.length →
    (stN w g o cs).ownsRow base e size (.slice (some ⟨g, 0, none⟩) n cap) n (xs.take o ++ cs ++ xs.drop (o + cs.length))
  | [], w, o, xs, h, hl => by simpa [stN] using h
  | c :: cs, w, o, xs, h, hl => by
    have h1 := stN_owns cs _ (o + 1) _ (h.stored o c).1 (by simp at hl ⊢; omega)
    simp only [stN]
    have e : (xs.set o c).take (o + 1) ++ cs ++ (xs.set o c).drop (o + 1 + cs.length) = xs.take o ++ (c :: cs) ++ xs.drop (o + (c :: cs).length) := by
      simp only [List.length_cons] at hl ⊢
      rw [List.take_succ_eq_append_getElem (by simp; omega), List.take_set_of_le (Nat.le_refl _), List.drop_set_of_lt (by omega)]
      simp [Nat.add_comm, Nat.add_left_comm]
    rw [e] at h1
    exact h1

/-- The first k rows of a slice of the call's own are made. -/
def Part (w : World) (base e : Nat) (ts : List Ty) (v : Value) (len k : Nat) (ls : List (List Dat)) : Prop :=
  ∃ (rows : List (List Value)) (bss : List (List Nat)) (xs : List Value), w.ownsRow base e ts.length v len xs ∧ rows.length = k ∧ bss.length = k ∧ xs.take (k * ts.length) = rows.flatten ∧ (∀ r ∈ rows, r.length = ts.length) ∧
    (∀ j, j < k → FpRow w ts (ls.getD j []) (rows.getD j []) (bss.getD j [])) ∧ (v.ownBlock.toList ++ bss.flatten).Nodup ∧ ∀ b ∈ bss.flatten, base ≤ b ∧ b < w.heap.size
theorem Part.zero {w : World} {base e : Nat} {ts : List Ty} {v : Value} {len : Nat} {ls : List (List Dat)} {xs : List Value} (h : w.ownsRow base e ts.length v len xs) : Part w base e ts v len 0 ls :=
  ⟨[], [], xs, h, rfl, rfl, by simp, by simp, fun j hj => by omega, by cases v.ownBlock <;> simp, by simp⟩
theorem Part.below {w w' : World} {base e : Nat} {ts : List Ty} {v : Value} {len k : Nat} {ls : List (List Dat)} (h : Part w base e ts v len k ls) (hb : Below w.heap.size w w') : Part w' base e ts v len k ls := by
  obtain ⟨rows, bss, xs, h1, h2, h3, h4, h5, h6, h7, h8⟩ := h
  exact ⟨rows, bss, xs, ownsRow_below h1 hb, h2, h3, h4, h5, fun j hj => (h6 j hj).below hb, h7, fun b hb' => ⟨(h8 b hb').1, Nat.lt_of_lt_of_le (h8 b hb').2 hb.size⟩⟩
theorem Part.owns {w : World} {base e : Nat} {ts : List Ty} {v : Value} {len k : Nat} {ls : List (List Dat)} (h : Part w base e ts v len k ls) : ∃ xs, w.ownsRow base e ts.length v len xs := by
  obtain ⟨rows, bss, xs, h1, _⟩ := h; exact ⟨xs, h1⟩
theorem getD_snoc_lt {α : Type} {l : List α} {x d : α} {j : Nat} (h : j < l.length) : (l ++ [x]).getD j d = l.getD j d := by simp [List.getD, List.getElem?_append_left h]
theorem getD_snoc_eq {α : Type} {l : List α} {x d : α} {j : Nat} (h : j = l.length) : (l ++ [x]).getD j d = x := by simp [List.getD, h]
/-- One row more: made in memory of its own, stored. -/
theorem Part.step {w0 w : World} {base e : Nat} {ts : List Ty} {g cap len k : Nat} {ls : List (List Dat)} {cs : List Value} (h : Part w0 base e ts (.slice (some ⟨g, 0, none⟩) len cap) len k ls) (hb : Below w0.heap.size w0 w) (hk : k < len)
    (hc : Own w w0.heap.size w.heap.size ts (ls.getD k []) cs) (hbase : base ≤ w0.heap.size) : Part (stN w g (k * ts.length) cs) base e ts (.slice (some ⟨g, 0, none⟩) len cap) len (k + 1) ls := by
  obtain ⟨rows, bss, xs, h1, h2, h3, h4, h5, h6, h7, h8⟩ := h
  obtain ⟨bs, p1, p2, p3⟩ := hc
  have hg : g < w0.heap.size := (World.ownsRow.lt h1 g rfl).2
  have hcl := (RdRow.lens _ _ _ (FpRow.rd _ _ _ _ p1)).2
  have hxl : xs.length = len * ts.length := h1.1
  have hkl : k * ts.length + ts.length ≤ xs.length := by
    rw [hxl]; have := Nat.mul_le_mul_right ts.length (show k + 1 ≤ len from hk); rw [Nat.add_mul] at this; omega
  have o1 := stN_owns cs w (k * ts.length) xs (ownsRow_below h1 hb) (by omega)
  have ho := stN_only g cs w (k * ts.length)
  have hnd := h7
  simp only [Value.ownBlock, Option.toList_some, List.singleton_append, List.nodup_cons] at hnd
  refine ⟨rows ++ [cs], bss ++ [bs], _, o1, by simp [h2], by simp [h3], ?_, ?_, ?_, ?_, ?_⟩
  · rw [Nat.add_mul, Nat.one_mul, List.take_append, List.take_of_length_le (by simp; omega)]
    simp only [List.length_append, List.length_take, List.flatten_append, List.flatten_cons, List.flatten_nil, List.append_nil]
    rw [Nat.min_eq_left (by omega), h4, hcl, Nat.sub_self, List.take_zero, List.append_nil]
  · intro r hr
    rcases List.mem_append.1 hr with hr | hr
    · exact h5 r hr
    · simp at hr; subst hr; exact hcl
  · intro j hj
    by_cases hjk : j < k
    · rw [getD_snoc_lt (by omega), getD_snoc_lt (by omega)]
      refine FpRow.only ho _ _ _ _ ((h6 j hjk).below hb) (fun b hb' e => ?_)
      subst e
      exact hnd.1 (getD_mem_flatten hb')
    · obtain rfl : j = k := by omega
      rw [getD_snoc_eq h2.symm, getD_snoc_eq h3.symm]
      refine FpRow.only ho _ _ _ _ p1 (fun b hb' e => ?_)
      have := p3 b hb'; omega
  · simp only [Value.ownBlock, Option.toList_some, List.singleton_append, List.flatten_append, List.flatten_cons, List.flatten_nil, List.append_nil, List.nodup_cons]
    refine ⟨fun hm => ?_, List.nodup_append.2 ⟨hnd.2, p2, fun a ha b hb' e => ?_⟩⟩
    · rcases List.mem_append.1 hm with hm | hm
      · exact hnd.1 hm
      · have := p3 g hm; omega
    · have := (h8 a ha).2; have := p3 b hb'; omega
  · intro b hb'
    simp only [List.flatten_append, List.flatten_cons, List.flatten_nil, List.append_nil] at hb'
    rw [stN_size]
    rcases List.mem_append.1 hb' with hb' | hb'
    · have := h8 b hb'; have := hb.size; omega
    · have := p3 b hb'; omega
theorem Part.done {w : World} {base e : Nat} {ts : List Ty} {v : Value} {k : Nat} {ls : List (List Dat)} (h : Part w base e ts v ls.length k ls) (hk : k = ls.length) : Own w base w.heap.size [.sl e ts] [.sl ls] [v] := by
  obtain ⟨rows, bss, xs, h1, h2, h3, h4, h5, h6, h7, h8⟩ := h
  subst hk
  have hx : xs = rows.flatten := by rw [← h4, List.take_of_length_le (by have := h1.1; omega)]
  subst hx
  refine ⟨v.ownBlock.toList ++ bss.flatten, ?_, h7, fun b hb => ?_⟩
  · simp only [FpRow, Fp]
    refine ⟨_, [], (List.append_nil _).symm, ⟨rows, bss, ?_, h2, h3, h5, h6, rfl⟩, rfl⟩
    rw [h2]; exact ⟨h1.1, h1.2.imp id (fun ⟨g, cap, cur, a, _, r⟩ => ⟨g, cap, cur, a, Nat.zero_le _, r⟩)⟩
  · rcases List.mem_append.1 hb with hb | hb
    · exact World.ownsRow.lt h1 b (by simpa using hb)
    · exact h8 b hb

/-! Marks. -/
theorem nodup_sub {bss : List (List Nat)} (h : bss.flatten.Nodup) : ∀ k, (bss.getD k []).Nodup := fun k => by
  by_cases hk : k < bss.length
  · have : bss.getD k [] = bss[k] := by simp [List.getD, hk]
    rw [this]
    exact (List.pairwise_flatten.1 h).1 _ (List.getElem_mem hk)
  · simp [List.getD, show bss[k]? = none from List.getElem?_eq_none (by omega)]
theorem nodup_disj {bss : List (List Nat)} (h : bss.flatten.Nodup) {i j b : Nat} (hne : i ≠ j) (hi : b ∈ bss.getD i []) (hj : b ∈ bss.getD j []) : False := by
  have hi' : i < bss.length := by
    rcases Nat.lt_or_ge i bss.length with h | h
    · exact h
    · simp [List.getD, List.getElem?_eq_none h] at hi
  have hj' : j < bss.length := by
    rcases Nat.lt_or_ge j bss.length with h | h
    · exact h
    · simp [List.getD, List.getElem?_eq_none h] at hj
  have hp := (List.pairwise_flatten.1 h).2
  rw [List.pairwise_iff_getElem] at hp
  have ei : bss.getD i [] = bss[i] := by simp [List.getD, hi']
  have ej : bss.getD j [] = bss[j] := by simp [List.getD, hj']
  rw [ei] at hi
  rw [ej] at hj
  rcases Nat.lt_or_gt_of_ne hne with hlt | hlt
  · exact hp i j hi' hj' hlt b hi b hj rfl
  · exact hp j i hj' hi' hlt b hj b hi rfl

/-- One part of a row may be turned, in its own blocks. -/
theorem FpRow.range {w : World} {t1 t2 t3 : List Ty} {d1 d2 d3 : List Dat} {v1 v2 v3 : List Value} {bs : List Nat} (h : FpRow w (t1 ++ t2 ++ t3) (d1 ++ d2 ++ d3) (v1 ++ v2 ++ v3) bs) (hn : bs.Nodup) (l1 : d1.length = t1.length) (l1' : v1.length = t1.length) (l2 : d2.length = t2.length) (l2' : v2.length = t2.length) :
    ∃ b2, FpRow w t2 d2 v2 b2 ∧ b2.Nodup ∧ (∀ b ∈ b2, b ∈ bs) ∧ ∀ w' d2', OnlyIn (fun b => b ∈ b2) w w' → FpRow w' t2 d2' v2 b2 → FpRow w' (t1 ++ t2 ++ t3) (d1 ++ d2' ++ d3) (v1 ++ v2 ++ v3) bs := by
  have split : ∀ (t1 : List Ty) {t2 : List Ty} (d1 : List Dat) {d2 : List Dat} (v1 : List Value) {v2 : List Value} (bs : List Nat), d1.length = t1.length → v1.length = t1.length → FpRow w (t1 ++ t2) (d1 ++ d2) (v1 ++ v2) bs → ∃ b1 b2, bs = b1 ++ b2 ∧ FpRow w t1 d1 v1 b1 ∧ FpRow w t2 d2 v2 b2 := by
    intro t1
    induction t1 with
    | nil =>
      intro t2 d1 d2 v1 v2 bs hd hv h
      obtain rfl := List.eq_nil_of_length_eq_zero hd
      obtain rfl := List.eq_nil_of_length_eq_zero hv
      exact ⟨[], bs, rfl, rfl, h⟩
    | cons t ts ih =>
      intro t2 d1 d2 v1 v2 bs hd hv h
      match d1, v1, hd, hv with
      | d :: ds, v :: vs, hd, hv =>
        simp only [List.cons_append, FpRow] at h ⊢
        obtain ⟨c1, c2, rfl, p1, p2⟩ := h
        obtain ⟨e1, e2, rfl, q1, q2⟩ := ih ds vs c2 (by simpa using hd) (by simpa using hv) p2
        exact ⟨c1 ++ e1, e2, by simp, ⟨c1, e1, rfl, p1, q1⟩, q2⟩
  obtain ⟨c, b3, rfl, h12, h3⟩ := split _ _ _ _ (by simp [l1, l2]) (by simp [l1', l2']) h
  obtain ⟨b1, b2, rfl, h1, h2⟩ := split _ _ _ _ l1 l1' h12
  have hn' := List.nodup_append.1 hn
  have hn2 := List.nodup_append.1 hn'.1
  refine ⟨b2, h2, hn2.2.1, fun b hb => by simp [hb], fun w' d2' ho h2' => ?_⟩
  exact FpRow.append _ _ _ _ (FpRow.append _ _ _ _ (FpRow.only ho _ _ _ _ h1 (fun b hb hb2 => hn2.2.2 b hb b hb2 rfl)) h2') (FpRow.only ho _ _ _ _ h3 (fun b hb hb2 => hn'.2.2 b (by simp [hb2]) b hb rfl))

/-- One row of a slice may be turned: its cells, and what they lead to. -/
theorem Fp.row {w : World} {e : Nat} {ts : List Ty} {L : List (List Dat)} {g len cap : Nat} {bs : List Nat} {j : Nat} (h : Fp w (.sl e ts) (.sl L) (.slice (some ⟨g, 0, none⟩) len cap) bs) (hn : bs.Nodup) (hj : j < L.length) :
    ∃ row bj, (∀ i, i < ts.length → w.cell? ⟨g, j * ts.length + i, none⟩ = some (row.getD i undef)) ∧ (∀ i, w.frozen? ⟨g, i, none⟩ = false) ∧ FpRow w ts (L.getD j []) row bj ∧ bj.Nodup ∧ (∀ b ∈ bj, b ∈ bs) ∧ g ∈ bs ∧ g ∉ bj ∧
      (∀ w' row' ld', OnlyIn (fun b => b ∈ bj) (stN w g (j * ts.length) row') w' → FpRow w' ts ld' row' bj → Fp w' (.sl e ts) (.sl (L.set j ld')) (.slice (some ⟨g, 0, none⟩) len cap) bs) := by
  simp only [Fp] at h
  obtain ⟨rows, bss, h1, h2, h3, h4, h5, rfl⟩ := h
  have hn' := hn
  simp only [Value.ownBlock, Option.toList_some, List.singleton_append, List.nodup_cons] at hn'
  have hsl : len = rows.length := by
    rcases h1.2 with ⟨h, _⟩ | ⟨g', cap', cur, h, _⟩
    · simp at h
    · simp at h; exact h.2.1
  subst hsl
  have hrl : (rows.getD j []).length = ts.length := h4 _ (by simp [List.getD, show j < rows.length by omega])
  have hxl : rows.flatten.length = rows.length * ts.length := h1.1
  have hjl : j * ts.length + ts.length ≤ rows.length * ts.length := by
    have := Nat.mul_le_mul_right ts.length (show j + 1 ≤ rows.length by omega); rw [Nat.add_mul] at this; omega
  refine ⟨rows.getD j [], bss.getD j [], fun i hi => ?_, fun i => h1.frozenAt i, h5 j hj, nodup_sub hn'.2 j, fun b hb => ?_, by simp [Value.ownBlock], fun hb => hn'.1 (getD_mem_flatten hb), ?_⟩
  · rw [h1.cellAt _ (by omega)]
    have := flatten_get rows ts.length h4 (j * ts.length + i) (by rw [Nat.mul_comm, Nat.mul_add_div (by omega), Nat.div_eq_of_lt hi]; omega) (Nat.mod_lt _ (by omega))
    rw [this, Nat.mul_comm, Nat.mul_add_div (by omega), Nat.div_eq_of_lt hi, Nat.mul_add_mod, Nat.mod_eq_of_lt hi, Nat.add_zero]
  · exact List.mem_append.2 (.inr (getD_mem_flatten hb))
  · intro w' row' ld' ho hf
    have hrl' := (RdRow.lens _ _ _ (FpRow.rd _ _ _ _ hf)).2
    have ho2 : OnlyIn (fun b => b = g ∨ b ∈ bss.getD j []) w w' := ((stN_only g row' w (j * ts.length)).mono (fun b hb => .inl hb)).trans (ho.mono (fun b hb => .inr hb))
    simp only [Fp]
    refine ⟨rows.set j row', bss, ?_, by simp [h2], by simp [h3], ?_, ?_, rfl⟩
    · have o1 := stN_owns row' w (j * ts.length) rows.flatten h1 (by omega)
      have o2 := owns_only o1 ho (fun k hk hb => by simp [Value.ownBlock] at hk; subst hk; exact hn'.1 (getD_mem_flatten hb))
      have e : rows.flatten.take (j * ts.length) ++ row' ++ rows.flatten.drop (j * ts.length + row'.length) = (rows.set j row').flatten := by
        have key : ∀ (rows : List (List Value)) (j : Nat), (∀ r ∈ rows, r.length = ts.length) → j < rows.length → rows.flatten.take (j * ts.length) ++ row' ++ rows.flatten.drop (j * ts.length + row'.length) = (rows.set j row').flatten := by
          intro rows
          induction rows with
          | nil => intro j _ hj; simp at hj
          | cons x r ih =>
            intro j hr hj
            have hx := hr x (by simp)
            cases j with
            | zero => simp [hrl', hx]
            | succ j =>
              have := ih j (fun q hq => hr q (by simp [hq])) (by simpa using hj)
              simp only [List.flatten_cons, List.set_cons_succ, ← this]
              rw [List.take_append, List.drop_append, List.take_of_length_le (by rw [hx, Nat.add_mul]; omega), List.drop_of_length_le (by rw [hx, Nat.add_mul]; omega)]
              have e1 : (j + 1) * ts.length - x.length = j * ts.length := by rw [hx, Nat.add_mul]; omega
              have e2 : (j + 1) * ts.length + row'.length - x.length = j * ts.length + row'.length := by rw [hx, Nat.add_mul]; omega
              rw [e1, e2]
              simp
        exact key rows j h4 (by omega)
      rw [e] at o2
      simpa using o2
    · intro r hr
      rcases List.mem_or_eq_of_mem_set hr with hr | hr
      · exact h4 r hr
      · rw [hr]; exact hrl'
    · intro k hk
      have hk' : k < L.length := by simpa using hk
      by_cases hkj : j = k
      · subst hkj
        have e1 : (L.set j ld').getD j [] = ld' := by simp [List.getD, hj]
        have e2 : (rows.set j row').getD j [] = row' := by simp [List.getD, show j < rows.length by omega]
        rw [e1, e2]; exact hf
      · have e1 : (L.set j ld').getD k [] = L.getD k [] := by simp [List.getD, hkj]
        have e2 : (rows.set j row').getD k [] = rows.getD k [] := by simp [List.getD, hkj]
        rw [e1, e2]
        refine FpRow.only ho2 _ _ _ _ (h5 k hk') (fun b hb hb' => ?_)
        rcases hb' with rfl | hb'
        · exact hn'.1 (getD_mem_flatten hb)
        · exact nodup_disj hn'.2 hkj hb' hb
end Go.Proofs.Ytemgpfojmdncjaa
