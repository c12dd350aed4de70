/-
  Data of whatever shape, in a walk: one cell of an element stored, what one cell leads to turned; a datum taken apart. Over any program.
-/
import Derived.Test.YtemgpfojmdncjaaDatW
namespace Go.Proofs.Ytemgpfojmdncjaa
set_option linter.unusedVariables false
set_option linter.unusedSimpArgs false
open Go.RowKit

theorem Rd.int_inv {w : World} {d : Dat} {v : Value} (h : Rd w .int d v) : ∃ n, d = .int n ∧ v = .int .i64 n := by
  cases d <;> simp [Rd] at h
  exact ⟨_, rfl, h⟩
theorem Rd.bool_inv {w : World} {d : Dat} {v : Value} (h : Rd w .bool d v) : ∃ b, d = .bool b ∧ v = .bool b := by
  cases d <;> simp [Rd] at h
  exact ⟨_, rfl, h⟩
theorem Rd.str_inv {w : World} {d : Dat} {v : Value} (h : Rd w .str d v) : ∃ s, d = .str s ∧ v = .string s := by
  cases d <;> simp [Rd] at h
  exact ⟨_, rfl, h⟩
theorem Rd.sl_inv {w : World} {e : Nat} {ts : List Ty} {d : Dat} {v : Value} (h : Rd w (.sl e ts) d v) : ∃ l a c, d = .sl l ∧ v = .slice a l.length c ∧ l.length ≤ c ∧ c ≤ 9223372036854775807 ∧ Rd w (.sl e ts) (.sl l) (.slice a l.length c) := by
  cases d with
  | sl l =>
    obtain ⟨a, c, rfl, h1, h2, _⟩ := h.open
    exact ⟨l, a, c, rfl, rfl, h1, h2, h⟩
  | _ => simp [Rd] at h
theorem RdRow.cons_inv {w : World} {t : Ty} {ts : List Ty} {ds : List Dat} {vs : List Value} (h : RdRow w (t :: ts) ds vs) : ∃ d ds' v vs', ds = d :: ds' ∧ vs = v :: vs' ∧ Rd w t d v ∧ RdRow w ts ds' vs' := by
  match ds, vs, h with
  | d :: ds', v :: vs', h => simp only [RdRow] at h; exact ⟨d, ds', v, vs', rfl, rfl, h.1, h.2⟩
  | [], _, h => simp [RdRow] at h
  | _ :: _, [], h => simp [RdRow] at h
theorem RdRow.nil_inv {w : World} {ds : List Dat} {vs : List Value} (h : RdRow w [] ds vs) : ds = [] ∧ vs = [] := by
  cases ds <;> cases vs <;> simp [RdRow] at h ⊢
theorem RdRow.app {w : World} : ∀ (ts : List Ty) {ts' : List Ty} (ds : List Dat) {ds' : List Dat} (vs : List Value) {vs' : List Value}, RdRow w ts ds vs → RdRow w ts' ds' vs' → RdRow w (ts ++ ts') (ds ++ ds') (vs ++ vs')
  | [], ts', ds, ds', vs, vs', h, h' => by obtain ⟨rfl, rfl⟩ := RdRow.nil_inv h; exact h'
  | t :: ts, ts', ds, ds', vs, vs', h, h' => by
    obtain ⟨d, ds, v, vs, rfl, rfl, h1, h2⟩ := RdRow.cons_inv h
    simp only [List.cons_append, RdRow]
    exact ⟨h1, RdRow.app ts ds vs h2 h'⟩

theorem setCell_self {w : World} {b o : Nat} {v : Value} (h : w.cell? ⟨b, o, none⟩ = some v) : w.setCell ⟨b, o, none⟩ v = w := by
  have hh : (w.setCell ⟨b, o, none⟩ v).heap = w.heap := by
    apply Array.ext_getElem?
    intro i
    simp only [World.setCell, Array.getElem?_modify]
    split
    · rename_i e
      subst e
      simp only [World.cell?] at h
      cases hb : w.heap[b]? with
      | none => rfl
      | some x =>
        rw [hb] at h
        cases x <;> simp at h ⊢
        rename_i c e' f
        have ho : o < c.size := by
          rcases Nat.lt_or_ge o c.size with h' | h'
          · exact h'
          · simp [Array.getElem?_eq_none h'] at h
        apply Array.ext_getElem?
        intro k
        rw [Array.getElem?_setIfInBounds]
        split
        · rename_i e2; subst e2; simp [ho, ← h]
        · rfl
    · rfl
  have : w.setCell ⟨b, o, none⟩ v = { w with heap := (w.setCell ⟨b, o, none⟩ v).heap } := rfl
  rw [this, hh]

theorem stN_self (g : Nat) : ∀ (cs : List Value) (w : World) (o : Nat), (∀ i, i < cs.length → w.cell? ⟨g, o + i, none⟩ = cs[i]?) → stN w g o cs = w
  | [], _, _, _ => rfl
  | c :: cs, w, o, h => by
    have h0 : w.cell? ⟨g, o, none⟩ = some c := by simpa using h 0 (by simp)
    rw [stN, setCell_self h0]
    refine stN_self g cs w (o + 1) fun i hi => ?_
    have := h (i + 1) (by simpa using hi)
    simpa [Nat.add_assoc, Nat.add_comm 1] using this
theorem stN_set (g : Nat) : ∀ (cs : List Value) (w : World) (o i : Nat) (c : Value), (∀ i, i < cs.length → w.cell? ⟨g, o + i, none⟩ = cs[i]?) → i < cs.length → stN w g o (cs.set i c) = w.setCell ⟨g, o + i, none⟩ c
  | [], _, _, _, _, _, hi => by simp at hi
  | c0 :: cs, w, o, 0, c, h, _ => by
    simp only [List.set_cons_zero, stN, Nat.add_zero]
    refine stN_self g cs _ _ fun i hi => ?_
    have := h (i + 1) (by simpa using hi)
    rw [World.cell?_setCell_other _ _ _ _ (by simp)]
    simpa [Nat.add_assoc, Nat.add_comm 1] using this
  | c0 :: cs, w, o, i + 1, c, h, hi => by
    have h0 : w.cell? ⟨g, o, none⟩ = some c0 := by simpa using h 0 (by simp)
    simp only [List.set_cons_succ, stN]
    rw [setCell_self h0, stN_set g cs w (o + 1) i c (fun i hi => ?_) (by simpa using hi)]
    · rw [Nat.add_assoc, Nat.add_comm 1]
    · have := h (i + 1) (by simpa using hi)
      simpa [Nat.add_assoc, Nat.add_comm 1] using this

/-- No memory hangs on it. -/
def Ty.leaf : Ty → Bool
  | .sl _ _ => false
  | _ => true
theorem Fp.leaf_nil {w : World} {t : Ty} {d : Dat} {v : Value} {bs : List Nat} (h : Fp w t d v bs) (hl : t.leaf = true) : bs = [] := by
  cases t <;> cases d <;> simp [Fp, Ty.leaf] at h hl <;> exact h.2
theorem FpRow.setLeaf {w : World} {d' : Dat} {c : Value} : ∀ (ts : List Ty) (ds : List Dat) (vs : List Value) (bs : List Nat) (i : Nat), FpRow w ts ds vs bs → i < ts.length → (ts.getD i .int).leaf = true → Fp w (ts.getD i .int) d' c [] → FpRow w ts (ds.set i d') (vs.set i c) bs
  | [], _, _, _, _, _, hi, _, _ => by simp at hi
  | t :: ts, [], _, _, _, h, _, _, _ => by simp [FpRow] at h
  | t :: ts, _ :: _, [], _, _, h, _, _, _ => by simp [FpRow] at h
  | t :: ts, d :: ds, v :: vs, bs, 0, h, _, hl, hf => by
    simp only [List.getD_cons_zero, List.set_cons_zero, FpRow] at *
    obtain ⟨b1, b2, rfl, h1, h2⟩ := h
    obtain rfl := h1.leaf_nil hl
    exact ⟨[], b2, rfl, hf, h2⟩
  | t :: ts, d :: ds, v :: vs, bs, i + 1, h, hi, hl, hf => by
    simp only [List.getD_cons_succ, List.set_cons_succ, FpRow] at *
    obtain ⟨b1, b2, rfl, h1, h2⟩ := h
    exact ⟨b1, b2, rfl, h1, FpRow.setLeaf ts ds vs b2 i h2 (by simpa using hi) hl hf⟩

theorem set_getD_self {L : List (List Dat)} {j : Nat} : L.set j (L.getD j []) = L := by
  by_cases hj : j < L.length
  · simp [List.getD, hj]
  · simp [List.set_eq_of_length_le (Nat.le_of_not_lt hj)]
theorem getD_set_self {L : List (List Dat)} {j : Nat} {x : List Dat} (hj : j < L.length) : (L.set j x).getD j [] = x := by simp [List.getD, hj]

/-- A number or a truth value of row j is written. -/
theorem Fp.leafAt {w : World} {e : Nat} {ts : List Ty} {L : List (List Dat)} {ld : List Dat} {g len cap j : Nat} {bs : List Nat} (h : Fp w (.sl e ts) (.sl (L.set j ld)) (.slice (some ⟨g, 0, none⟩) len cap) bs) (hn : bs.Nodup) (hj : j < L.length) (i : Nat) (hi : i < ts.length)
    (hl : (ts.getD i .int).leaf = true) (d' : Dat) (c : Value) (hf : ∀ w', Fp w' (ts.getD i .int) d' c []) : Fp (w.setCell ⟨g, j * ts.length + i, none⟩ c) (.sl e ts) (.sl (L.set j (ld.set i d'))) (.slice (some ⟨g, 0, none⟩) len cap) bs := by
  obtain ⟨row, bj, h1, h2, h3, h4, h5, h6, h7, h8⟩ := Fp.row h hn (j := j) (by simpa using hj)
  rw [getD_set_self hj] at h3
  have hrl := (RdRow.lens _ _ _ (FpRow.rd _ _ _ _ h3)).2
  have hst := stN_set g row w (j * ts.length) i c (fun i hi => by rw [h1 i (by omega)]; simp [List.getD, hi]) (by omega)
  have h9 := h8 (w.setCell ⟨g, j * ts.length + i, none⟩ c) (row.set i c) (ld.set i d') (by rw [hst]; exact OnlyIn.refl _ _) ?_
  · rwa [List.set_set] at h9
  · refine FpRow.setLeaf ts ld row bj i (FpRow.only (S := fun b => b = g) ((OnlyIn.refl _ w).setCell (S := fun b => b = g) rfl c) _ _ _ _ h3 (fun b hb hbg => h7 (hbg ▸ hb))) hi hl (hf _)

/-- What one cell of row j leads to may be turned. -/
theorem Fp.nestedAt {w : World} {e : Nat} {ts : List Ty} {L : List (List Dat)} {g len cap j : Nat} {bs : List Nat} (t1 : List Ty) (t : Ty) (t3 : List Ty) (d1 : List Dat) (d : Dat) (d3 : List Dat) (h : Fp w (.sl e ts) (.sl (L.set j (d1 ++ [d] ++ d3))) (.slice (some ⟨g, 0, none⟩) len cap) bs) (hn : bs.Nodup) (hj : j < L.length)
    (ht : ts = t1 ++ [t] ++ t3) (hd : d1.length = t1.length) : ∃ c b2, w.cell? ⟨g, j * ts.length + t1.length, none⟩ = some c ∧ Fp w t d c b2 ∧ b2.Nodup ∧ (∀ b ∈ b2, b ∈ bs) ∧
      ∀ w' d', OnlyIn (fun b => b ∈ b2) w w' → Fp w' t d' c b2 → Fp w' (.sl e ts) (.sl (L.set j (d1 ++ [d'] ++ d3))) (.slice (some ⟨g, 0, none⟩) len cap) bs := by
  obtain ⟨row, bj, h1, h2, h3, h4, h5, h6, h7, h8⟩ := Fp.row h hn (j := j) (by simpa using hj)
  rw [getD_set_self hj] at h3
  have hlens := RdRow.lens _ _ _ (FpRow.rd _ _ _ _ h3)
  have hrl := hlens.2
  have htl : ts.length = t1.length + 1 + t3.length := by rw [ht]; simp; omega
  obtain ⟨v1, v, v3, rfl, hv1⟩ : ∃ v1 v v3, row = v1 ++ [v] ++ v3 ∧ v1.length = t1.length := by
    refine ⟨row.take t1.length, row.getD t1.length undef, row.drop (t1.length + 1), ?_, by simp; omega⟩
    have : t1.length < row.length := by omega
    have e1 : row.drop t1.length = row.getD t1.length undef :: row.drop (t1.length + 1) := by
      rw [List.drop_eq_getElem_cons this]; simp [List.getD, this]
    rw [List.append_assoc, List.singleton_append, ← e1, List.take_append_drop]
  rw [ht] at h3
  obtain ⟨b2, p1, p2, p3, p4⟩ := FpRow.range h3 h4 hd hv1 rfl rfl
  simp only [FpRow] at p1
  obtain ⟨c1, c2, rfl, p1, rfl⟩ := p1
  rw [List.append_nil] at p2 p3 p4
  refine ⟨v, c1, ?_, p1, p2, fun b hb => h5 b (p3 b hb), fun w' d' ho hf => ?_⟩
  · rw [h1 _ (by omega)]
    simp [List.getD, hv1]
  · have hst := stN_self g (v1 ++ [v] ++ v3) w (j * ts.length) (fun i hi => by rw [h1 i (by omega)]; simp only [List.getD, List.getElem?_eq_getElem hi, Option.getD_some])
    have h9 := h8 w' (v1 ++ [v] ++ v3) (d1 ++ [d'] ++ d3) (by rw [hst]; exact ho.mono (fun b hb => p3 b hb)) ?_
    · rwa [List.set_set] at h9
    · rw [ht]
      exact p4 w' [d'] ho ⟨c1, [], by simp, hf, rfl⟩

theorem Own.leaf {w : World} {lo hi : Nat} {t : Ty} {d : Dat} {v : Value} (h : Fp w t d v []) : Own w lo hi [t] [d] [v] := ⟨[], ⟨[], [], rfl, h, rfl⟩, List.nodup_nil, by simp⟩

theorem szRows_leaf {ls : List (List Dat)} (h : ∀ k, k < ls.length → szRow (ls.getD k []) = 0) : szRows ls = 0 := by
  induction ls with
  | nil => rfl
  | cons x r ih =>
    have h0 := h 0 (by simp)
    have h1 := ih fun k hk => by simpa using h (k + 1) (by simpa using hk)
    simp at h0
    simp [szRows, h0, h1]
theorem mkRows_getD (k : Int) (ls : List (List Dat)) (j : Nat) (hj : j < ls.length) : (mkRows k ls).getD j [] = mkRow (k + cntRows (ls.take j)) (ls.getD j []) := by
  induction ls generalizing k j with
  | nil => simp at hj
  | cons x r ih =>
    cases j with
    | zero => simp [mkRows, cntRows]
    | succ j => simpa [mkRows, cntRows, Int.add_assoc] using ih (k + cntRow x) j (by simpa using hj)
theorem RdRow.mk_cons {w : World} {t : Ty} {ts : List Ty} {d : Dat} {ds : List Dat} {v : Value} {vs : List Value} (h : Rd w t d v) (hs : RdRow w ts ds vs) : RdRow w (t :: ts) (d :: ds) (v :: vs) := by
  simp only [RdRow]; exact ⟨h, hs⟩
theorem RdRow.mk_nil {w : World} : RdRow w [] [] [] := by simp only [RdRow]
theorem Rd.mk_int {w : World} (n : Int) : Rd w .int (.int n) (.int .i64 n) := by simp only [Rd]
theorem Rd.mk_bool {w : World} (b : Bool) : Rd w .bool (.bool b) (.bool b) := by simp only [Rd]
theorem Rd.mk_str {w : World} (s : ByteArray) : Rd w .str (.str s) (.string s) := by simp only [Rd]
theorem Fp.mk_int {w : World} (n : Int) : Fp w .int (.int n) (.int .i64 n) [] := by simp [Fp]
theorem Fp.mk_bool {w : World} (b : Bool) : Fp w .bool (.bool b) (.bool b) [] := by simp [Fp]
theorem Fp.mk_str {w : World} (s : ByteArray) : Fp w .str (.str s) (.string s) [] := by simp [Fp]
/-- The second reading of a datum that is written out. -/
theorem RdRow.cons2 {w : World} {t : Ty} {ts : List Ty} {d : Dat} {ds : List Dat} {vs : List Value} (h : RdRow w (t :: ts) (d :: ds) vs) : ∃ v vs', vs = v :: vs' ∧ Rd w t d v ∧ RdRow w ts ds vs' := by
  match vs, h with
  | v :: vs', h => simp only [RdRow] at h; exact ⟨v, vs', rfl, h.1, h.2⟩
  | [], h => simp [RdRow] at h
theorem Rd.int2 {w : World} {n : Int} {v : Value} (h : Rd w .int (.int n) v) : v = .int .i64 n := by simpa [Rd] using h
theorem Rd.bool2 {w : World} {b : Bool} {v : Value} (h : Rd w .bool (.bool b) v) : v = .bool b := by simpa [Rd] using h
theorem Rd.str2 {w : World} {s : ByteArray} {v : Value} (h : Rd w .str (.str s) v) : v = .string s := by simpa [Rd] using h
theorem Rd.sl2 {w : World} {e : Nat} {ts : List Ty} {l : List (List Dat)} {v : Value} (h : Rd w (.sl e ts) (.sl l) v) : ∃ a c, v = .slice a l.length c ∧ l.length ≤ c ∧ c ≤ 9223372036854775807 ∧ Rd w (.sl e ts) (.sl l) (.slice a l.length c) := by
  obtain ⟨a, c, rfl, h1, h2, _⟩ := h.open
  exact ⟨a, c, rfl, h1, h2, h⟩
theorem Own.one {w : World} {lo hi : Nat} {t : Ty} {d : Dat} {v : Value} (h : Own w lo hi [t] [d] [v]) : ∃ bs, Fp w t d v bs ∧ bs.Nodup ∧ ∀ b ∈ bs, lo ≤ b ∧ b < hi := by
  obtain ⟨bs, h1, h2, h3⟩ := h
  simp only [FpRow] at h1
  obtain ⟨b1, b2, rfl, h1, rfl⟩ := h1
  rw [List.append_nil] at h2 h3
  exact ⟨b1, h1, h2, h3⟩
/-- The cells of a new box. -/
theorem box_cells (w : World) (vs : List Value) (T : TypeId) (i : Nat) : (w.alloc (.cells vs.toArray T)).cell? ⟨w.heap.size, i, none⟩ = vs[i]? := by
  unfold World.cell?
  rw [heap_alloc_new w _]
  simp

/-- What was stored side by side is read. -/
theorem stN_cell (g : Nat) : ∀ (cs : List Value) (w : World) (o : Nat), (∀ i, i < cs.length → (w.cell? ⟨g, o + i, none⟩).isSome = true) → ∀ i, i < cs.length → (stN w g o cs).cell? ⟨g, o + i, none⟩ = cs[i]?
  | [], _, _, _, i, hi => by simp at hi
  | c :: cs, w, o, h, 0, _ => by
    have key : ∀ (cs : List Value) (w : World) (o : Nat) (a : Nat), a < o → (stN w g o cs).cell? ⟨g, a, none⟩ = w.cell? ⟨g, a, none⟩ := by
      intro cs
      induction cs with
      | nil => intro w o a _; rfl
      | cons x r ih => intro w o a ha; rw [stN, ih _ _ _ (by omega), World.cell?_setCell_other _ _ _ _ (by intro e; injection e; omega)]
    show (stN (w.setCell ⟨g, o, none⟩ c) g (o + 1) cs).cell? ⟨g, o, none⟩ = _
    rw [key _ _ _ _ (by omega), World.cell?_setCell_same' _ _ _ (by simpa using h 0 (by simp))]
    rfl
  | c :: cs, w, o, h, i + 1, hi => by
    have := stN_cell g cs (w.setCell ⟨g, o, none⟩ c) (o + 1) (fun j hj => by
      rw [World.cell?_setCell_other _ _ _ _ (by intro e; injection e; omega)]
      have := h (j + 1) (by simpa using hj)
      simpa [Nat.add_assoc, Nat.add_comm 1] using this) i (by simpa using hi)
    simpa [stN, Nat.add_assoc, Nat.add_comm 1] using this

end Go.Proofs.Ytemgpfojmdncjaa
