/-
  From the row's reading of an argument to what the walks are told: vectors, lists, scenes.
-/
import Derived.Test.YtemgpfojmdncjaaLib
import Derived.Test.YtemgpfojmdncjaaProg
import Derived.Deep.Slices
import Derived.OpenShut
namespace Go.Proofs.Ytemgpfojmdncjaa
open Go.RowKit Go.Deep Go.ChangeShapes Go.WideShapes

theorem list2 {α : Type} {l : List α} (h : l.length = 2) : ∃ a b, l = [a, b] := by
  match l, h with
  | [a, b], _ => exact ⟨a, b, rfl⟩
theorem list7 {α : Type} {l : List α} (h : l.length = 7) : ∃ a b c d e f g, l = [a, b, c, d, e, f, g] := by
  match l, h with
  | [a, b, c, d, e, f, g], _ => exact ⟨a, b, c, d, e, f, g, rfl⟩

variable {H : Type} {enc : TypeId × Value → H} {w : World} {spare : Nat → Bool} {held : Bool}

set_option maxRecDepth 100000 in
theorem vec_of_trod {fuel : Nat} {cs : List Value} {x : DataW H × List MemPlace} (h : DataW.trod enc Try.prog w 0 spare held fuel 25 cs = some x) : ∃ a b : Int, cs = [.int .i64 a, .int .i64 b] := by
  obtain ⟨xs, n, rfl, rfl, hl, hxl, hf⟩ := DataW.trod_struct Try.underlying25 h
  have c1 : Try.prog.cellsOf 3 = 1 := by kernel_rfl
  have c2 : Try.prog.cellsOf 25 = 2 := by kernel_rfl
  rw [c2] at hl
  obtain ⟨c0, c1', rfl⟩ := list2 hl
  have hxl2 : xs.length = 2 := hxl
  have f0 : DataW.trod enc Try.prog w 0 spare held n 3 (([c0, c1'].drop 0).take (Try.prog.cellsOf 3)) = xs[0]? := hf 0 _ rfl
  have f1 : DataW.trod enc Try.prog w 0 spare held n 3 (([c0, c1'].drop 1).take (Try.prog.cellsOf 3)) = xs[1]? := hf 1 _ rfl
  rw [List.getElem?_eq_getElem (by omega), c1] at f0 f1
  simp only [List.drop_zero, List.take_succ_cons, List.take_zero, List.drop_succ_cons] at f0 f1
  obtain ⟨a, e0, _, _⟩ := DataW.trod_int Try.underlying3 f0
  obtain ⟨b, e1, _, _⟩ := DataW.trod_int Try.underlying3 f1
  simp at e0 e1
  exact ⟨a, b, by rw [e0, e1]⟩

/-- The rows of a slice by their index, as one list. -/
theorem rows_of {n : Nat} {p : Nat → List Value → Prop} (h : ∀ i, i < n → ∃ r, p i r) : ∃ rows : List (List Value), rows.length = n ∧ ∀ i, i < n → p i (rows.getD i []) := by
  obtain ⟨f, hf⟩ := choose_lt h
  refine ⟨(List.range n).map f, by simp, fun i hi => ?_⟩
  have : ((List.range n).map f).getD i [] = f i := by simp [List.getD, hi]
  rw [this]; exact hf i hi

theorem addr_split {a : Addr} {v : Value} (h : w.cell? a = some v) : ∃ b off, a = ⟨b, off, none⟩ ∧ b < w.heap.size := by
  obtain ⟨b, off, s⟩ := a
  have := World.cell?_spot h
  simp at this
  subst this
  exact ⟨b, off, rfl, World.block_lt_of_cell? w ⟨b, off, none⟩ h⟩

/-- A slice of vectors that came in. -/
theorem vecs_of_trod {fuel : Nat} {v : Value} {x : DataW H × List MemPlace} (h : DataW.trod enc Try.prog w 0 spare held fuel 26 [v] = some x) : ∃ l, VecsAt w v l := by
  have c2 : Try.prog.cellsOf 25 = 2 := by kernel_rfl
  rcases open_slice Try.underlying26 h with ⟨hcs, _⟩ | ⟨a, len, cap, m, n, D, Pl, hcs, _, hl, hm, hmm, _, hx⟩
  · simp at hcs
    subst hcs
    exact ⟨[], none, 0, rfl, by simp, by decide, by simp, .inl rfl⟩
  · simp at hcs
    subst hcs
    have hlm : len ≤ m := by rw [hmm]; split <;> omega
    have hel : ∀ i, i < len → ∃ p : Int × Int, w.cell? (a.add (i * 2)) = some (.int .i64 p.1) ∧ w.cell? ((a.add (i * 2)).add 1) = some (.int .i64 p.2) := fun i hi => by
      obtain ⟨cs', h1, h2⟩ := hx i (by omega)
      rw [c2] at h1
      obtain ⟨p, q, rfl⟩ := vec_of_trod h2
      obtain ⟨_, _, hc⟩ := World.cells?_some h1
      have e0 := hc 0 (by omega)
      have e1 := hc 1 (by omega)
      exact ⟨(p, q), by simpa [Addr.add] using e0, by simpa using e1⟩
    obtain ⟨f, hf⟩ := choose_lt hel
    refine ⟨(List.range len).map f, some a, cap, by simp, by simpa using hl, hm, by simp [vecRow], ?_⟩
    by_cases h0 : len = 0
    · left; simp [h0]
    · right
      obtain ⟨b, off, rfl, hb⟩ := addr_split (by have := (hf 0 (by omega)).1; simpa [Addr.add] using this)
      refine ⟨b, off, rfl, hb, fun j hj i hi => ?_⟩
      simp at hj
      have e := hf j hj
      have g0 : w.cell? ⟨b, off + j * 2, none⟩ = some (.int .i64 (f j).1) := by
        have := e.1
        unfold Addr.add at this
        split at this
        · rename_i hz; rw [hz, Nat.add_zero]; exact this
        · exact this
      have g1 : w.cell? ⟨b, off + j * 2 + 1, none⟩ = some (.int .i64 (f j).2) := by
        have := e.2
        rw [add_add] at this
        unfold Addr.add at this
        simpa [Nat.add_assoc] using this
      have hi' : i = 0 ∨ i = 1 := by omega
      rcases hi' with rfl | rfl
      · simpa [List.getD, hj, vecRow] using g0
      · simpa [List.getD, hj, vecRow, Nat.add_assoc] using g1

/-- A slice of slices of vectors that came in. -/
theorem vecss_of_trod {fuel : Nat} {v : Value} {x : DataW H × List MemPlace} (h : DataW.trod enc Try.prog w 0 spare held fuel 27 [v] = some x) : ∃ l, VecSSAt w v l := by
  rcases open_slice1 Try.underlying27 (by kernel_rfl) h with ⟨hcs, _⟩ | ⟨a, len, cap, m, n, V, D, Pl, hcs, _, hl, hm, hmm, _, hx⟩
  · simp at hcs
    subst hcs
    exact ⟨[], [], ⟨none, 0, rfl, by simp, by decide, by simp, .inl rfl⟩, rfl, by intro k hk; simp at hk⟩
  · simp at hcs
    subst hcs
    have hlm : len ≤ m := by rw [hmm]; split <;> omega
    obtain ⟨f, hf⟩ := choose_lt (n := len) (p := fun i (l : List (Int × Int)) => VecsAt w (V i) l) fun i hi => vecs_of_trod (hx i (by omega)).2
    refine ⟨(List.range len).map f, (List.range len).map V, ⟨some a, cap, by simp, by simpa using hl, hm, by simp, ?_⟩, by simp, ?_⟩
    · by_cases h0 : len = 0
      · left; simp [h0]
      · right
        obtain ⟨b, off, rfl, hb⟩ := addr_split (by have := (hx 0 (by omega)).1; simpa [Addr.add] using this)
        refine ⟨b, off, rfl, hb, fun j hj i hi => ?_⟩
        simp at hj
        have e := (hx j (by omega)).1
        obtain rfl : i = 0 := by omega
        have g0 : w.cell? ⟨b, off + j, none⟩ = some (V j) := by
          unfold Addr.add at e
          split at e
          · rename_i hz; subst hz; simpa using e
          · exact e
        simpa [List.getD, hj] using g0
    · intro k hk
      simp at hk
      simpa [List.getD, hk] using hf k hk

set_option maxRecDepth 100000 in
/-- A scene that came in. -/
theorem scene_of_trod {fuel : Nat} {cs : List Value} {x : DataW H × List MemPlace} (h : DataW.trod enc Try.prog w 0 spare held fuel 29 cs = some x) : ∃ s, SceneAt w (.agg cs.toArray) s := by
  obtain ⟨xs, n, rfl, rfl, hl, hxl, hf⟩ := DataW.trod_struct Try.underlying29 h
  have c1 : Try.prog.cellsOf 26 = 1 := by kernel_rfl
  have c1' : Try.prog.cellsOf 27 = 1 := by kernel_rfl
  have c2 : Try.prog.cellsOf 25 = 2 := by kernel_rfl
  have c7 : Try.prog.cellsOf 29 = 7 := by kernel_rfl
  rw [c7] at hl
  obtain ⟨k0, k1, k2, k3, k4, k5, k6, rfl⟩ := list7 hl
  have hxl2 : xs.length = 5 := hxl
  have f0 : DataW.trod enc Try.prog w 0 spare held n 25 (([k0, k1, k2, k3, k4, k5, k6].drop 0).take (Try.prog.cellsOf 25)) = xs[0]? := hf 0 _ rfl
  have f1 : DataW.trod enc Try.prog w 0 spare held n 25 (([k0, k1, k2, k3, k4, k5, k6].drop 2).take (Try.prog.cellsOf 25)) = xs[1]? := hf 1 _ rfl
  have f2 : DataW.trod enc Try.prog w 0 spare held n 26 (([k0, k1, k2, k3, k4, k5, k6].drop 4).take (Try.prog.cellsOf 26)) = xs[2]? := hf 2 _ rfl
  have f3 : DataW.trod enc Try.prog w 0 spare held n 27 (([k0, k1, k2, k3, k4, k5, k6].drop 5).take (Try.prog.cellsOf 27)) = xs[3]? := hf 3 _ rfl
  have f4 : DataW.trod enc Try.prog w 0 spare held n 26 (([k0, k1, k2, k3, k4, k5, k6].drop 6).take (Try.prog.cellsOf 26)) = xs[4]? := hf 4 _ rfl
  rw [List.getElem?_eq_getElem (by omega)] at f0 f1 f2 f3 f4
  rw [c2] at f0 f1
  rw [c1] at f2 f4
  rw [c1'] at f3
  simp only [List.drop_zero, List.take_succ_cons, List.take_zero, List.drop_succ_cons] at f0 f1 f2 f3 f4
  obtain ⟨a, b, e0⟩ := vec_of_trod f0
  obtain ⟨c, d, e1⟩ := vec_of_trod f1
  obtain ⟨r, hr⟩ := vecs_of_trod f2
  obtain ⟨o, ho⟩ := vecss_of_trod f3
  obtain ⟨t, ht⟩ := vecs_of_trod f4
  simp at e0 e1
  obtain ⟨rfl, rfl⟩ := e0
  obtain ⟨rfl, rfl⟩ := e1
  exact ⟨⟨(a, b), (c, d), r, o, t⟩, k4, k5, k6, rfl, hr, ho, ht⟩
end Go.Proofs.Ytemgpfojmdncjaa
