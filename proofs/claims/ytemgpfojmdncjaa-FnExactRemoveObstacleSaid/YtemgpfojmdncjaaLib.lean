/-
  How Go's data lie in memory, for this family's contracts: slices of elements of a fixed number of cells, slices of vectors, of integers, slices of slices. Nothing of a program is named here.
-/
import Derived.WalkKit
import Derived.Lib.Hide
import Derived.Test.YtemgpfojmdncjaaMath
namespace Go.Proofs.Ytemgpfojmdncjaa
set_option linter.unusedVariables false
set_option linter.unusedSimpArgs false
open Go.RowKit

/-- A slice value whose elements, of 'sz' cells each, read as the rows 'xs'. -/
def SlAt (sz : Nat) (w : World) (v : Value) (xs : List (List Value)) : Prop :=
  ∃ (a : Option Addr) (cap : Nat), v = .slice a xs.length cap ∧ xs.length ≤ cap ∧ cap ≤ maxLen ∧ (∀ x ∈ xs, x.length = sz) ∧
    ((xs = [] ∧ (a = none → cap = 0)) ∨ ∃ b off, a = some ⟨b, off, none⟩ ∧ b < w.heap.size ∧ ∀ j, j < xs.length → ∀ i, i < sz → w.cell? ⟨b, off + (j * sz + i), none⟩ = some ((xs.getD j []).getD i undef))

def vecRow (p : Int × Int) : List Value := [.int .i64 p.1, .int .i64 p.2]
def vecVal (p : Int × Int) : Value := .agg #[.int .i64 p.1, .int .i64 p.2]
def VecsAt (w : World) (v : Value) (l : List (Int × Int)) : Prop := SlAt 2 w v (l.map vecRow)
def IntsAt (w : World) (v : Value) (l : List Int) : Prop := SlAt 1 w v (l.map fun n => [.int .i64 n])

theorem SlAt.below {sz : Nat} {w w' : World} {v : Value} {xs : List (List Value)} (h : SlAt sz w v xs) (hb : Below w.heap.size w w') : SlAt sz w' v xs := by
  obtain ⟨a, cap, h1, h2, h3, h4, h5⟩ := h
  refine ⟨a, cap, h1, h2, h3, h4, ?_⟩
  rcases h5 with h5 | ⟨b, off, h5, h6, h7⟩
  · exact .inl h5
  · refine .inr ⟨b, off, h5, Nat.lt_of_lt_of_le h6 hb.size, fun j hj i hi => ?_⟩
    rw [hb.cell (p := ⟨b, _, none⟩) h6]; exact h7 j hj i hi

/-- What lies below a block number is kept by whatever keeps that memory. -/
theorem SlAt.below_at {sz B : Nat} {w0 w w' : World} {v : Value} {xs : List (List Value)} (h : SlAt sz w0 v xs) (h0 : w0.heap.size ≤ B) (hw : Below B w0 w) (hb : Below B w w') : SlAt sz w' v xs :=
  h.below ((hw.trans hb).mono h0)

theorem VecsAt.below {w w' : World} {v : Value} {l : List (Int × Int)} (h : VecsAt w v l) (hb : Below w.heap.size w w') : VecsAt w' v l := SlAt.below h hb
theorem IntsAt.below {w w' : World} {v : Value} {l : List Int} (h : IntsAt w v l) (hb : Below w.heap.size w w') : IntsAt w' v l := SlAt.below h hb

/-- The shape of a slice of vectors, for a walk: its value, and its cells at an index. -/
theorem VecsAt.open {w : World} {v : Value} {l : List (Int × Int)} (h : VecsAt w v l) : ∃ (a : Option Addr) (cap : Nat), v = .slice a l.length cap ∧ l.length ≤ cap ∧ cap ≤ 9223372036854775807 ∧
    ∀ k, k < l.length → ∃ b off, a = some ⟨b, off, none⟩ ∧ b < w.heap.size ∧ w.cell? ⟨b, off + k * 2, none⟩ = some (.int .i64 (l.getD k (0, 0)).1) ∧ w.cell? ⟨b, off + k * 2 + 1, none⟩ = some (.int .i64 (l.getD k (0, 0)).2) := by
  obtain ⟨a, cap, h1, h2, h3, h4, h5⟩ := h
  simp only [List.length_map] at h1 h2
  refine ⟨a, cap, h1, h2, by unfold maxLen at h3; omega, fun k hk => ?_⟩
  rcases h5 with ⟨h5, _⟩ | ⟨b, off, h5, h6, h7⟩
  · simp at h5; subst h5; simp at hk
  · have e0 := h7 k (by simpa using hk) 0 (by omega)
    have e1 := h7 k (by simpa using hk) 1 (by omega)
    refine ⟨b, off, h5, h6, ?_, ?_⟩
    · simpa [List.getD, List.getElem?_map, List.getElem?_eq_getElem hk, vecRow] using e0
    · simpa [List.getD, List.getElem?_map, List.getElem?_eq_getElem hk, vecRow, Nat.add_assoc] using e1

theorem IntsAt.open {w : World} {v : Value} {l : List Int} (h : IntsAt w v l) : ∃ (a : Option Addr) (cap : Nat), v = .slice a l.length cap ∧ l.length ≤ cap ∧ cap ≤ 9223372036854775807 ∧
    ∀ k, k < l.length → ∃ b off, a = some ⟨b, off, none⟩ ∧ b < w.heap.size ∧ w.cell? ⟨b, off + k, none⟩ = some (.int .i64 (l.getD k 0)) := by
  obtain ⟨a, cap, h1, h2, h3, h4, h5⟩ := h
  simp only [List.length_map] at h1 h2
  refine ⟨a, cap, h1, h2, by unfold maxLen at h3; omega, fun k hk => ?_⟩
  rcases h5 with ⟨h5, _⟩ | ⟨b, off, h5, h6, h7⟩
  · simp at h5; subst h5; simp at hk
  · have e0 := h7 k (by simpa using hk) 0 (by omega)
    refine ⟨b, off, h5, h6, ?_⟩
    simpa [List.getD, List.getElem?_map, List.getElem?_eq_getElem hk] using e0

/-- A slice of slices: element i reads as the i-th list. -/
def VecSSAt (w : World) (v : Value) (ll : List (List (Int × Int))) : Prop :=
  ∃ vs : List Value, SlAt 1 w v (vs.map fun x => [x]) ∧ vs.length = ll.length ∧ ∀ k, k < ll.length → VecsAt w (vs.getD k undef) (ll.getD k [])

theorem VecSSAt.below {w w' : World} {v : Value} {ll : List (List (Int × Int))} (h : VecSSAt w v ll) (hb : Below w.heap.size w w') : VecSSAt w' v ll := by
  obtain ⟨vs, h1, h2, h3⟩ := h
  exact ⟨vs, h1.below hb, h2, fun k hk => (h3 k hk).below hb⟩

theorem VecSSAt.open {w : World} {v : Value} {ll : List (List (Int × Int))} (h : VecSSAt w v ll) : ∃ (a : Option Addr) (cap : Nat), v = .slice a ll.length cap ∧ ll.length ≤ cap ∧ cap ≤ 9223372036854775807 ∧
    ∀ k, k < ll.length → ∃ b off u, a = some ⟨b, off, none⟩ ∧ b < w.heap.size ∧ w.cell? ⟨b, off + k, none⟩ = some u ∧ VecsAt w u (ll.getD k []) := by
  obtain ⟨vs, ⟨a, cap, h1, h2, h3, h4, h5⟩, hl, hv⟩ := h
  simp only [List.length_map, hl] at h1 h2
  refine ⟨a, cap, h1, h2, by unfold maxLen at h3; omega, fun k hk => ?_⟩
  rcases h5 with ⟨h5, _⟩ | ⟨b, off, h5, h6, h7⟩
  · simp at h5; subst h5; simp at hl; rw [← hl] at hk; omega
  · have hk' : k < vs.length := by omega
    have e0 := h7 k (by simpa using hk') 0 (by omega)
    refine ⟨b, off, vs.getD k undef, h5, h6, ?_, hv k hk⟩
    simpa [List.getD, List.getElem?_map, List.getElem?_eq_getElem hk'] using e0

/-- A scene in memory. -/
def SceneAt (w : World) (v : Value) (s : Scn) : Prop :=
  ∃ r o t, v = .agg #[.int .i64 s.low.1, .int .i64 s.low.2, .int .i64 s.high.1, .int .i64 s.high.2, r, o, t] ∧ VecsAt w r s.robot ∧ VecSSAt w o s.obst ∧ VecsAt w t s.tables
theorem SceneAt.below {w w' : World} {v : Value} {s : Scn} (h : SceneAt w v s) (hb : Below w.heap.size w w') : SceneAt w' v s := by
  obtain ⟨r, o, t, h1, h2, h3, h4⟩ := h
  exact ⟨r, o, t, h1, h2.below hb, h3.below hb, h4.below hb⟩

/-- After a call that made memory: what lay there reads as before. -/
theorem bcell {W w1 : World} (hb : Below W.heap.size W w1) : (∀ b o, b < W.heap.size → w1.cell? ⟨b, o, none⟩ = W.cell? ⟨b, o, none⟩) ∧ (∀ b o, b < W.heap.size → w1.frozen? ⟨b, o, none⟩ = W.frozen? ⟨b, o, none⟩) :=
  ⟨fun b o h => hb.cell (p := ⟨b, o, none⟩) h, fun b o h => hb.frozen (p := ⟨b, o, none⟩) h⟩

theorem ret_eq {a b : Value} (h : a = b) : Ending.returned a = .returned b := by rw [h]
theorem ret_bool {a b : Bool} (h : a = b) : Ending.returned (.bool a) = .returned (.bool b) := by rw [h]
theorem ret_int {a b : Int} (h : a = b) : Ending.returned (.int .i64 a) = .returned (.int .i64 b) := by rw [h]

end Go.Proofs.Ytemgpfojmdncjaa
