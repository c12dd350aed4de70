/-
  Contracts of the functions on single vectors: ranges, validity, turns.
-/
import Derived.Test.YtemgpfojmdncjaaProg
import Derived.Test.YtemgpfojmdncjaaLib
import Derived.Test.YtemgpfojmdncjaaMath
import Derived.Outline
namespace Go.Proofs.Ytemgpfojmdncjaa
set_option linter.unusedVariables false
set_option linter.unusedSimpArgs false
open Go.RowKit

theorem within_c (n lo hi : Int) (w : World) : Calls Try.prog 53 #[.int .i64 n, .int .i64 lo, .int .i64 hi] w fun e w' => e = .returned (.bool (inR n lo hi)) ∧ w = w' := by
  by_cases h1 : lo ≤ n
  · by_cases h2 : n ≤ hi
    · rw [inR_true h1 h2]
      go_enter Try.func53, Try.ntmps53
      go_wp2
      go_ret
      exact ⟨rfl, rfl⟩
    · rw [inR_high (by omega)]
      go_enter Try.func53, Try.ntmps53
      go_wp2
      go_ret
      exact ⟨rfl, rfl⟩
  · rw [inR_low (by omega)]
    go_enter Try.func53, Try.ntmps53
    go_wp2
    go_ret
    exact ⟨rfl, rfl⟩

theorem l01In_c (n lo hi : Int) (w : World) : Calls Try.prog 52 #[.int .i64 n, .int .i64 lo, .int .i64 hi] w fun e w' => e = .returned (.bool (inR n lo hi)) ∧ w = w' := by
  by_cases h1 : lo ≤ n
  · by_cases h2 : n ≤ hi
    · rw [inR_true h1 h2]
      go_enter Try.func52, Try.ntmps52
      go_wp2
      go_ret
      exact ⟨rfl, rfl⟩
    · rw [inR_high (by omega)]
      go_enter Try.func52, Try.ntmps52
      go_wp2
      go_ret
      exact ⟨rfl, rfl⟩
  · rw [inR_low (by omega)]
    go_enter Try.func52, Try.ntmps52
    go_wp2
    go_ret
    exact ⟨rfl, rfl⟩

theorem isVec_c (x y : Int) (w : World) : Calls Try.prog 123 #[.agg #[.int .i64 x, .int .i64 y]] w fun e w' => e = .returned (.bool (isVec (x, y))) ∧ Below w.heap.size w w' := by
  have e : isVec (x, y) = (inR x (-1000) 1000 && inR y (-1000) 1000) := rfl
  rw [e]; clear e
  cases h1 : inR x (-1000) 1000 <;> cases h2 : inR y (-1000) 1000
  all_goals
    go_enter Try.func123, Try.ntmps123
    go_wp2_with (go_at_call 53; refine (within_c _ _ _ _).mono ?_; rintro e w' ⟨rfl, rfl⟩)
    go_ret
    exact ⟨rfl, (by (repeat (first | with_reducible exact Below.refl _ _ | with_reducible assumption | with_reducible refine Below.drew ?_ | with_reducible refine Below.setCell ?_ ?_ _ | with_reducible refine Below.alloc ?_ ?_ _)); all_goals first | (simp; done) | (simp; omega) | omega)⟩

theorem IsValidVec_c (x y : Int) (w : World) : Calls Try.prog 90 #[.agg #[.int .i64 x, .int .i64 y]] w fun e w' => e = .returned (.bool (isVec (x, y))) ∧ Below w.heap.size w w' := by
  have e : isVec (x, y) = (inR x (-1000) 1000 && inR y (-1000) 1000) := rfl
  rw [e]; clear e
  cases h1 : inR x (-1000) 1000 <;> cases h2 : inR y (-1000) 1000
  all_goals
    go_enter Try.func90, Try.ntmps90
    go_wp2_with (go_at_call 52; refine (l01In_c _ _ _ _).mono ?_; rintro e w' ⟨rfl, rfl⟩)
    go_ret
    exact ⟨rfl, (by (repeat (first | with_reducible exact Below.refl _ _ | with_reducible assumption | with_reducible refine Below.drew ?_ | with_reducible refine Below.setCell ?_ ?_ _ | with_reducible refine Below.alloc ?_ ?_ _)); all_goals first | (simp; done) | (simp; omega) | omega)⟩

/-- The turn of vectors with small coordinates, as the machine computes it. -/
theorem turn_c (a1 a2 b1 b2 c1 c2 : Int) (ha : isVec (a1, a2) = true) (hb : isVec (b1, b2) = true) (hc : isVec (c1, c2) = true) (w : World) :
    Calls Try.prog 129 #[.agg #[.int .i64 a1, .int .i64 a2], .agg #[.int .i64 b1, .int .i64 b2], .agg #[.int .i64 c1, .int .i64 c2]] w fun e w' => e = .returned (.int .i64 (turnI (a1, a2) (b1, b2) (c1, c2))) ∧ Below w.heap.size w w' := by
  have A := isVec_bd ha
  have B := isVec_bd hb
  have C := isVec_bd hc
  simp only at A B C
  obtain ⟨xa1, xa2, xa3, xa4⟩ := A
  obtain ⟨xb1, xb2, xb3, xb4⟩ := B
  obtain ⟨xc1, xc2, xc3, xc4⟩ := C
  clear ha hb hc
  have m1 := mul_bd (a := b1 - a1) (b := c2 - a2) (m := 2000) (n := 2000) (by omega) (by omega) (by omega) (by omega)
  have m2 := mul_bd (a := b2 - a2) (b := c1 - a1) (m := 2000) (n := 2000) (by omega) (by omega) (by omega) (by omega)
  simp only [Int.reduceMul, Int.reduceNeg] at m1 m2
  obtain ⟨M1, M2⟩ := m1
  obtain ⟨M3, M4⟩ := m2
  go_enter Try.func129, Try.ntmps129
  go_wp2
  go_ret
  exact ⟨rfl, (by (repeat (first | with_reducible exact Below.refl _ _ | with_reducible assumption | with_reducible refine Below.drew ?_ | with_reducible refine Below.setCell ?_ ?_ _ | with_reducible refine Below.alloc ?_ ?_ _)); all_goals first | (simp; done) | (simp; omega) | omega)⟩

theorem Turn_c (a1 a2 b1 b2 c1 c2 : Int) (ha : isVec (a1, a2) = true) (hb : isVec (b1, b2) = true) (hc : isVec (c1, c2) = true) (w : World) :
    Calls Try.prog 124 #[.agg #[.int .i64 a1, .int .i64 a2], .agg #[.int .i64 b1, .int .i64 b2], .agg #[.int .i64 c1, .int .i64 c2]] w fun e w' => e = .returned (.int .i64 (turnI (a1, a2) (b1, b2) (c1, c2))) ∧ Below w.heap.size w w' := by
  have A := isVec_bd ha
  have B := isVec_bd hb
  have C := isVec_bd hc
  simp only at A B C
  obtain ⟨xa1, xa2, xa3, xa4⟩ := A
  obtain ⟨xb1, xb2, xb3, xb4⟩ := B
  obtain ⟨xc1, xc2, xc3, xc4⟩ := C
  have m1 := mul_bd (a := b1 - a1) (b := c2 - a2) (m := 2000) (n := 2000) (by omega) (by omega) (by omega) (by omega)
  have m2 := mul_bd (a := b2 - a2) (b := c1 - a1) (m := 2000) (n := 2000) (by omega) (by omega) (by omega) (by omega)
  simp only [Int.reduceMul, Int.reduceNeg] at m1 m2
  obtain ⟨M1, M2⟩ := m1
  obtain ⟨M3, M4⟩ := m2
  go_enter Try.func124, Try.ntmps124
  go_wp2_with fail
  refine (IsValidVec_c _ _ _).mono ?_
  rintro e w1 ⟨rfl, h1⟩
  have B1 : Below w.heap.size w w1 := Below.trans (by (repeat (first | with_reducible exact Below.refl _ _ | with_reducible assumption | with_reducible refine Below.drew ?_ | with_reducible refine Below.setCell ?_ ?_ _ | with_reducible refine Below.alloc ?_ ?_ _)); all_goals first | (simp; done) | (simp; omega) | omega) (h1.mono (by first | (simp; done) | (simp; omega) | omega))
  have S1 := h1.size
  have T1 := B1.size
  try simp at S1
  obtain ⟨k1, f1⟩ := bcell h1
  try simp at k1
  try simp at f1
  have Hc1 := Lib.hid h1
  clear h1
  have u1_0 : w.heap.size < w1.heap.size := by omega
  have u1_1 : w.heap.size + 1 < w1.heap.size := by omega
  have u1_2 : w.heap.size + 1 + 1 < w1.heap.size := by omega
  go_wp2_with fail
  refine (IsValidVec_c _ _ _).mono ?_
  rintro e w2 ⟨rfl, h2⟩
  have B2 : Below w.heap.size w w2 := Below.trans (by (repeat (first | with_reducible exact Below.refl _ _ | with_reducible assumption | with_reducible refine Below.drew ?_ | with_reducible refine Below.setCell ?_ ?_ _ | with_reducible refine Below.alloc ?_ ?_ _)); all_goals first | (simp; done) | (simp; omega) | omega) (h2.mono (by first | (simp; done) | (simp; omega) | omega))
  have S2 := h2.size
  have T2 := B2.size
  try simp at S2
  obtain ⟨k2, f2⟩ := bcell h2
  try simp at k2
  try simp at f2
  have Hc2 := Lib.hid h2
  clear h2
  have u2_0 : w.heap.size < w2.heap.size := by omega
  have u2_1 : w.heap.size + 1 < w2.heap.size := by omega
  have u2_2 : w.heap.size + 1 + 1 < w2.heap.size := by omega
  go_wp2_with fail
  refine (IsValidVec_c _ _ _).mono ?_
  rintro e w3 ⟨rfl, h3⟩
  have B3 : Below w.heap.size w w3 := Below.trans (by (repeat (first | with_reducible exact Below.refl _ _ | with_reducible assumption | with_reducible refine Below.drew ?_ | with_reducible refine Below.setCell ?_ ?_ _ | with_reducible refine Below.alloc ?_ ?_ _)); all_goals first | (simp; done) | (simp; omega) | omega) (h3.mono (by first | (simp; done) | (simp; omega) | omega))
  have S3 := h3.size
  have T3 := B3.size
  try simp at S3
  obtain ⟨k3, f3⟩ := bcell h3
  try simp at k3
  try simp at f3
  have Hc3 := Lib.hid h3
  clear h3
  have u3_0 : w.heap.size < w3.heap.size := by omega
  have u3_1 : w.heap.size + 1 < w3.heap.size := by omega
  have u3_2 : w.heap.size + 1 + 1 < w3.heap.size := by omega
  go_wp2
  go_ret
  exact ⟨rfl, (by (repeat (first | with_reducible exact Below.refl _ _ | with_reducible assumption | with_reducible refine Below.drew ?_ | with_reducible refine Below.setCell ?_ ?_ _ | with_reducible refine Below.alloc ?_ ?_ _)); all_goals first | (simp; done) | (simp; omega) | omega)⟩
end Go.Proofs.Ytemgpfojmdncjaa
