import Derived.Test.YtaleabdmgaeipaaProg
import Derived.Test.YtaleabdmgaeipaaHlBas
import Derived.Outline
namespace Go.Proofs.Ytaleabdmgaeipaa
set_option linter.unusedVariables false
set_option linter.unusedSimpArgs false
open Go.RowKit
theorem within_c (n lo hi : Int) (w : World) : Calls Try.prog 56 #[.int .i64 n, .int .i64 lo, .int .i64 hi] w fun e w' => e = .returned (.bool (inR n lo hi)) ∧ w = w' := by
  by_cases h1 : lo ≤ n
  · by_cases h2 : n ≤ hi
    · rw [inR_true h1 h2]
      go_enter Try.func56, Try.ntmps56
      go_wp2
      go_ret
      exact ⟨rfl, rfl⟩
    · rw [inR_high (by omega)]
      go_enter Try.func56, Try.ntmps56
      go_wp2
      go_ret
      exact ⟨rfl, rfl⟩
  · rw [inR_low (by omega)]
    go_enter Try.func56, Try.ntmps56
    go_wp2
    go_ret
    exact ⟨rfl, rfl⟩
theorem l01In_c (n lo hi : Int) (w : World) : Calls Try.prog 48 #[.int .i64 n, .int .i64 lo, .int .i64 hi] w fun e w' => e = .returned (.bool (inR n lo hi)) ∧ w = w' := by
  by_cases h1 : lo ≤ n
  · by_cases h2 : n ≤ hi
    · rw [inR_true h1 h2]
      go_enter Try.func48, Try.ntmps48
      go_wp2
      go_ret
      exact ⟨rfl, rfl⟩
    · rw [inR_high (by omega)]
      go_enter Try.func48, Try.ntmps48
      go_wp2
      go_ret
      exact ⟨rfl, rfl⟩
  · rw [inR_low (by omega)]
    go_enter Try.func48, Try.ntmps48
    go_wp2
    go_ret
    exact ⟨rfl, rfl⟩
theorem isVec_c (x y : Int) (w : World) : Calls Try.prog 52 #[.agg #[.int .i64 x, .int .i64 y]] w fun e w' => e = .returned (.bool (isVec (x, y))) ∧ Below w.heap.size w w' := by
  have e : isVec (x, y) = (inR x (-1000) 1000 && inR y (-1000) 1000) := rfl
  rw [e]; clear e
  cases h1 : inR x (-1000) 1000 <;> cases h2 : inR y (-1000) 1000
  all_goals
    go_enter Try.func52, Try.ntmps52
    go_wp2_with (go_at_call 56; refine (within_c _ _ _ _).mono ?_; rintro e w' ⟨rfl, rfl⟩)
    go_ret
    exact ⟨rfl, (by (repeat (first | with_reducible exact Below.refl _ _ | with_reducible assumption | with_reducible refine Below.drew ?_ | with_reducible refine Below.setCell ?_ ?_ _ | with_reducible refine Below.alloc ?_ ?_ _)); all_goals first | (simp; done) | (simp; omega) | omega)⟩
theorem IsValidVec_c (x y : Int) (w : World) : Calls Try.prog 27 #[.agg #[.int .i64 x, .int .i64 y]] w fun e w' => e = .returned (.bool (isVec (x, y))) ∧ Below w.heap.size w w' := by
  have e : isVec (x, y) = (inR x (-1000) 1000 && inR y (-1000) 1000) := rfl
  rw [e]; clear e
  cases h1 : inR x (-1000) 1000 <;> cases h2 : inR y (-1000) 1000
  all_goals
    go_enter Try.func27, Try.ntmps27
    go_wp2_with (go_at_call 48; refine (l01In_c _ _ _ _).mono ?_; rintro e w' ⟨rfl, rfl⟩)
    go_ret
    exact ⟨rfl, (by (repeat (first | with_reducible exact Below.refl _ _ | with_reducible assumption | with_reducible refine Below.drew ?_ | with_reducible refine Below.setCell ?_ ?_ _ | with_reducible refine Below.alloc ?_ ?_ _)); all_goals first | (simp; done) | (simp; omega) | omega)⟩
theorem turn_c (a1 a2 b1 b2 c1 c2 : Int) (ha : isVec (a1, a2) = true) (hb : isVec (b1, b2) = true) (hc : isVec (c1, c2) = true) (w : World) :
    Calls Try.prog 55 #[.agg #[.int .i64 a1, .int .i64 a2], .agg #[.int .i64 b1, .int .i64 b2], .agg #[.int .i64 c1, .int .i64 c2]] w fun e w' => e = .returned (.int .i64 (turnI (a1, a2) (b1, b2) (c1, c2))) ∧ Below w.heap.size w w' := by
  have A := isVec_bd ha
  have B := isVec_bd hb
  have C := isVec_bd hc
  simp only at A B C
  obtain ⟨xa1, xa2, xa3, xa4⟩ := A
  obtain ⟨xb1, xb2, xb3, xb4⟩ := B
  obtain ⟨xc1, xc2, xc3, xc4⟩ := C
  clear ha hb hc
  have m1 := mul_bd (a := b1 - a1) (b := c2 - a2) (m := 2000) (n := 2000) (by omega) (by omega) (by omega) (by omega)
  have m2 := mul_bd (a := b2 - a2) (b := c1 - a1) (m := 2000) (n := 2000) (by omega) (by omega) (by omega) (by omega)
  simp only [Int.reduceMul, Int.reduceNeg] at m1 m2
  obtain ⟨M1, M2⟩ := m1
  obtain ⟨M3, M4⟩ := m2
  go_enter Try.func55, Try.ntmps55
  go_wp2
  go_ret
  exact ⟨rfl, (by (repeat (first | with_reducible exact Below.refl _ _ | with_reducible assumption | with_reducible refine Below.drew ?_ | with_reducible refine Below.setCell ?_ ?_ _ | with_reducible refine Below.alloc ?_ ?_ _)); all_goals first | (simp; done) | (simp; omega) | omega)⟩
theorem Turn_c (a1 a2 b1 b2 c1 c2 : Int) (ha : isVec (a1, a2) = true) (hb : isVec (b1, b2) = true) (hc : isVec (c1, c2) = true) (w : World) :
    Calls Try.prog 49 #[.agg #[.int .i64 a1, .int .i64 a2], .agg #[.int .i64 b1, .int .i64 b2], .agg #[.int .i64 c1, .int .i64 c2]] w fun e w' => e = .returned (.int .i64 (turnI (a1, a2) (b1, b2) (c1, c2))) ∧ Below w.heap.size w w' := by
  have A := isVec_bd ha
  have B := isVec_bd hb
  have C := isVec_bd hc
  simp only at A B C
  obtain ⟨xa1, xa2, xa3, xa4⟩ := A
  obtain ⟨xb1, xb2, xb3, xb4⟩ := B
  obtain ⟨xc1, xc2, xc3, xc4⟩ := C
  have m1 := mul_bd (a := b1 - a1) (b := c2 - a2) (m := 2000) (n := 2000) (by omega) (by omega) (by omega) (by omega)
  have m2 := mul_bd (a := b2 - a2) (b := c1 - a1) (m := 2000) (n := 2000) (by omega) (by omega) (by omega) (by omega)
  simp only [Int.reduceMul, Int.reduceNeg] at m1 m2
  obtain ⟨M1, M2⟩ := m1
  obtain ⟨M3, M4⟩ := m2
  go_enter Try.func49, Try.ntmps49
  go_wp2_with fail
  refine (IsValidVec_c _ _ _).mono ?_
  rintro e w1 ⟨rfl, h1⟩
  have B1 : Below w.heap.size w w1 := Below.trans (by (repeat (first | with_reducible exact Below.refl _ _ | with_reducible assumption | with_reducible refine Below.drew ?_ | with_reducible refine Below.setCell ?_ ?_ _ | with_reducible refine Below.alloc ?_ ?_ _)); all_goals first | (simp; done) | (simp; omega) | omega) (h1.mono (by first | (simp; done) | (simp; omega) | omega))
  have S1 := h1.size
  have T1 := B1.size
  try simp at S1
  obtain ⟨k1, f1⟩ := bcell h1
  try simp at k1
  try simp at f1
  have Hc1 := Lib.hid h1
  clear h1
  have u1_0 : w.heap.size < w1.heap.size := by omega
  have u1_1 : w.heap.size + 1 < w1.heap.size := by omega
  have u1_2 : w.heap.size + 1 + 1 < w1.heap.size := by omega
  go_wp2_with fail
  refine (IsValidVec_c _ _ _).mono ?_
  rintro e w2 ⟨rfl, h2⟩
  have B2 : Below w.heap.size w w2 := Below.trans (by (repeat (first | with_reducible exact Below.refl _ _ | with_reducible assumption | with_reducible refine Below.drew ?_ | with_reducible refine Below.setCell ?_ ?_ _ | with_reducible refine Below.alloc ?_ ?_ _)); all_goals first | (simp; done) | (simp; omega) | omega) (h2.mono (by first | (simp; done) | (simp; omega) | omega))
  have S2 := h2.size
  have T2 := B2.size
  try simp at S2
  obtain ⟨k2, f2⟩ := bcell h2
  try simp at k2
  try simp at f2
  have Hc2 := Lib.hid h2
  clear h2
  have u2_0 : w.heap.size < w2.heap.size := by omega
  have u2_1 : w.heap.size + 1 < w2.heap.size := by omega
  have u2_2 : w.heap.size + 1 + 1 < w2.heap.size := by omega
  go_wp2_with fail
  refine (IsValidVec_c _ _ _).mono ?_
  rintro e w3 ⟨rfl, h3⟩
  have B3 : Below w.heap.size w w3 := Below.trans (by (repeat (first | with_reducible exact Below.refl _ _ | with_reducible assumption | with_reducible refine Below.drew ?_ | with_reducible refine Below.setCell ?_ ?_ _ | with_reducible refine Below.alloc ?_ ?_ _)); all_goals first | (simp; done) | (simp; omega) | omega) (h3.mono (by first | (simp; done) | (simp; omega) | omega))
  have S3 := h3.size
  have T3 := B3.size
  try simp at S3
  obtain ⟨k3, f3⟩ := bcell h3
  try simp at k3
  try simp at f3
  have Hc3 := Lib.hid h3
  clear h3
  have u3_0 : w.heap.size < w3.heap.size := by omega
  have u3_1 : w.heap.size + 1 < w3.heap.size := by omega
  have u3_2 : w.heap.size + 1 + 1 < w3.heap.size := by omega
  go_wp2
  go_ret
  exact ⟨rfl, (by (repeat (first | with_reducible exact Below.refl _ _ | with_reducible assumption | with_reducible refine Below.drew ?_ | with_reducible refine Below.setCell ?_ ?_ _ | with_reducible refine Below.alloc ?_ ?_ _)); all_goals first | (simp; done) | (simp; omega) | omega)⟩
end Go.Proofs.Ytaleabdmgaeipaa
namespace Go.Proofs.Ytaleabdmgaeipaa
set_option linter.unusedVariables false
set_option linter.unusedSimpArgs false
open Go.RowKit
structure PredVec (g : Nat) (caps : Array Value) (p : V2 → Bool) (W : World) : Prop where
  enter : ∀ (args : Array Value) (w : World), (callFunc g args).run Try.prog w = .ok (.enter g args) w
  calls : ∀ (x y : Int) (w : World), Below W.heap.size W w → Calls Try.prog g (#[.agg #[.int .i64 x, .int .i64 y]] ++ caps) w fun e w' => e = .returned (.bool (p (x, y))) ∧ Below w.heap.size w w'
set_option maxRecDepth 100000 in
set_option maxHeartbeats 400000 in
theorem IndexVec_c (g : Nat) (caps : Array Value) (p : V2 → Bool) (l : List V2) (v : Value) (w : World) (hv : VecsAt w v l) (hp : PredVec g caps p w) :
    Calls Try.prog 62 #[v, .func (.func g) #[] caps] w fun e w' => e = .returned (.int .i64 (idxOf p l)) ∧ Below w.heap.size w w' := by
  obtain ⟨a, cap, rfl, hl, hc, hcell⟩ := hv.open
  have hent := hp.enter
  have HP := Lib.hid hp.calls; clear hp
  have HC := Lib.hid hcell; clear hcell hv
  go_enter Try.func62, Try.ntmps62
  go_wp2
  go_loopw [8] (fun i wr => ∃ k : Nat, k ≤ l.length ∧ i = .int .i64 k ∧ (l.take k).any p = false ∧ Below w.heap.size w wr) (fun i _ => l.length - (intOf i).toNat)
  case atStart => exact ⟨0, Nat.zero_le _, rfl, by simp, Below.refl _ _⟩
  case round =>
    obtain ⟨k, hk, rfl, hany, hb⟩ := hrel
    have HA := Lib.hid hany; clear hany
    by_cases hlt : k < l.length
    · obtain ⟨b, off, rfl, hbs, c0, c1⟩ := HC.out k hlt
      have d0 := (hb.cell (p := ⟨b, off + k * 2, none⟩) hbs).trans c0
      have d1 := (hb.cell (p := ⟨b, off + k * 2 + 1, none⟩) hbs).trans c1
      obtain ⟨x, y, hxy⟩ : ∃ x y, l.getD k (0, 0) = (x, y) := ⟨_, _, rfl⟩
      rw [hxy] at d0 d1
      simp only at d0 d1
      clear c0 c1
      have HX := Lib.hid hxy; clear hxy
      have HB := Lib.hid hb; clear hb
      go_wp2_with fail
      refine (HP.out x y _ HB.out).mono ?_
      rintro e w1 ⟨rfl, hb1⟩
      cases hpx : p (x, y)
      · go_wp2
        go_roundw
        case rel => exact ⟨k + 1, by omega, by go_num, by rw [take_any_snoc p l (0, 0) k hlt, HA.out, HX.out, hpx]; rfl, HB.out.trans (hb1.mono HB.out.size)⟩
        case measure => simp [intOf]; omega
      · go_wp2
        go_ret
        exact ⟨ret_int (idxOf_at p l (0, 0) k hlt HA.out (by rw [HX.out]; exact hpx)).symm, HB.out.trans (hb1.mono HB.out.size)⟩
    · have HB := Lib.hid hb; clear hb
      go_wp2
      go_ret
      exact ⟨ret_int (idxOf_none p l (by have := HA.out; rwa [List.take_of_length_le (by omega)] at this)).symm, HB.out⟩
theorem ContainsVec_c (g : Nat) (caps : Array Value) (p : V2 → Bool) (l : List V2) (v : Value) (w : World) (hv : VecsAt w v l) (hp : PredVec g caps p w) :
    Calls Try.prog 50 #[v, .func (.func g) #[] caps] w fun e w' => e = .returned (.bool (l.any p)) ∧ Below w.heap.size w w' := by
  rw [← idxOf_neg]
  have HV := Lib.hid hv; clear hv
  have HP := Lib.hid hp; clear hp
  go_enter Try.func50, Try.ntmps50
  go_wp2_with fail
  refine (IndexVec_c g caps p l _ _ HV.out HP.out).mono ?_
  rintro e w1 ⟨rfl, hb1⟩
  have HB := Lib.hid hb1; clear hb1
  go_wp2
  go_ret
  exact ⟨rfl, HB.out⟩
theorem areVecs1_p (W : World) : PredVec 51 #[] (fun p => !isVec p) W where
  enter := fun args w => by kernel_rfl
  calls := fun x y w _ => by
    show Calls Try.prog 51 #[.agg #[.int .i64 x, .int .i64 y]] w _
    go_enter Try.func51, Try.ntmps51
    go_wp2_with fail
    refine (isVec_c _ _ _).mono ?_
    rintro e w1 ⟨rfl, h1⟩
    have B1 : Below w.heap.size w w1 := Below.trans (by (repeat (first | with_reducible exact Below.refl _ _ | with_reducible assumption | with_reducible refine Below.drew ?_ | with_reducible refine Below.setCell ?_ ?_ _ | with_reducible refine Below.alloc ?_ ?_ _)); all_goals first | (simp; done) | (simp; omega) | omega) (h1.mono (by first | (simp; done) | (simp; omega) | omega))
    have S1 := h1.size
    have T1 := B1.size
    try simp at S1
    obtain ⟨k1, f1⟩ := bcell h1
    try simp at k1
    try simp at f1
    have Hc1 := Lib.hid h1
    clear h1
    have u1_0 : w.heap.size < w1.heap.size := by omega
    go_wp2
    go_ret
    exact ⟨rfl, (by (repeat (first | with_reducible exact Below.refl _ _ | with_reducible assumption | with_reducible refine Below.drew ?_ | with_reducible refine Below.setCell ?_ ?_ _ | with_reducible refine Below.alloc ?_ ?_ _)); all_goals first | (simp; done) | (simp; omega) | omega)⟩
theorem areVecs_c (l : List V2) (v : Value) (w : World) (hv : VecsAt w v l) :
    Calls Try.prog 31 #[v] w fun e w' => e = .returned (.bool (l.all isVec)) ∧ Below w.heap.size w w' := by
  have e : l.all isVec = !(l.any fun p => !isVec p) := by simp [List.not_any_eq_all_not]
  rw [e]; clear e
  have HV := Lib.hid hv; clear hv
  go_enter Try.func31, Try.ntmps31
  go_wp2_with fail
  refine (ContainsVec_c _ #[] _ l _ _ HV.out (areVecs1_p _)).mono ?_
  rintro e w1 ⟨rfl, hb1⟩
  have HB := Lib.hid hb1; clear hb1
  go_wp2
  go_ret
  exact ⟨rfl, HB.out⟩
end Go.Proofs.Ytaleabdmgaeipaa
namespace Go.Proofs.Ytaleabdmgaeipaa
set_option linter.unusedVariables false
set_option linter.unusedSimpArgs false
open Go.RowKit
end Go.Proofs.Ytaleabdmgaeipaa
namespace Go.Proofs.Ytaleabdmgaeipaa
set_option linter.unusedVariables false
set_option linter.unusedSimpArgs false
open Go.RowKit
end Go.Proofs.Ytaleabdmgaeipaa
namespace Go.Proofs.Ytaleabdmgaeipaa
set_option linter.unusedVariables false
set_option linter.unusedSimpArgs false
open Go.RowKit
end Go.Proofs.Ytaleabdmgaeipaa
