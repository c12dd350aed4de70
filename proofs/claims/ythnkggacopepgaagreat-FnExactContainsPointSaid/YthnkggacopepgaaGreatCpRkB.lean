import Derived.Test.YthnkggacopepgaaGreatCpRkT
namespace Go.Proofs.YthnkggacopepgaaGreat
set_option linter.unusedVariables false
set_option linter.unusedSimpArgs false
open Go.RowKit
def within_con : Con := { ι := Int × Int × Int, pre := fun i => True, args := fun i => [.one (.im (.int .i64 i.1)), .one (.im (.int .i64 i.2.1)), .one (.im (.int .i64 i.2.2))], res := fun i => ⟨false, [none], [.im (Value.bool (decide (i.1 ≥ i.2.1) && decide (i.1 ≤ i.2.2)))]⟩ }
set_option maxRecDepth 100000 in
theorem within_ok : within_con.Ok Tryz.prog 119 := by
  refine fn_ok (X := ⟨tt, [], [], 15⟩) mixed tt_ok (CTok.nil _) Tryz.func119 (by decide) rfl rfl rfl (fun _ => Nat.le_of_ble_eq_true rfl) (fun _ => Nat.le_of_ble_eq_true rfl) (fun _ => []) ?_
  rintro ⟨n, lo, hi⟩ hpre
  have hpre : True := hpre
  refine by_nf (q := ((decide (n ≥ lo)) = true → ((Value.bool (decide (n ≤ hi)) = Value.bool (decide (n ≥ lo) && decide (n ≤ hi))))) ∧ ((decide (n ≥ lo)) = false → ((Value.bool false = Value.bool (decide (n ≥ lo) && decide (n ≤ hi)))))) (by kernel_rfl) ?_
  refine ⟨fun c1 => ?_, fun c1 => ?_⟩
  · skip
    replace c1 : (decide (n ≥ lo)) = true := c1
    try simp only [Bool.and_eq_true, Bool.or_eq_true, Bool.and_eq_false_iff, Bool.or_eq_false_iff, decide_eq_true_eq, decide_eq_false_iff_not, Bool.not_eq_true', Bool.not_eq_false', bne_iff_ne, ne_eq, beq_iff_eq, Bool.not_eq_true, Bool.not_eq_false, Int.not_lt, Int.not_le, gt_iff_lt, ge_iff_le, beq_eq_false_iff_ne, bne_eq_false_iff_eq] at c1
    have e : decide (n ≥ lo) = true := by simpa using c1
    show Value.bool (decide (n ≤ hi)) = Value.bool (decide (n ≥ lo) && decide (n ≤ hi))
    rw [e]; rfl
  · skip
    replace c1 : (decide (n ≥ lo)) = false := c1
    try simp only [Bool.and_eq_true, Bool.or_eq_true, Bool.and_eq_false_iff, Bool.or_eq_false_iff, decide_eq_true_eq, decide_eq_false_iff_not, Bool.not_eq_true', Bool.not_eq_false', bne_iff_ne, ne_eq, beq_iff_eq, Bool.not_eq_true, Bool.not_eq_false, Int.not_lt, Int.not_le, gt_iff_lt, ge_iff_le, beq_eq_false_iff_ne, bne_eq_false_iff_eq] at c1
    have e : decide (n ≥ lo) = false := by simpa using c1
    show Value.bool false = Value.bool (decide (n ≥ lo) && decide (n ≤ hi))
    rw [e]; rfl
def l01In_con : Con := { ι := Int × Int × Int, pre := fun i => True, args := fun i => [.one (.im (.int .i64 i.1)), .one (.im (.int .i64 i.2.1)), .one (.im (.int .i64 i.2.2))], res := fun i => ⟨false, [none], [.im (Value.bool (decide (i.1 ≥ i.2.1) && decide (i.1 ≤ i.2.2)))]⟩ }
set_option maxRecDepth 100000 in
theorem l01In_ok : l01In_con.Ok Tryz.prog 112 := by
  refine fn_ok (X := ⟨tt, [], [], 15⟩) mixed tt_ok (CTok.nil _) Tryz.func112 (by decide) rfl rfl rfl (fun _ => Nat.le_of_ble_eq_true rfl) (fun _ => Nat.le_of_ble_eq_true rfl) (fun _ => []) ?_
  rintro ⟨n, lo, hi⟩ hpre
  have hpre : True := hpre
  refine by_nf (q := ((decide (n ≥ lo)) = true → ((Value.bool (decide (n ≤ hi)) = Value.bool (decide (n ≥ lo) && decide (n ≤ hi))))) ∧ ((decide (n ≥ lo)) = false → ((Value.bool false = Value.bool (decide (n ≥ lo) && decide (n ≤ hi)))))) (by kernel_rfl) ?_
  refine ⟨fun c1 => ?_, fun c1 => ?_⟩
  · skip
    replace c1 : (decide (n ≥ lo)) = true := c1
    try simp only [Bool.and_eq_true, Bool.or_eq_true, Bool.and_eq_false_iff, Bool.or_eq_false_iff, decide_eq_true_eq, decide_eq_false_iff_not, Bool.not_eq_true', Bool.not_eq_false', bne_iff_ne, ne_eq, beq_iff_eq, Bool.not_eq_true, Bool.not_eq_false, Int.not_lt, Int.not_le, gt_iff_lt, ge_iff_le, beq_eq_false_iff_ne, bne_eq_false_iff_eq] at c1
    have e : decide (n ≥ lo) = true := by simpa using c1
    show Value.bool (decide (n ≤ hi)) = Value.bool (decide (n ≥ lo) && decide (n ≤ hi))
    rw [e]; rfl
  · skip
    replace c1 : (decide (n ≥ lo)) = false := c1
    try simp only [Bool.and_eq_true, Bool.or_eq_true, Bool.and_eq_false_iff, Bool.or_eq_false_iff, decide_eq_true_eq, decide_eq_false_iff_not, Bool.not_eq_true', Bool.not_eq_false', bne_iff_ne, ne_eq, beq_iff_eq, Bool.not_eq_true, Bool.not_eq_false, Int.not_lt, Int.not_le, gt_iff_lt, ge_iff_le, beq_eq_false_iff_ne, bne_eq_false_iff_eq] at c1
    have e : decide (n ≥ lo) = false := by simpa using c1
    show Value.bool false = Value.bool (decide (n ≥ lo) && decide (n ≤ hi))
    rw [e]; rfl
end Go.Proofs.YthnkggacopepgaaGreat
