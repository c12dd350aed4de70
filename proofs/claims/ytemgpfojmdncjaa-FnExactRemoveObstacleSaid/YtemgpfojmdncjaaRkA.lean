/-
  Placements.
-/
import Derived.Test.YtemgpfojmdncjaaRkT
import Derived.Test.YtemgpfojmdncjaaRkL
namespace Go.Proofs.Ytemgpfojmdncjaa
set_option linter.unusedVariables false
set_option linter.unusedSimpArgs false
open Go.RowKit
def within_con : Con := { ι := Int × Int × Int, pre := fun i => True, args := fun i => [.one (.im (.int .i64 i.1)), .one (.im (.int .i64 i.2.1)), .one (.im (.int .i64 i.2.2))], res := fun i => ⟨false, [none], [.im (Value.bool (decide (i.1 ≥ i.2.1) && decide (i.1 ≤ i.2.2)))]⟩ }
set_option maxRecDepth 100000 in
theorem within_ok : within_con.Ok Try.prog 53 := by
  refine fn_ok (X := ⟨tt, [], [], 15⟩) mixed tt_ok (CTok.nil _) Try.func53 (by decide) rfl rfl rfl (fun _ => Nat.le_of_ble_eq_true rfl) (fun _ => Nat.le_of_ble_eq_true rfl) (fun _ => []) ?_
  rintro ⟨n, lo, hi⟩ hpre
  have hpre : True := hpre
  refine by_nf (q := ((decide (n ≥ lo)) = true → ((Value.bool (decide (n ≤ hi)) = Value.bool (decide (n ≥ lo) && decide (n ≤ hi))))) ∧ ((decide (n ≥ lo)) = false → ((Value.bool false = Value.bool (decide (n ≥ lo) && decide (n ≤ hi)))))) (by kernel_rfl) ?_
  refine ⟨fun c1 => ?_, fun c1 => ?_⟩
  · -- c1t: (decide (n ≥ lo)) = true
    replace c1 : (decide (n ≥ lo)) = true := c1
    try simp only [Bool.and_eq_true, Bool.or_eq_true, Bool.and_eq_false_iff, Bool.or_eq_false_iff, decide_eq_true_eq, decide_eq_false_iff_not, Bool.not_eq_true', Bool.not_eq_false', bne_iff_ne, ne_eq, beq_iff_eq, Bool.not_eq_true, Bool.not_eq_false, Int.not_lt, Int.not_le, gt_iff_lt, ge_iff_le, beq_eq_false_iff_ne, bne_eq_false_iff_eq] at c1
    have e : decide (n ≥ lo) = true := by simpa using c1
    -- l2: Value.bool (decide (n ≤ hi)) = Value.bool (decide (n ≥ lo) && decide (n ≤ hi))
    show Value.bool (decide (n ≤ hi)) = Value.bool (decide (n ≥ lo) && decide (n ≤ hi))
    rw [e]; rfl
  · -- c1f: (decide (n ≥ lo)) = false
    replace c1 : (decide (n ≥ lo)) = false := c1
    try simp only [Bool.and_eq_true, Bool.or_eq_true, Bool.and_eq_false_iff, Bool.or_eq_false_iff, decide_eq_true_eq, decide_eq_false_iff_not, Bool.not_eq_true', Bool.not_eq_false', bne_iff_ne, ne_eq, beq_iff_eq, Bool.not_eq_true, Bool.not_eq_false, Int.not_lt, Int.not_le, gt_iff_lt, ge_iff_le, beq_eq_false_iff_ne, bne_eq_false_iff_eq] at c1
    have e : decide (n ≥ lo) = false := by simpa using c1
    -- l3: Value.bool false = Value.bool (decide (n ≥ lo) && decide (n ≤ hi))
    show Value.bool false = Value.bool (decide (n ≥ lo) && decide (n ≤ hi))
    rw [e]; rfl
def l01In_con : Con := { ι := Int × Int × Int, pre := fun i => True, args := fun i => [.one (.im (.int .i64 i.1)), .one (.im (.int .i64 i.2.1)), .one (.im (.int .i64 i.2.2))], res := fun i => ⟨false, [none], [.im (Value.bool (decide (i.1 ≥ i.2.1) && decide (i.1 ≤ i.2.2)))]⟩ }
set_option maxRecDepth 100000 in
theorem l01In_ok : l01In_con.Ok Try.prog 52 := by
  refine fn_ok (X := ⟨tt, [], [], 15⟩) mixed tt_ok (CTok.nil _) Try.func52 (by decide) rfl rfl rfl (fun _ => Nat.le_of_ble_eq_true rfl) (fun _ => Nat.le_of_ble_eq_true rfl) (fun _ => []) ?_
  rintro ⟨n, lo, hi⟩ hpre
  have hpre : True := hpre
  refine by_nf (q := ((decide (n ≥ lo)) = true → ((Value.bool (decide (n ≤ hi)) = Value.bool (decide (n ≥ lo) && decide (n ≤ hi))))) ∧ ((decide (n ≥ lo)) = false → ((Value.bool false = Value.bool (decide (n ≥ lo) && decide (n ≤ hi)))))) (by kernel_rfl) ?_
  refine ⟨fun c1 => ?_, fun c1 => ?_⟩
  · -- c1t: (decide (n ≥ lo)) = true
    replace c1 : (decide (n ≥ lo)) = true := c1
    try simp only [Bool.and_eq_true, Bool.or_eq_true, Bool.and_eq_false_iff, Bool.or_eq_false_iff, decide_eq_true_eq, decide_eq_false_iff_not, Bool.not_eq_true', Bool.not_eq_false', bne_iff_ne, ne_eq, beq_iff_eq, Bool.not_eq_true, Bool.not_eq_false, Int.not_lt, Int.not_le, gt_iff_lt, ge_iff_le, beq_eq_false_iff_ne, bne_eq_false_iff_eq] at c1
    have e : decide (n ≥ lo) = true := by simpa using c1
    -- l2: Value.bool (decide (n ≤ hi)) = Value.bool (decide (n ≥ lo) && decide (n ≤ hi))
    show Value.bool (decide (n ≤ hi)) = Value.bool (decide (n ≥ lo) && decide (n ≤ hi))
    rw [e]; rfl
  · -- c1f: (decide (n ≥ lo)) = false
    replace c1 : (decide (n ≥ lo)) = false := c1
    try simp only [Bool.and_eq_true, Bool.or_eq_true, Bool.and_eq_false_iff, Bool.or_eq_false_iff, decide_eq_true_eq, decide_eq_false_iff_not, Bool.not_eq_true', Bool.not_eq_false', bne_iff_ne, ne_eq, beq_iff_eq, Bool.not_eq_true, Bool.not_eq_false, Int.not_lt, Int.not_le, gt_iff_lt, ge_iff_le, beq_eq_false_iff_ne, bne_eq_false_iff_eq] at c1
    have e : decide (n ≥ lo) = false := by simpa using c1
    -- l3: Value.bool false = Value.bool (decide (n ≥ lo) && decide (n ≤ hi))
    show Value.bool false = Value.bool (decide (n ≥ lo) && decide (n ≤ hi))
    rw [e]; rfl
def isHeading_con : Con := { ι := Int, pre := fun i => True, args := fun i => [.one (.im (.int .i64 i))], res := fun i => ⟨false, [none], [.im (Value.bool (decide (i ≥ 0) && decide (i ≤ 3)))]⟩ }
set_option maxRecDepth 100000 in
theorem isHeading_ok : isHeading_con.Ok Try.prog 109 := by
  refine fn_ok (X := ⟨tt, [(53, within_con)], [], 5⟩) mixed tt_ok (CTok.cons within_ok (CTok.nil _)) Try.func109 (by decide) rfl rfl rfl (fun _ => Nat.le_of_ble_eq_true rfl) (fun _ => Nat.le_of_ble_eq_true rfl) (fun _ => []) ?_
  intro (n : Int) hpre
  have hpre : True := hpre
  refine by_nf (q := ∃ i1 : Int × Int × Int, [DA.one (DC.im (Value.int .i64 n)), DA.one (DC.im (Value.int .i64 (0 : Int))), DA.one (DC.im (Value.int .i64 (3 : Int)))] = within_con.args i1 ∧ within_con.pre i1 ∧ ((Value.bool (decide (i1.1 ≥ i1.2.1) && decide (i1.1 ≤ i1.2.2)) = Value.bool (decide (n ≥ 0) && decide (n ≤ 3))))) (by kernel_rfl) ?_
  -- w1: within [DA.one (DC.im (Value.int .i64 n)), DA.one (DC.im (Value.int .i64 (0 : Int))), DA.one (DC.im (Value.int .i64 (3 : Int)))]
  refine ⟨(n, (0 : Int), (3 : Int)), by
    rfl, by
    first | trivial | (first | omega | assumption | exact hpre.1 | exact hpre.2 | (simp; done)), ?_⟩
  -- l4: Value.bool (decide (n ≥ (0 : Int)) && decide (n ≤ (3 : Int))) = Value.bool (decide (n ≥ 0) && decide (n ≤ 3))
  show Value.bool (decide (n ≥ (0 : Int)) && decide (n ≤ (3 : Int))) = Value.bool (decide (n ≥ 0) && decide (n ≤ 3))
  rfl
def iNextHeading_con : Con := { ι := Int × Int, pre := fun i => True, args := fun i => [.one (.im (.int .i64 i.1)), .one (.im (.int .i64 i.2))], res := fun i => ⟨false, [none], [.im (Value.int .i64 (nextH i.1 i.2))]⟩ }
set_option maxRecDepth 100000 in
theorem iNextHeading_ok : iNextHeading_con.Ok Try.prog 141 := by
  refine fn_ok (X := ⟨tt, [(109, isHeading_con)], [], 21⟩) mixed tt_ok (CTok.cons isHeading_ok (CTok.nil _)) Try.func141 (by decide) rfl rfl rfl (fun _ => Nat.le_of_ble_eq_true rfl) (fun _ => Nat.le_of_ble_eq_true rfl) (fun _ => []) ?_
  rintro ⟨h, t⟩ hpre
  have hpre : True := hpre
  refine by_nf (q := ∃ i1 : Int, [DA.one (DC.im (Value.int .i64 h))] = isHeading_con.args i1 ∧ isHeading_con.pre i1 ∧ (((!(!(decide (i1 ≥ 0) && decide (i1 ≤ 3)))) = true → (((t != (1 : Int)) = true → (((t != (-1 : Int)) = true → ((Value.int .i64 (-1 : Int) = Value.int .i64 (nextH h t)))) ∧ ((t != (-1 : Int)) = false → (((4 : Int) ≠ 0) ∧ ((Value.int .i64 (Int.tmod (IntKind.i64.wrap ((IntKind.i64.wrap (h + t)) + (4 : Int))) (4 : Int)) = Value.int .i64 (nextH h t))))))) ∧ ((t != (1 : Int)) = false → (((4 : Int) ≠ 0) ∧ ((Value.int .i64 (Int.tmod (IntKind.i64.wrap ((IntKind.i64.wrap (h + t)) + (4 : Int))) (4 : Int)) = Value.int .i64 (nextH h t))))))) ∧ ((!(!(decide (i1 ≥ 0) && decide (i1 ≤ 3)))) = false → ((Value.int .i64 (-1 : Int) = Value.int .i64 (nextH h t)))))) (by kernel_rfl) ?_
  -- w1: isHeading [DA.one (DC.im (Value.int .i64 h))]
  refine ⟨h, by
    rfl, by
    first | trivial | (first | omega | assumption | exact hpre.1 | exact hpre.2 | (simp; done)), ?_⟩
  refine ⟨fun c4 => ?_, fun c4 => ?_⟩
  · -- c4t: (!(!(decide (h ≥ 0) && decide (h ≤ 3)))) = true
    replace c4 : (!(!(decide (h ≥ 0) && decide (h ≤ 3)))) = true := c4
    try simp only [Bool.and_eq_true, Bool.or_eq_true, Bool.and_eq_false_iff, Bool.or_eq_false_iff, decide_eq_true_eq, decide_eq_false_iff_not, Bool.not_eq_true', Bool.not_eq_false', bne_iff_ne, ne_eq, beq_iff_eq, Bool.not_eq_true, Bool.not_eq_false, Int.not_lt, Int.not_le, gt_iff_lt, ge_iff_le, beq_eq_false_iff_ne, bne_eq_false_iff_eq] at c4
    refine ⟨fun c5 => ?_, fun c5 => ?_⟩
    · -- c5t: (t != (1 : Int)) = true
      replace c5 : (t != (1 : Int)) = true := c5
      try simp only [Bool.and_eq_true, Bool.or_eq_true, Bool.and_eq_false_iff, Bool.or_eq_false_iff, decide_eq_true_eq, decide_eq_false_iff_not, Bool.not_eq_true', Bool.not_eq_false', bne_iff_ne, ne_eq, beq_iff_eq, Bool.not_eq_true, Bool.not_eq_false, Int.not_lt, Int.not_le, gt_iff_lt, ge_iff_le, beq_eq_false_iff_ne, bne_eq_false_iff_eq] at c5
      refine ⟨fun c6 => ?_, fun c6 => ?_⟩
      · -- c6t: (t != (-1 : Int)) = true
        replace c6 : (t != (-1 : Int)) = true := c6
        try simp only [Bool.and_eq_true, Bool.or_eq_true, Bool.and_eq_false_iff, Bool.or_eq_false_iff, decide_eq_true_eq, decide_eq_false_iff_not, Bool.not_eq_true', Bool.not_eq_false', bne_iff_ne, ne_eq, beq_iff_eq, Bool.not_eq_true, Bool.not_eq_false, Int.not_lt, Int.not_le, gt_iff_lt, ge_iff_le, beq_eq_false_iff_ne, bne_eq_false_iff_eq] at c6
        -- l7: Value.int .i64 (-1 : Int) = Value.int .i64 (nextH h t)
        show Value.int .i64 (-1 : Int) = Value.int .i64 (nextH h t)
        first | (unfold nextH; rw [if_pos (by omega)]; (first | rw [wrap64 (x := h + t) (by omega) (by omega)] | rw [wrap64 (x := h + 4) (by omega) (by omega)]); rw [wrap64 (by omega) (by omega)]; try (congr 2; omega)) | (unfold nextH; rw [if_neg (by omega)])
      · -- c6f: (t != (-1 : Int)) = false
        replace c6 : (t != (-1 : Int)) = false := c6
        try simp only [Bool.and_eq_true, Bool.or_eq_true, Bool.and_eq_false_iff, Bool.or_eq_false_iff, decide_eq_true_eq, decide_eq_false_iff_not, Bool.not_eq_true', Bool.not_eq_false', bne_iff_ne, ne_eq, beq_iff_eq, Bool.not_eq_true, Bool.not_eq_false, Int.not_lt, Int.not_le, gt_iff_lt, ge_iff_le, beq_eq_false_iff_ne, bne_eq_false_iff_eq] at c6
        have o8 : (4 : Int) ≠ 0 := by
          first | rfl | omega | (simp; done) | (simp; omega)
        refine ⟨o8, ?_⟩
        -- l9: Value.int .i64 (Int.tmod (IntKind.i64.wrap ((IntKind.i64.wrap (h + t)) + (4 : Int))) (4 : Int)) = Value.int .i64 (nextH h t)
        show Value.int .i64 (Int.tmod (IntKind.i64.wrap ((IntKind.i64.wrap (h + t)) + (4 : Int))) (4 : Int)) = Value.int .i64 (nextH h t)
        first | (unfold nextH; rw [if_pos (by omega)]; (first | rw [wrap64 (x := h + t) (by omega) (by omega)] | rw [wrap64 (x := h + 4) (by omega) (by omega)]); rw [wrap64 (by omega) (by omega)]; try (congr 2; omega)) | (unfold nextH; rw [if_neg (by omega)])
    · -- c5f: (t != (1 : Int)) = false
      replace c5 : (t != (1 : Int)) = false := c5
      try simp only [Bool.and_eq_true, Bool.or_eq_true, Bool.and_eq_false_iff, Bool.or_eq_false_iff, decide_eq_true_eq, decide_eq_false_iff_not, Bool.not_eq_true', Bool.not_eq_false', bne_iff_ne, ne_eq, beq_iff_eq, Bool.not_eq_true, Bool.not_eq_false, Int.not_lt, Int.not_le, gt_iff_lt, ge_iff_le, beq_eq_false_iff_ne, bne_eq_false_iff_eq] at c5
      have o10 : (4 : Int) ≠ 0 := by
        first | rfl | omega | (simp; done) | (simp; omega)
      refine ⟨o10, ?_⟩
      -- l11: Value.int .i64 (Int.tmod (IntKind.i64.wrap ((IntKind.i64.wrap (h + t)) + (4 : Int))) (4 : Int)) = Value.int .i64 (nextH h t)
      show Value.int .i64 (Int.tmod (IntKind.i64.wrap ((IntKind.i64.wrap (h + t)) + (4 : Int))) (4 : Int)) = Value.int .i64 (nextH h t)
      first | (unfold nextH; rw [if_pos (by omega)]; (first | rw [wrap64 (x := h + t) (by omega) (by omega)] | rw [wrap64 (x := h + 4) (by omega) (by omega)]); rw [wrap64 (by omega) (by omega)]; try (congr 2; omega)) | (unfold nextH; rw [if_neg (by omega)])
  · -- c4f: (!(!(decide (h ≥ 0) && decide (h ≤ 3)))) = false
    replace c4 : (!(!(decide (h ≥ 0) && decide (h ≤ 3)))) = false := c4
    try simp only [Bool.and_eq_true, Bool.or_eq_true, Bool.and_eq_false_iff, Bool.or_eq_false_iff, decide_eq_true_eq, decide_eq_false_iff_not, Bool.not_eq_true', Bool.not_eq_false', bne_iff_ne, ne_eq, beq_iff_eq, Bool.not_eq_true, Bool.not_eq_false, Int.not_lt, Int.not_le, gt_iff_lt, ge_iff_le, beq_eq_false_iff_ne, bne_eq_false_iff_eq] at c4
    -- l12: Value.int .i64 (-1 : Int) = Value.int .i64 (nextH h t)
    show Value.int .i64 (-1 : Int) = Value.int .i64 (nextH h t)
    first | (unfold nextH; rw [if_pos (by omega)]; (first | rw [wrap64 (x := h + t) (by omega) (by omega)] | rw [wrap64 (x := h + 4) (by omega) (by omega)]); rw [wrap64 (by omega) (by omega)]; try (congr 2; omega)) | (unfold nextH; rw [if_neg (by omega)])
def sNextHeading_con : Con := { ι := Int × Int, pre := fun i => True, args := fun i => [.one (.im (.int .i64 i.1)), .one (.im (.int .i64 i.2))], res := fun i => ⟨false, [none], [.im (Value.int .i64 (nextH i.1 i.2))]⟩ }
set_option maxRecDepth 100000 in
theorem sNextHeading_ok : sNextHeading_con.Ok Try.prog 112 := by
  refine fn_ok (X := ⟨tt, [(52, l01In_con)], [], 21⟩) mixed tt_ok (CTok.cons l01In_ok (CTok.nil _)) Try.func112 (by decide) rfl rfl rfl (fun _ => Nat.le_of_ble_eq_true rfl) (fun _ => Nat.le_of_ble_eq_true rfl) (fun _ => []) ?_
  rintro ⟨h, t⟩ hpre
  have hpre : True := hpre
  refine by_nf (q := ∃ i1 : Int × Int × Int, [DA.one (DC.im (Value.int .i64 h)), DA.one (DC.im (Value.int .i64 (0 : Int))), DA.one (DC.im (Value.int .i64 (3 : Int)))] = l01In_con.args i1 ∧ l01In_con.pre i1 ∧ (((!(!(decide (i1.1 ≥ i1.2.1) && decide (i1.1 ≤ i1.2.2)))) = true → (((t != (1 : Int)) = true → (((t != (-1 : Int)) = true → ((Value.int .i64 (-1 : Int) = Value.int .i64 (nextH h t)))) ∧ ((t != (-1 : Int)) = false → (((4 : Int) ≠ 0) ∧ ((Value.int .i64 (Int.tmod (IntKind.i64.wrap ((IntKind.i64.wrap (h + (4 : Int))) + t)) (4 : Int)) = Value.int .i64 (nextH h t))))))) ∧ ((t != (1 : Int)) = false → (((4 : Int) ≠ 0) ∧ ((Value.int .i64 (Int.tmod (IntKind.i64.wrap ((IntKind.i64.wrap (h + (4 : Int))) + t)) (4 : Int)) = Value.int .i64 (nextH h t))))))) ∧ ((!(!(decide (i1.1 ≥ i1.2.1) && decide (i1.1 ≤ i1.2.2)))) = false → ((Value.int .i64 (-1 : Int) = Value.int .i64 (nextH h t)))))) (by kernel_rfl) ?_
  -- w1: l01In [DA.one (DC.im (Value.int .i64 h)), DA.one (DC.im (Value.int .i64 (0 : Int))), DA.one (DC.im (Value.int .i64 (3 : Int)))]
  refine ⟨(h, (0 : Int), (3 : Int)), by
    rfl, by
    first | trivial | (first | omega | assumption | exact hpre.1 | exact hpre.2 | (simp; done)), ?_⟩
  refine ⟨fun c4 => ?_, fun c4 => ?_⟩
  · -- c4t: (!(!(decide (h ≥ (0 : Int)) && decide (h ≤ (3 : Int))))) = true
    replace c4 : (!(!(decide (h ≥ (0 : Int)) && decide (h ≤ (3 : Int))))) = true := c4
    try simp only [Bool.and_eq_true, Bool.or_eq_true, Bool.and_eq_false_iff, Bool.or_eq_false_iff, decide_eq_true_eq, decide_eq_false_iff_not, Bool.not_eq_true', Bool.not_eq_false', bne_iff_ne, ne_eq, beq_iff_eq, Bool.not_eq_true, Bool.not_eq_false, Int.not_lt, Int.not_le, gt_iff_lt, ge_iff_le, beq_eq_false_iff_ne, bne_eq_false_iff_eq] at c4
    refine ⟨fun c5 => ?_, fun c5 => ?_⟩
    · -- c5t: (t != (1 : Int)) = true
      replace c5 : (t != (1 : Int)) = true := c5
      try simp only [Bool.and_eq_true, Bool.or_eq_true, Bool.and_eq_false_iff, Bool.or_eq_false_iff, decide_eq_true_eq, decide_eq_false_iff_not, Bool.not_eq_true', Bool.not_eq_false', bne_iff_ne, ne_eq, beq_iff_eq, Bool.not_eq_true, Bool.not_eq_false, Int.not_lt, Int.not_le, gt_iff_lt, ge_iff_le, beq_eq_false_iff_ne, bne_eq_false_iff_eq] at c5
      refine ⟨fun c6 => ?_, fun c6 => ?_⟩
      · -- c6t: (t != (-1 : Int)) = true
        replace c6 : (t != (-1 : Int)) = true := c6
        try simp only [Bool.and_eq_true, Bool.or_eq_true, Bool.and_eq_false_iff, Bool.or_eq_false_iff, decide_eq_true_eq, decide_eq_false_iff_not, Bool.not_eq_true', Bool.not_eq_false', bne_iff_ne, ne_eq, beq_iff_eq, Bool.not_eq_true, Bool.not_eq_false, Int.not_lt, Int.not_le, gt_iff_lt, ge_iff_le, beq_eq_false_iff_ne, bne_eq_false_iff_eq] at c6
        -- l7: Value.int .i64 (-1 : Int) = Value.int .i64 (nextH h t)
        show Value.int .i64 (-1 : Int) = Value.int .i64 (nextH h t)
        first | (unfold nextH; rw [if_pos (by omega)]; (first | rw [wrap64 (x := h + t) (by omega) (by omega)] | rw [wrap64 (x := h + 4) (by omega) (by omega)]); rw [wrap64 (by omega) (by omega)]; try (congr 2; omega)) | (unfold nextH; rw [if_neg (by omega)])
      · -- c6f: (t != (-1 : Int)) = false
        replace c6 : (t != (-1 : Int)) = false := c6
        try simp only [Bool.and_eq_true, Bool.or_eq_true, Bool.and_eq_false_iff, Bool.or_eq_false_iff, decide_eq_true_eq, decide_eq_false_iff_not, Bool.not_eq_true', Bool.not_eq_false', bne_iff_ne, ne_eq, beq_iff_eq, Bool.not_eq_true, Bool.not_eq_false, Int.not_lt, Int.not_le, gt_iff_lt, ge_iff_le, beq_eq_false_iff_ne, bne_eq_false_iff_eq] at c6
        have o8 : (4 : Int) ≠ 0 := by
          first | rfl | omega | (simp; done) | (simp; omega)
        refine ⟨o8, ?_⟩
        -- l9: Value.int .i64 (Int.tmod (IntKind.i64.wrap ((IntKind.i64.wrap (h + (4 : Int))) + t)) (4 : Int)) = Value.int .i64 (nextH h t)
        show Value.int .i64 (Int.tmod (IntKind.i64.wrap ((IntKind.i64.wrap (h + (4 : Int))) + t)) (4 : Int)) = Value.int .i64 (nextH h t)
        first | (unfold nextH; rw [if_pos (by omega)]; (first | rw [wrap64 (x := h + t) (by omega) (by omega)] | rw [wrap64 (x := h + 4) (by omega) (by omega)]); rw [wrap64 (by omega) (by omega)]; try (congr 2; omega)) | (unfold nextH; rw [if_neg (by omega)])
    · -- c5f: (t != (1 : Int)) = false
      replace c5 : (t != (1 : Int)) = false := c5
      try simp only [Bool.and_eq_true, Bool.or_eq_true, Bool.and_eq_false_iff, Bool.or_eq_false_iff, decide_eq_true_eq, decide_eq_false_iff_not, Bool.not_eq_true', Bool.not_eq_false', bne_iff_ne, ne_eq, beq_iff_eq, Bool.not_eq_true, Bool.not_eq_false, Int.not_lt, Int.not_le, gt_iff_lt, ge_iff_le, beq_eq_false_iff_ne, bne_eq_false_iff_eq] at c5
      have o10 : (4 : Int) ≠ 0 := by
        first | rfl | omega | (simp; done) | (simp; omega)
      refine ⟨o10, ?_⟩
      -- l11: Value.int .i64 (Int.tmod (IntKind.i64.wrap ((IntKind.i64.wrap (h + (4 : Int))) + t)) (4 : Int)) = Value.int .i64 (nextH h t)
      show Value.int .i64 (Int.tmod (IntKind.i64.wrap ((IntKind.i64.wrap (h + (4 : Int))) + t)) (4 : Int)) = Value.int .i64 (nextH h t)
      first | (unfold nextH; rw [if_pos (by omega)]; (first | rw [wrap64 (x := h + t) (by omega) (by omega)] | rw [wrap64 (x := h + 4) (by omega) (by omega)]); rw [wrap64 (by omega) (by omega)]; try (congr 2; omega)) | (unfold nextH; rw [if_neg (by omega)])
  · -- c4f: (!(!(decide (h ≥ (0 : Int)) && decide (h ≤ (3 : Int))))) = false
    replace c4 : (!(!(decide (h ≥ (0 : Int)) && decide (h ≤ (3 : Int))))) = false := c4
    try simp only [Bool.and_eq_true, Bool.or_eq_true, Bool.and_eq_false_iff, Bool.or_eq_false_iff, decide_eq_true_eq, decide_eq_false_iff_not, Bool.not_eq_true', Bool.not_eq_false', bne_iff_ne, ne_eq, beq_iff_eq, Bool.not_eq_true, Bool.not_eq_false, Int.not_lt, Int.not_le, gt_iff_lt, ge_iff_le, beq_eq_false_iff_ne, bne_eq_false_iff_eq] at c4
    -- l12: Value.int .i64 (-1 : Int) = Value.int .i64 (nextH h t)
    show Value.int .i64 (-1 : Int) = Value.int .i64 (nextH h t)
    first | (unfold nextH; rw [if_pos (by omega)]; (first | rw [wrap64 (x := h + t) (by omega) (by omega)] | rw [wrap64 (x := h + 4) (by omega) (by omega)]); rw [wrap64 (by omega) (by omega)]; try (congr 2; omega)) | (unfold nextH; rw [if_neg (by omega)])
def cloneInts_con : Con := { ι := (List (List Dat)), pre := fun i => i.length ≤ 1073741824, args := fun i => [.one (.sl 3 [.int] i)], res := fun i => ⟨false, [none], [.own 3 [.int] i]⟩ }
set_option maxRecDepth 100000 in
theorem cloneInts_ok : cloneInts_con.Ok Try.prog 159 := by
  refine fn_ok (X := ⟨tt, [], [], 8⟩) mixed tt_ok (CTok.nil _) Try.func159 (by decide) rfl rfl rfl (fun _ => Nat.le_of_ble_eq_true rfl) (fun _ => Nat.le_of_ble_eq_true rfl) (fun _ => []) ?_
  intro (ls : List (List Dat)) hpre
  have hpre : ls.length ≤ 1073741824 := hpre
  refine by_nf (q := ∀ b1 : Bool, (b1 = true → ls = []) → ((b1 = true → ((([] : List (List Dat)) = ls))) ∧ (b1 = false → ((([] : List (List Dat)).length + ls.length ≤ 1073741824) ∧ (((([] : List (List Dat)) ++ ls) = ls)))))) (by kernel_rfl) ?_
  intro b1 q1
  refine ⟨fun c2 => ?_, fun c2 => ?_⟩
  · -- c2t: b1 = true
    replace c2 : b1 = true := c2
    try simp only [Bool.and_eq_true, Bool.or_eq_true, Bool.and_eq_false_iff, Bool.or_eq_false_iff, decide_eq_true_eq, decide_eq_false_iff_not, Bool.not_eq_true', Bool.not_eq_false', bne_iff_ne, ne_eq, beq_iff_eq, Bool.not_eq_true, Bool.not_eq_false, Int.not_lt, Int.not_le, gt_iff_lt, ge_iff_le, beq_eq_false_iff_ne, bne_eq_false_iff_eq] at c2
    -- l3: ([] : List (List Dat)) = ls
    show ([] : List (List Dat)) = ls
    first | rfl | (rw [q1 c2])
  · -- c2f: b1 = false
    replace c2 : b1 = false := c2
    try simp only [Bool.and_eq_true, Bool.or_eq_true, Bool.and_eq_false_iff, Bool.or_eq_false_iff, decide_eq_true_eq, decide_eq_false_iff_not, Bool.not_eq_true', Bool.not_eq_false', bne_iff_ne, ne_eq, beq_iff_eq, Bool.not_eq_true, Bool.not_eq_false, Int.not_lt, Int.not_le, gt_iff_lt, ge_iff_le, beq_eq_false_iff_ne, bne_eq_false_iff_eq] at c2
    have o4 : ([] : List (List Dat)).length + ls.length ≤ 1073741824 := by
      first | rfl | omega | (simp; done) | (simp; omega)
    refine ⟨o4, ?_⟩
    -- l5: (([] : List (List Dat)) ++ ls) = ls
    show (([] : List (List Dat)) ++ ls) = ls
    first | rfl | (rw [q1 c2])
def ownRat_con : Con := { ι := RatD, pre := fun i => i.ok, args := fun i => [.agg [.im (.bool i.neg), .sl 3 [.int] i.num, .sl 3 [.int] i.den]], res := fun i => ⟨false, [some 3], [.im (Value.bool i.neg), .own 3 [.int] i.num, .own 3 [.int] i.den]⟩ }
set_option maxRecDepth 100000 in
theorem ownRat_ok : ownRat_con.Ok Try.prog 140 := by
  refine fn_ok (X := ⟨tt, [(159, cloneInts_con)], [], 15⟩) mixed tt_ok (CTok.cons cloneInts_ok (CTok.nil _)) Try.func140 (by decide) rfl rfl rfl (fun _ => Nat.le_of_ble_eq_true rfl) (fun _ => Nat.le_of_ble_eq_true rfl) (fun _ => []) ?_
  intro (r : RatD) hpre
  have hpre : r.ok := hpre
  refine by_nf (q := ∃ i1 : (List (List Dat)), [DA.one (DC.sl 3 [.int] r.num)] = cloneInts_con.args i1 ∧ cloneInts_con.pre i1 ∧ (∃ i2 : (List (List Dat)), [DA.one (DC.sl 3 [.int] r.den)] = cloneInts_con.args i2 ∧ cloneInts_con.pre i2 ∧ ((Value.bool r.neg = Value.bool r.neg) ∧ (i1 = r.num) ∧ (i2 = r.den)))) (by kernel_rfl) ?_
  -- w1: cloneInts [DA.one (DC.sl 3 [.int] r.num)]
  refine ⟨r.num, by
    rfl, by
    show r.num.length ≤ 1073741824
    first | trivial | (first | omega | assumption | exact hpre.1 | exact hpre.2 | (simp; done)), ?_⟩
  -- w4: cloneInts [DA.one (DC.sl 3 [.int] r.den)]
  refine ⟨r.den, by
    rfl, by
    show r.den.length ≤ 1073741824
    first | trivial | (first | omega | assumption | exact hpre.1 | exact hpre.2 | (simp; done)), ?_⟩
  refine ⟨?_, ?_⟩
  · -- l7: Value.bool r.neg = Value.bool r.neg
    show Value.bool r.neg = Value.bool r.neg
    rfl
  refine ⟨?_, ?_⟩
  · -- l8: r.num = r.num
    show r.num = r.num
    rfl
  -- l9: r.den = r.den
  show r.den = r.den
  rfl
def l04Copy_con : Con := { ι := RatD, pre := fun i => i.ok, args := fun i => [.agg [.im (.bool i.neg), .sl 3 [.int] i.num, .sl 3 [.int] i.den]], res := fun i => ⟨false, [some 3], [.im (Value.bool i.neg), .own 3 [.int] i.num, .own 3 [.int] i.den]⟩ }
set_option maxRecDepth 100000 in
theorem l04Copy_ok : l04Copy_con.Ok Try.prog 113 := by
  refine fn_ok (X := ⟨tt, [], [], 17⟩) mixed tt_ok (CTok.nil _) Try.func113 (by decide) rfl rfl rfl (fun _ => Nat.le_of_ble_eq_true rfl) (fun _ => Nat.le_of_ble_eq_true rfl) (fun _ => []) ?_
  intro (r : RatD) hpre
  have hpre : r.ok := hpre
  refine by_nf (q := (([] : List (List Dat)).length + r.num.length ≤ 1073741824) ∧ ((([] : List (List Dat)).length + r.den.length ≤ 1073741824) ∧ ((Value.bool r.neg = Value.bool r.neg) ∧ ((([] : List (List Dat)) ++ r.num) = r.num) ∧ ((([] : List (List Dat)) ++ r.den) = r.den)))) (by kernel_rfl) ?_
  obtain ⟨h1, h2⟩ := hpre
  have o1 : ([] : List (List Dat)).length + r.num.length ≤ 1073741824 := by
    first | rfl | (simp only [List.length_nil]; omega)
  refine ⟨o1, ?_⟩
  have o2 : ([] : List (List Dat)).length + r.den.length ≤ 1073741824 := by
    first | rfl | (simp only [List.length_nil]; omega)
  refine ⟨o2, ?_⟩
  refine ⟨?_, ?_⟩
  · -- l3: Value.bool r.neg = Value.bool r.neg
    show Value.bool r.neg = Value.bool r.neg
    rfl
  refine ⟨?_, ?_⟩
  · -- l4: (([] : List (List Dat)) ++ r.num) = r.num
    show (([] : List (List Dat)) ++ r.num) = r.num
    rfl
  -- l5: (([] : List (List Dat)) ++ r.den) = r.den
  show (([] : List (List Dat)) ++ r.den) = r.den
  rfl
def ownPoint_con : Con := { ι := PtD, pre := fun i => i.ok, args := fun i => [.agg [.im (.bool i.x.neg), .sl 3 [.int] i.x.num, .sl 3 [.int] i.x.den, .im (.bool i.y.neg), .sl 3 [.int] i.y.num, .sl 3 [.int] i.y.den]], res := fun i => ⟨false, [some 6], [.im (Value.bool i.x.neg), .own 3 [.int] i.x.num, .own 3 [.int] i.x.den, .im (Value.bool i.y.neg), .own 3 [.int] i.y.num, .own 3 [.int] i.y.den]⟩ }
set_option maxRecDepth 100000 in
theorem ownPoint_ok : ownPoint_con.Ok Try.prog 115 := by
  refine fn_ok (X := ⟨tt, [(140, ownRat_con)], [], 10⟩) mixed tt_ok (CTok.cons ownRat_ok (CTok.nil _)) Try.func115 (by decide) rfl rfl rfl (fun _ => Nat.le_of_ble_eq_true rfl) (fun _ => Nat.le_of_ble_eq_true rfl) (fun _ => []) ?_
  intro (p : PtD) hpre
  have hpre : p.ok := hpre
  refine by_nf (q := ∃ i1 : RatD, [DA.agg [DC.im (Value.bool p.x.neg), DC.sl 3 [.int] p.x.num, DC.sl 3 [.int] p.x.den]] = ownRat_con.args i1 ∧ ownRat_con.pre i1 ∧ (∃ i2 : RatD, [DA.agg [DC.im (Value.bool p.y.neg), DC.sl 3 [.int] p.y.num, DC.sl 3 [.int] p.y.den]] = ownRat_con.args i2 ∧ ownRat_con.pre i2 ∧ ((Value.bool i1.neg = Value.bool p.x.neg) ∧ (i1.num = p.x.num) ∧ (i1.den = p.x.den) ∧ (Value.bool i2.neg = Value.bool p.y.neg) ∧ (i2.num = p.y.num) ∧ (i2.den = p.y.den)))) (by kernel_rfl) ?_
  -- w1: ownRat [DA.agg [DC.im (Value.bool p.x.neg), DC.sl 3 [.int] p.x.num, DC.sl 3 [.int] p.x.den]]
  refine ⟨p.x, by
    rfl, by
    show p.x.ok
    first | trivial | (first | omega | assumption | exact hpre.1 | exact hpre.2 | (simp; done)), ?_⟩
  -- w4: ownRat [DA.agg [DC.im (Value.bool p.y.neg), DC.sl 3 [.int] p.y.num, DC.sl 3 [.int] p.y.den]]
  refine ⟨p.y, by
    rfl, by
    show p.y.ok
    first | trivial | (first | omega | assumption | exact hpre.1 | exact hpre.2 | (simp; done)), ?_⟩
  refine ⟨?_, ?_⟩
  · -- l7: Value.bool p.x.neg = Value.bool p.x.neg
    show Value.bool p.x.neg = Value.bool p.x.neg
    rfl
  refine ⟨?_, ?_⟩
  · -- l8: p.x.num = p.x.num
    show p.x.num = p.x.num
    rfl
  refine ⟨?_, ?_⟩
  · -- l9: p.x.den = p.x.den
    show p.x.den = p.x.den
    rfl
  refine ⟨?_, ?_⟩
  · -- l10: Value.bool p.y.neg = Value.bool p.y.neg
    show Value.bool p.y.neg = Value.bool p.y.neg
    rfl
  refine ⟨?_, ?_⟩
  · -- l11: p.y.num = p.y.num
    show p.y.num = p.y.num
    rfl
  -- l12: p.y.den = p.y.den
  show p.y.den = p.y.den
  rfl
def l05Copy_con : Con := { ι := PtD, pre := fun i => i.ok, args := fun i => [.agg [.im (.bool i.x.neg), .sl 3 [.int] i.x.num, .sl 3 [.int] i.x.den, .im (.bool i.y.neg), .sl 3 [.int] i.y.num, .sl 3 [.int] i.y.den]], res := fun i => ⟨false, [some 6], [.im (Value.bool i.x.neg), .own 3 [.int] i.x.num, .own 3 [.int] i.x.den, .im (Value.bool i.y.neg), .own 3 [.int] i.y.num, .own 3 [.int] i.y.den]⟩ }
set_option maxRecDepth 100000 in
theorem l05Copy_ok : l05Copy_con.Ok Try.prog 65 := by
  refine fn_ok (X := ⟨tt, [(113, l04Copy_con)], [], 10⟩) mixed tt_ok (CTok.cons l04Copy_ok (CTok.nil _)) Try.func65 (by decide) rfl rfl rfl (fun _ => Nat.le_of_ble_eq_true rfl) (fun _ => Nat.le_of_ble_eq_true rfl) (fun _ => []) ?_
  intro (p : PtD) hpre
  have hpre : p.ok := hpre
  refine by_nf (q := ∃ i1 : RatD, [DA.agg [DC.im (Value.bool p.x.neg), DC.sl 3 [.int] p.x.num, DC.sl 3 [.int] p.x.den]] = l04Copy_con.args i1 ∧ l04Copy_con.pre i1 ∧ (∃ i2 : RatD, [DA.agg [DC.im (Value.bool p.y.neg), DC.sl 3 [.int] p.y.num, DC.sl 3 [.int] p.y.den]] = l04Copy_con.args i2 ∧ l04Copy_con.pre i2 ∧ ((Value.bool i1.neg = Value.bool p.x.neg) ∧ (i1.num = p.x.num) ∧ (i1.den = p.x.den) ∧ (Value.bool i2.neg = Value.bool p.y.neg) ∧ (i2.num = p.y.num) ∧ (i2.den = p.y.den)))) (by kernel_rfl) ?_
  -- w1: l04Copy [DA.agg [DC.im (Value.bool p.x.neg), DC.sl 3 [.int] p.x.num, DC.sl 3 [.int] p.x.den]]
  refine ⟨p.x, by
    rfl, by
    show p.x.ok
    first | trivial | (first | omega | assumption | exact hpre.1 | exact hpre.2 | (simp; done)), ?_⟩
  -- w4: l04Copy [DA.agg [DC.im (Value.bool p.y.neg), DC.sl 3 [.int] p.y.num, DC.sl 3 [.int] p.y.den]]
  refine ⟨p.y, by
    rfl, by
    show p.y.ok
    first | trivial | (first | omega | assumption | exact hpre.1 | exact hpre.2 | (simp; done)), ?_⟩
  refine ⟨?_, ?_⟩
  · -- l7: Value.bool p.x.neg = Value.bool p.x.neg
    show Value.bool p.x.neg = Value.bool p.x.neg
    rfl
  refine ⟨?_, ?_⟩
  · -- l8: p.x.num = p.x.num
    show p.x.num = p.x.num
    rfl
  refine ⟨?_, ?_⟩
  · -- l9: p.x.den = p.x.den
    show p.x.den = p.x.den
    rfl
  refine ⟨?_, ?_⟩
  · -- l10: Value.bool p.y.neg = Value.bool p.y.neg
    show Value.bool p.y.neg = Value.bool p.y.neg
    rfl
  refine ⟨?_, ?_⟩
  · -- l11: p.y.num = p.y.num
    show p.y.num = p.y.num
    rfl
  -- l12: p.y.den = p.y.den
  show p.y.den = p.y.den
  rfl
def stepped_con : Con := { ι := PlD × PlD, pre := fun i => True, args := fun i => [.agg [.im (.int .i64 i.1.h), .im (.bool i.1.pt.x.neg), .sl 3 [.int] i.1.pt.x.num, .sl 3 [.int] i.1.pt.x.den, .im (.bool i.1.pt.y.neg), .sl 3 [.int] i.1.pt.y.num, .sl 3 [.int] i.1.pt.y.den], .agg [.im (.int .i64 i.2.h), .im (.bool i.2.pt.x.neg), .sl 3 [.int] i.2.pt.x.num, .sl 3 [.int] i.2.pt.x.den, .im (.bool i.2.pt.y.neg), .sl 3 [.int] i.2.pt.y.num, .sl 3 [.int] i.2.pt.y.den]], res := fun i => ⟨false, [some 7], [.im (Value.int .i64 ((afterS i.1 i.2).h)), .im (Value.bool ((afterS i.1 i.2).pt.x.neg)), .view 3 [.int] ((afterS i.1 i.2).pt.x.num), .view 3 [.int] ((afterS i.1 i.2).pt.x.den), .im (Value.bool ((afterS i.1 i.2).pt.y.neg)), .view 3 [.int] ((afterS i.1 i.2).pt.y.num), .view 3 [.int] ((afterS i.1 i.2).pt.y.den)]⟩ }
set_option maxRecDepth 100000 in
theorem stepped_ok : stepped_con.Ok Try.prog 116 := by
  refine fn_ok (X := ⟨tt, [(141, iNextHeading_con)], [], 22⟩) mixed tt_ok (CTok.cons iNextHeading_ok (CTok.nil _)) Try.func116 (by decide) rfl rfl rfl (fun _ => Nat.le_of_ble_eq_true rfl) (fun _ => Nat.le_of_ble_eq_true rfl) (fun _ => []) ?_
  rintro ⟨p, x⟩ hpre
  have hpre : True := hpre
  refine by_nf (q := ((x.h == (0 : Int)) = true → ((Value.int .i64 p.h = Value.int .i64 ((afterS p x).h)) ∧ (Value.bool x.pt.x.neg = Value.bool ((afterS p x).pt.x.neg)) ∧ (x.pt.x.num = (afterS p x).pt.x.num) ∧ (x.pt.x.den = (afterS p x).pt.x.den) ∧ (Value.bool x.pt.y.neg = Value.bool ((afterS p x).pt.y.neg)) ∧ (x.pt.y.num = (afterS p x).pt.y.num) ∧ (x.pt.y.den = (afterS p x).pt.y.den))) ∧ ((x.h == (0 : Int)) = false → (((x.h == (1 : Int)) = true → (∃ i1 : Int × Int, [DA.one (DC.im (Value.int .i64 p.h)), DA.one (DC.im (Value.int .i64 x.h))] = iNextHeading_con.args i1 ∧ iNextHeading_con.pre i1 ∧ ((Value.int .i64 (nextH i1.1 i1.2) = Value.int .i64 ((afterS p x).h)) ∧ (Value.bool p.pt.x.neg = Value.bool ((afterS p x).pt.x.neg)) ∧ (p.pt.x.num = (afterS p x).pt.x.num) ∧ (p.pt.x.den = (afterS p x).pt.x.den) ∧ (Value.bool p.pt.y.neg = Value.bool ((afterS p x).pt.y.neg)) ∧ (p.pt.y.num = (afterS p x).pt.y.num) ∧ (p.pt.y.den = (afterS p x).pt.y.den)))) ∧ ((x.h == (1 : Int)) = false → (((x.h == (-1 : Int)) = true → (∃ i2 : Int × Int, [DA.one (DC.im (Value.int .i64 p.h)), DA.one (DC.im (Value.int .i64 x.h))] = iNextHeading_con.args i2 ∧ iNextHeading_con.pre i2 ∧ ((Value.int .i64 (nextH i2.1 i2.2) = Value.int .i64 ((afterS p x).h)) ∧ (Value.bool p.pt.x.neg = Value.bool ((afterS p x).pt.x.neg)) ∧ (p.pt.x.num = (afterS p x).pt.x.num) ∧ (p.pt.x.den = (afterS p x).pt.x.den) ∧ (Value.bool p.pt.y.neg = Value.bool ((afterS p x).pt.y.neg)) ∧ (p.pt.y.num = (afterS p x).pt.y.num) ∧ (p.pt.y.den = (afterS p x).pt.y.den)))) ∧ ((x.h == (-1 : Int)) = false → ((Value.int .i64 p.h = Value.int .i64 ((afterS p x).h)) ∧ (Value.bool p.pt.x.neg = Value.bool ((afterS p x).pt.x.neg)) ∧ (p.pt.x.num = (afterS p x).pt.x.num) ∧ (p.pt.x.den = (afterS p x).pt.x.den) ∧ (Value.bool p.pt.y.neg = Value.bool ((afterS p x).pt.y.neg)) ∧ (p.pt.y.num = (afterS p x).pt.y.num) ∧ (p.pt.y.den = (afterS p x).pt.y.den)))))))) (by kernel_rfl) ?_
  refine ⟨fun c1 => ?_, fun c1 => ?_⟩
  · -- c1t: (x.h == (0 : Int)) = true
    replace c1 : (x.h == (0 : Int)) = true := c1
    try simp only [Bool.and_eq_true, Bool.or_eq_true, Bool.and_eq_false_iff, Bool.or_eq_false_iff, decide_eq_true_eq, decide_eq_false_iff_not, Bool.not_eq_true', Bool.not_eq_false', bne_iff_ne, ne_eq, beq_iff_eq, Bool.not_eq_true, Bool.not_eq_false, Int.not_lt, Int.not_le, gt_iff_lt, ge_iff_le, beq_eq_false_iff_ne, bne_eq_false_iff_eq] at c1
    refine ⟨?_, ?_⟩
    · -- l2: Value.int .i64 p.h = Value.int .i64 ((afterS p x).h)
      show Value.int .i64 p.h = Value.int .i64 ((afterS p x).h)
      first | (simp [afterS, *]; done) | (unfold afterS; rw [if_neg (by simp at *; omega), if_neg (by simp at *; omega)]) | (unfold afterS; rw [if_neg (by simp at *; omega), if_pos (by simp at *; omega)])
    refine ⟨?_, ?_⟩
    · -- l3: Value.bool x.pt.x.neg = Value.bool ((afterS p x).pt.x.neg)
      show Value.bool x.pt.x.neg = Value.bool ((afterS p x).pt.x.neg)
      first | (simp [afterS, *]; done) | (unfold afterS; rw [if_neg (by simp at *; omega), if_neg (by simp at *; omega)]) | (unfold afterS; rw [if_neg (by simp at *; omega), if_pos (by simp at *; omega)])
    refine ⟨?_, ?_⟩
    · -- l4: x.pt.x.num = (afterS p x).pt.x.num
      show x.pt.x.num = (afterS p x).pt.x.num
      first | (simp [afterS, *]; done) | (unfold afterS; rw [if_neg (by simp at *; omega), if_neg (by simp at *; omega)]) | (unfold afterS; rw [if_neg (by simp at *; omega), if_pos (by simp at *; omega)])
    refine ⟨?_, ?_⟩
    · -- l5: x.pt.x.den = (afterS p x).pt.x.den
      show x.pt.x.den = (afterS p x).pt.x.den
      first | (simp [afterS, *]; done) | (unfold afterS; rw [if_neg (by simp at *; omega), if_neg (by simp at *; omega)]) | (unfold afterS; rw [if_neg (by simp at *; omega), if_pos (by simp at *; omega)])
    refine ⟨?_, ?_⟩
    · -- l6: Value.bool x.pt.y.neg = Value.bool ((afterS p x).pt.y.neg)
      show Value.bool x.pt.y.neg = Value.bool ((afterS p x).pt.y.neg)
      first | (simp [afterS, *]; done) | (unfold afterS; rw [if_neg (by simp at *; omega), if_neg (by simp at *; omega)]) | (unfold afterS; rw [if_neg (by simp at *; omega), if_pos (by simp at *; omega)])
    refine ⟨?_, ?_⟩
    · -- l7: x.pt.y.num = (afterS p x).pt.y.num
      show x.pt.y.num = (afterS p x).pt.y.num
      first | (simp [afterS, *]; done) | (unfold afterS; rw [if_neg (by simp at *; omega), if_neg (by simp at *; omega)]) | (unfold afterS; rw [if_neg (by simp at *; omega), if_pos (by simp at *; omega)])
    -- l8: x.pt.y.den = (afterS p x).pt.y.den
    show x.pt.y.den = (afterS p x).pt.y.den
    first | (simp [afterS, *]; done) | (unfold afterS; rw [if_neg (by simp at *; omega), if_neg (by simp at *; omega)]) | (unfold afterS; rw [if_neg (by simp at *; omega), if_pos (by simp at *; omega)])
  · -- c1f: (x.h == (0 : Int)) = false
    replace c1 : (x.h == (0 : Int)) = false := c1
    try simp only [Bool.and_eq_true, Bool.or_eq_true, Bool.and_eq_false_iff, Bool.or_eq_false_iff, decide_eq_true_eq, decide_eq_false_iff_not, Bool.not_eq_true', Bool.not_eq_false', bne_iff_ne, ne_eq, beq_iff_eq, Bool.not_eq_true, Bool.not_eq_false, Int.not_lt, Int.not_le, gt_iff_lt, ge_iff_le, beq_eq_false_iff_ne, bne_eq_false_iff_eq] at c1
    refine ⟨fun c9 => ?_, fun c9 => ?_⟩
    · -- c9t: (x.h == (1 : Int)) = true
      replace c9 : (x.h == (1 : Int)) = true := c9
      try simp only [Bool.and_eq_true, Bool.or_eq_true, Bool.and_eq_false_iff, Bool.or_eq_false_iff, decide_eq_true_eq, decide_eq_false_iff_not, Bool.not_eq_true', Bool.not_eq_false', bne_iff_ne, ne_eq, beq_iff_eq, Bool.not_eq_true, Bool.not_eq_false, Int.not_lt, Int.not_le, gt_iff_lt, ge_iff_le, beq_eq_false_iff_ne, bne_eq_false_iff_eq] at c9
      -- w10: iNextHeading [DA.one (DC.im (Value.int .i64 p.h)), DA.one (DC.im (Value.int .i64 x.h))]
      refine ⟨(p.h, x.h), by
        rfl, by
        first | trivial | (first | omega | assumption | exact hpre.1 | exact hpre.2 | (simp; done)), ?_⟩
      refine ⟨?_, ?_⟩
      · -- l13: Value.int .i64 (nextH p.h x.h) = Value.int .i64 ((afterS p x).h)
        show Value.int .i64 (nextH p.h x.h) = Value.int .i64 ((afterS p x).h)
        first | (simp [afterS, *]; done) | (unfold afterS; rw [if_neg (by simp at *; omega), if_neg (by simp at *; omega)]) | (unfold afterS; rw [if_neg (by simp at *; omega), if_pos (by simp at *; omega)])
      refine ⟨?_, ?_⟩
      · -- l14: Value.bool p.pt.x.neg = Value.bool ((afterS p x).pt.x.neg)
        show Value.bool p.pt.x.neg = Value.bool ((afterS p x).pt.x.neg)
        first | (simp [afterS, *]; done) | (unfold afterS; rw [if_neg (by simp at *; omega), if_neg (by simp at *; omega)]) | (unfold afterS; rw [if_neg (by simp at *; omega), if_pos (by simp at *; omega)])
      refine ⟨?_, ?_⟩
      · -- l15: p.pt.x.num = (afterS p x).pt.x.num
        show p.pt.x.num = (afterS p x).pt.x.num
        first | (simp [afterS, *]; done) | (unfold afterS; rw [if_neg (by simp at *; omega), if_neg (by simp at *; omega)]) | (unfold afterS; rw [if_neg (by simp at *; omega), if_pos (by simp at *; omega)])
      refine ⟨?_, ?_⟩
      · -- l16: p.pt.x.den = (afterS p x).pt.x.den
        show p.pt.x.den = (afterS p x).pt.x.den
        first | (simp [afterS, *]; done) | (unfold afterS; rw [if_neg (by simp at *; omega), if_neg (by simp at *; omega)]) | (unfold afterS; rw [if_neg (by simp at *; omega), if_pos (by simp at *; omega)])
      refine ⟨?_, ?_⟩
      · -- l17: Value.bool p.pt.y.neg = Value.bool ((afterS p x).pt.y.neg)
        show Value.bool p.pt.y.neg = Value.bool ((afterS p x).pt.y.neg)
        first | (simp [afterS, *]; done) | (unfold afterS; rw [if_neg (by simp at *; omega), if_neg (by simp at *; omega)]) | (unfold afterS; rw [if_neg (by simp at *; omega), if_pos (by simp at *; omega)])
      refine ⟨?_, ?_⟩
      · -- l18: p.pt.y.num = (afterS p x).pt.y.num
        show p.pt.y.num = (afterS p x).pt.y.num
        first | (simp [afterS, *]; done) | (unfold afterS; rw [if_neg (by simp at *; omega), if_neg (by simp at *; omega)]) | (unfold afterS; rw [if_neg (by simp at *; omega), if_pos (by simp at *; omega)])
      -- l19: p.pt.y.den = (afterS p x).pt.y.den
      show p.pt.y.den = (afterS p x).pt.y.den
      first | (simp [afterS, *]; done) | (unfold afterS; rw [if_neg (by simp at *; omega), if_neg (by simp at *; omega)]) | (unfold afterS; rw [if_neg (by simp at *; omega), if_pos (by simp at *; omega)])
    · -- c9f: (x.h == (1 : Int)) = false
      replace c9 : (x.h == (1 : Int)) = false := c9
      try simp only [Bool.and_eq_true, Bool.or_eq_true, Bool.and_eq_false_iff, Bool.or_eq_false_iff, decide_eq_true_eq, decide_eq_false_iff_not, Bool.not_eq_true', Bool.not_eq_false', bne_iff_ne, ne_eq, beq_iff_eq, Bool.not_eq_true, Bool.not_eq_false, Int.not_lt, Int.not_le, gt_iff_lt, ge_iff_le, beq_eq_false_iff_ne, bne_eq_false_iff_eq] at c9
      refine ⟨fun c20 => ?_, fun c20 => ?_⟩
      · -- c20t: (x.h == (-1 : Int)) = true
        replace c20 : (x.h == (-1 : Int)) = true := c20
        try simp only [Bool.and_eq_true, Bool.or_eq_true, Bool.and_eq_false_iff, Bool.or_eq_false_iff, decide_eq_true_eq, decide_eq_false_iff_not, Bool.not_eq_true', Bool.not_eq_false', bne_iff_ne, ne_eq, beq_iff_eq, Bool.not_eq_true, Bool.not_eq_false, Int.not_lt, Int.not_le, gt_iff_lt, ge_iff_le, beq_eq_false_iff_ne, bne_eq_false_iff_eq] at c20
        -- w21: iNextHeading [DA.one (DC.im (Value.int .i64 p.h)), DA.one (DC.im (Value.int .i64 x.h))]
        refine ⟨(p.h, x.h), by
          rfl, by
          first | trivial | (first | omega | assumption | exact hpre.1 | exact hpre.2 | (simp; done)), ?_⟩
        refine ⟨?_, ?_⟩
        · -- l24: Value.int .i64 (nextH p.h x.h) = Value.int .i64 ((afterS p x).h)
          show Value.int .i64 (nextH p.h x.h) = Value.int .i64 ((afterS p x).h)
          first | (simp [afterS, *]; done) | (unfold afterS; rw [if_neg (by simp at *; omega), if_neg (by simp at *; omega)]) | (unfold afterS; rw [if_neg (by simp at *; omega), if_pos (by simp at *; omega)])
        refine ⟨?_, ?_⟩
        · -- l25: Value.bool p.pt.x.neg = Value.bool ((afterS p x).pt.x.neg)
          show Value.bool p.pt.x.neg = Value.bool ((afterS p x).pt.x.neg)
          first | (simp [afterS, *]; done) | (unfold afterS; rw [if_neg (by simp at *; omega), if_neg (by simp at *; omega)]) | (unfold afterS; rw [if_neg (by simp at *; omega), if_pos (by simp at *; omega)])
        refine ⟨?_, ?_⟩
        · -- l26: p.pt.x.num = (afterS p x).pt.x.num
          show p.pt.x.num = (afterS p x).pt.x.num
          first | (simp [afterS, *]; done) | (unfold afterS; rw [if_neg (by simp at *; omega), if_neg (by simp at *; omega)]) | (unfold afterS; rw [if_neg (by simp at *; omega), if_pos (by simp at *; omega)])
        refine ⟨?_, ?_⟩
        · -- l27: p.pt.x.den = (afterS p x).pt.x.den
          show p.pt.x.den = (afterS p x).pt.x.den
          first | (simp [afterS, *]; done) | (unfold afterS; rw [if_neg (by simp at *; omega), if_neg (by simp at *; omega)]) | (unfold afterS; rw [if_neg (by simp at *; omega), if_pos (by simp at *; omega)])
        refine ⟨?_, ?_⟩
        · -- l28: Value.bool p.pt.y.neg = Value.bool ((afterS p x).pt.y.neg)
          show Value.bool p.pt.y.neg = Value.bool ((afterS p x).pt.y.neg)
          first | (simp [afterS, *]; done) | (unfold afterS; rw [if_neg (by simp at *; omega), if_neg (by simp at *; omega)]) | (unfold afterS; rw [if_neg (by simp at *; omega), if_pos (by simp at *; omega)])
        refine ⟨?_, ?_⟩
        · -- l29: p.pt.y.num = (afterS p x).pt.y.num
          show p.pt.y.num = (afterS p x).pt.y.num
          first | (simp [afterS, *]; done) | (unfold afterS; rw [if_neg (by simp at *; omega), if_neg (by simp at *; omega)]) | (unfold afterS; rw [if_neg (by simp at *; omega), if_pos (by simp at *; omega)])
        -- l30: p.pt.y.den = (afterS p x).pt.y.den
        show p.pt.y.den = (afterS p x).pt.y.den
        first | (simp [afterS, *]; done) | (unfold afterS; rw [if_neg (by simp at *; omega), if_neg (by simp at *; omega)]) | (unfold afterS; rw [if_neg (by simp at *; omega), if_pos (by simp at *; omega)])
      · -- c20f: (x.h == (-1 : Int)) = false
        replace c20 : (x.h == (-1 : Int)) = false := c20
        try simp only [Bool.and_eq_true, Bool.or_eq_true, Bool.and_eq_false_iff, Bool.or_eq_false_iff, decide_eq_true_eq, decide_eq_false_iff_not, Bool.not_eq_true', Bool.not_eq_false', bne_iff_ne, ne_eq, beq_iff_eq, Bool.not_eq_true, Bool.not_eq_false, Int.not_lt, Int.not_le, gt_iff_lt, ge_iff_le, beq_eq_false_iff_ne, bne_eq_false_iff_eq] at c20
        refine ⟨?_, ?_⟩
        · -- l31: Value.int .i64 p.h = Value.int .i64 ((afterS p x).h)
          show Value.int .i64 p.h = Value.int .i64 ((afterS p x).h)
          first | (simp [afterS, *]; done) | (unfold afterS; rw [if_neg (by simp at *; omega), if_neg (by simp at *; omega)]) | (unfold afterS; rw [if_neg (by simp at *; omega), if_pos (by simp at *; omega)])
        refine ⟨?_, ?_⟩
        · -- l32: Value.bool p.pt.x.neg = Value.bool ((afterS p x).pt.x.neg)
          show Value.bool p.pt.x.neg = Value.bool ((afterS p x).pt.x.neg)
          first | (simp [afterS, *]; done) | (unfold afterS; rw [if_neg (by simp at *; omega), if_neg (by simp at *; omega)]) | (unfold afterS; rw [if_neg (by simp at *; omega), if_pos (by simp at *; omega)])
        refine ⟨?_, ?_⟩
        · -- l33: p.pt.x.num = (afterS p x).pt.x.num
          show p.pt.x.num = (afterS p x).pt.x.num
          first | (simp [afterS, *]; done) | (unfold afterS; rw [if_neg (by simp at *; omega), if_neg (by simp at *; omega)]) | (unfold afterS; rw [if_neg (by simp at *; omega), if_pos (by simp at *; omega)])
        refine ⟨?_, ?_⟩
        · -- l34: p.pt.x.den = (afterS p x).pt.x.den
          show p.pt.x.den = (afterS p x).pt.x.den
          first | (simp [afterS, *]; done) | (unfold afterS; rw [if_neg (by simp at *; omega), if_neg (by simp at *; omega)]) | (unfold afterS; rw [if_neg (by simp at *; omega), if_pos (by simp at *; omega)])
        refine ⟨?_, ?_⟩
        · -- l35: Value.bool p.pt.y.neg = Value.bool ((afterS p x).pt.y.neg)
          show Value.bool p.pt.y.neg = Value.bool ((afterS p x).pt.y.neg)
          first | (simp [afterS, *]; done) | (unfold afterS; rw [if_neg (by simp at *; omega), if_neg (by simp at *; omega)]) | (unfold afterS; rw [if_neg (by simp at *; omega), if_pos (by simp at *; omega)])
        refine ⟨?_, ?_⟩
        · -- l36: p.pt.y.num = (afterS p x).pt.y.num
          show p.pt.y.num = (afterS p x).pt.y.num
          first | (simp [afterS, *]; done) | (unfold afterS; rw [if_neg (by simp at *; omega), if_neg (by simp at *; omega)]) | (unfold afterS; rw [if_neg (by simp at *; omega), if_pos (by simp at *; omega)])
        -- l37: p.pt.y.den = (afterS p x).pt.y.den
        show p.pt.y.den = (afterS p x).pt.y.den
        first | (simp [afterS, *]; done) | (unfold afterS; rw [if_neg (by simp at *; omega), if_neg (by simp at *; omega)]) | (unfold afterS; rw [if_neg (by simp at *; omega), if_pos (by simp at *; omega)])
def l22After_con : Con := { ι := PlD × PlD, pre := fun i => True, args := fun i => [.agg [.im (.int .i64 i.1.h), .im (.bool i.1.pt.x.neg), .sl 3 [.int] i.1.pt.x.num, .sl 3 [.int] i.1.pt.x.den, .im (.bool i.1.pt.y.neg), .sl 3 [.int] i.1.pt.y.num, .sl 3 [.int] i.1.pt.y.den], .agg [.im (.int .i64 i.2.h), .im (.bool i.2.pt.x.neg), .sl 3 [.int] i.2.pt.x.num, .sl 3 [.int] i.2.pt.x.den, .im (.bool i.2.pt.y.neg), .sl 3 [.int] i.2.pt.y.num, .sl 3 [.int] i.2.pt.y.den]], res := fun i => ⟨false, [some 7], [.im (Value.int .i64 ((afterS i.1 i.2).h)), .im (Value.bool ((afterS i.1 i.2).pt.x.neg)), .view 3 [.int] ((afterS i.1 i.2).pt.x.num), .view 3 [.int] ((afterS i.1 i.2).pt.x.den), .im (Value.bool ((afterS i.1 i.2).pt.y.neg)), .view 3 [.int] ((afterS i.1 i.2).pt.y.num), .view 3 [.int] ((afterS i.1 i.2).pt.y.den)]⟩ }
set_option maxRecDepth 100000 in
theorem l22After_ok : l22After_con.Ok Try.prog 64 := by
  refine fn_ok (X := ⟨tt, [(112, sNextHeading_con)], [], 22⟩) mixed tt_ok (CTok.cons sNextHeading_ok (CTok.nil _)) Try.func64 (by decide) rfl rfl rfl (fun _ => Nat.le_of_ble_eq_true rfl) (fun _ => Nat.le_of_ble_eq_true rfl) (fun _ => []) ?_
  rintro ⟨p, x⟩ hpre
  have hpre : True := hpre
  refine by_nf (q := ((x.h == (0 : Int)) = true → ((Value.int .i64 p.h = Value.int .i64 ((afterS p x).h)) ∧ (Value.bool x.pt.x.neg = Value.bool ((afterS p x).pt.x.neg)) ∧ (x.pt.x.num = (afterS p x).pt.x.num) ∧ (x.pt.x.den = (afterS p x).pt.x.den) ∧ (Value.bool x.pt.y.neg = Value.bool ((afterS p x).pt.y.neg)) ∧ (x.pt.y.num = (afterS p x).pt.y.num) ∧ (x.pt.y.den = (afterS p x).pt.y.den))) ∧ ((x.h == (0 : Int)) = false → (((x.h == (1 : Int)) = true → (∃ i1 : Int × Int, [DA.one (DC.im (Value.int .i64 p.h)), DA.one (DC.im (Value.int .i64 x.h))] = sNextHeading_con.args i1 ∧ sNextHeading_con.pre i1 ∧ ((Value.int .i64 (nextH i1.1 i1.2) = Value.int .i64 ((afterS p x).h)) ∧ (Value.bool p.pt.x.neg = Value.bool ((afterS p x).pt.x.neg)) ∧ (p.pt.x.num = (afterS p x).pt.x.num) ∧ (p.pt.x.den = (afterS p x).pt.x.den) ∧ (Value.bool p.pt.y.neg = Value.bool ((afterS p x).pt.y.neg)) ∧ (p.pt.y.num = (afterS p x).pt.y.num) ∧ (p.pt.y.den = (afterS p x).pt.y.den)))) ∧ ((x.h == (1 : Int)) = false → (((x.h == (-1 : Int)) = true → (∃ i2 : Int × Int, [DA.one (DC.im (Value.int .i64 p.h)), DA.one (DC.im (Value.int .i64 x.h))] = sNextHeading_con.args i2 ∧ sNextHeading_con.pre i2 ∧ ((Value.int .i64 (nextH i2.1 i2.2) = Value.int .i64 ((afterS p x).h)) ∧ (Value.bool p.pt.x.neg = Value.bool ((afterS p x).pt.x.neg)) ∧ (p.pt.x.num = (afterS p x).pt.x.num) ∧ (p.pt.x.den = (afterS p x).pt.x.den) ∧ (Value.bool p.pt.y.neg = Value.bool ((afterS p x).pt.y.neg)) ∧ (p.pt.y.num = (afterS p x).pt.y.num) ∧ (p.pt.y.den = (afterS p x).pt.y.den)))) ∧ ((x.h == (-1 : Int)) = false → ((Value.int .i64 p.h = Value.int .i64 ((afterS p x).h)) ∧ (Value.bool p.pt.x.neg = Value.bool ((afterS p x).pt.x.neg)) ∧ (p.pt.x.num = (afterS p x).pt.x.num) ∧ (p.pt.x.den = (afterS p x).pt.x.den) ∧ (Value.bool p.pt.y.neg = Value.bool ((afterS p x).pt.y.neg)) ∧ (p.pt.y.num = (afterS p x).pt.y.num) ∧ (p.pt.y.den = (afterS p x).pt.y.den)))))))) (by kernel_rfl) ?_
  refine ⟨fun c1 => ?_, fun c1 => ?_⟩
  · -- c1t: (x.h == (0 : Int)) = true
    replace c1 : (x.h == (0 : Int)) = true := c1
    try simp only [Bool.and_eq_true, Bool.or_eq_true, Bool.and_eq_false_iff, Bool.or_eq_false_iff, decide_eq_true_eq, decide_eq_false_iff_not, Bool.not_eq_true', Bool.not_eq_false', bne_iff_ne, ne_eq, beq_iff_eq, Bool.not_eq_true, Bool.not_eq_false, Int.not_lt, Int.not_le, gt_iff_lt, ge_iff_le, beq_eq_false_iff_ne, bne_eq_false_iff_eq] at c1
    refine ⟨?_, ?_⟩
    · -- l2: Value.int .i64 p.h = Value.int .i64 ((afterS p x).h)
      show Value.int .i64 p.h = Value.int .i64 ((afterS p x).h)
      first | (simp [afterS, *]; done) | (unfold afterS; rw [if_neg (by simp at *; omega), if_neg (by simp at *; omega)]) | (unfold afterS; rw [if_neg (by simp at *; omega), if_pos (by simp at *; omega)])
    refine ⟨?_, ?_⟩
    · -- l3: Value.bool x.pt.x.neg = Value.bool ((afterS p x).pt.x.neg)
      show Value.bool x.pt.x.neg = Value.bool ((afterS p x).pt.x.neg)
      first | (simp [afterS, *]; done) | (unfold afterS; rw [if_neg (by simp at *; omega), if_neg (by simp at *; omega)]) | (unfold afterS; rw [if_neg (by simp at *; omega), if_pos (by simp at *; omega)])
    refine ⟨?_, ?_⟩
    · -- l4: x.pt.x.num = (afterS p x).pt.x.num
      show x.pt.x.num = (afterS p x).pt.x.num
      first | (simp [afterS, *]; done) | (unfold afterS; rw [if_neg (by simp at *; omega), if_neg (by simp at *; omega)]) | (unfold afterS; rw [if_neg (by simp at *; omega), if_pos (by simp at *; omega)])
    refine ⟨?_, ?_⟩
    · -- l5: x.pt.x.den = (afterS p x).pt.x.den
      show x.pt.x.den = (afterS p x).pt.x.den
      first | (simp [afterS, *]; done) | (unfold afterS; rw [if_neg (by simp at *; omega), if_neg (by simp at *; omega)]) | (unfold afterS; rw [if_neg (by simp at *; omega), if_pos (by simp at *; omega)])
    refine ⟨?_, ?_⟩
    · -- l6: Value.bool x.pt.y.neg = Value.bool ((afterS p x).pt.y.neg)
      show Value.bool x.pt.y.neg = Value.bool ((afterS p x).pt.y.neg)
      first | (simp [afterS, *]; done) | (unfold afterS; rw [if_neg (by simp at *; omega), if_neg (by simp at *; omega)]) | (unfold afterS; rw [if_neg (by simp at *; omega), if_pos (by simp at *; omega)])
    refine ⟨?_, ?_⟩
    · -- l7: x.pt.y.num = (afterS p x).pt.y.num
      show x.pt.y.num = (afterS p x).pt.y.num
      first | (simp [afterS, *]; done) | (unfold afterS; rw [if_neg (by simp at *; omega), if_neg (by simp at *; omega)]) | (unfold afterS; rw [if_neg (by simp at *; omega), if_pos (by simp at *; omega)])
    -- l8: x.pt.y.den = (afterS p x).pt.y.den
    show x.pt.y.den = (afterS p x).pt.y.den
    first | (simp [afterS, *]; done) | (unfold afterS; rw [if_neg (by simp at *; omega), if_neg (by simp at *; omega)]) | (unfold afterS; rw [if_neg (by simp at *; omega), if_pos (by simp at *; omega)])
  · -- c1f: (x.h == (0 : Int)) = false
    replace c1 : (x.h == (0 : Int)) = false := c1
    try simp only [Bool.and_eq_true, Bool.or_eq_true, Bool.and_eq_false_iff, Bool.or_eq_false_iff, decide_eq_true_eq, decide_eq_false_iff_not, Bool.not_eq_true', Bool.not_eq_false', bne_iff_ne, ne_eq, beq_iff_eq, Bool.not_eq_true, Bool.not_eq_false, Int.not_lt, Int.not_le, gt_iff_lt, ge_iff_le, beq_eq_false_iff_ne, bne_eq_false_iff_eq] at c1
    refine ⟨fun c9 => ?_, fun c9 => ?_⟩
    · -- c9t: (x.h == (1 : Int)) = true
      replace c9 : (x.h == (1 : Int)) = true := c9
      try simp only [Bool.and_eq_true, Bool.or_eq_true, Bool.and_eq_false_iff, Bool.or_eq_false_iff, decide_eq_true_eq, decide_eq_false_iff_not, Bool.not_eq_true', Bool.not_eq_false', bne_iff_ne, ne_eq, beq_iff_eq, Bool.not_eq_true, Bool.not_eq_false, Int.not_lt, Int.not_le, gt_iff_lt, ge_iff_le, beq_eq_false_iff_ne, bne_eq_false_iff_eq] at c9
      -- w10: sNextHeading [DA.one (DC.im (Value.int .i64 p.h)), DA.one (DC.im (Value.int .i64 x.h))]
      refine ⟨(p.h, x.h), by
        rfl, by
        first | trivial | (first | omega | assumption | exact hpre.1 | exact hpre.2 | (simp; done)), ?_⟩
      refine ⟨?_, ?_⟩
      · -- l13: Value.int .i64 (nextH p.h x.h) = Value.int .i64 ((afterS p x).h)
        show Value.int .i64 (nextH p.h x.h) = Value.int .i64 ((afterS p x).h)
        first | (simp [afterS, *]; done) | (unfold afterS; rw [if_neg (by simp at *; omega), if_neg (by simp at *; omega)]) | (unfold afterS; rw [if_neg (by simp at *; omega), if_pos (by simp at *; omega)])
      refine ⟨?_, ?_⟩
      · -- l14: Value.bool p.pt.x.neg = Value.bool ((afterS p x).pt.x.neg)
        show Value.bool p.pt.x.neg = Value.bool ((afterS p x).pt.x.neg)
        first | (simp [afterS, *]; done) | (unfold afterS; rw [if_neg (by simp at *; omega), if_neg (by simp at *; omega)]) | (unfold afterS; rw [if_neg (by simp at *; omega), if_pos (by simp at *; omega)])
      refine ⟨?_, ?_⟩
      · -- l15: p.pt.x.num = (afterS p x).pt.x.num
        show p.pt.x.num = (afterS p x).pt.x.num
        first | (simp [afterS, *]; done) | (unfold afterS; rw [if_neg (by simp at *; omega), if_neg (by simp at *; omega)]) | (unfold afterS; rw [if_neg (by simp at *; omega), if_pos (by simp at *; omega)])
      refine ⟨?_, ?_⟩
      · -- l16: p.pt.x.den = (afterS p x).pt.x.den
        show p.pt.x.den = (afterS p x).pt.x.den
        first | (simp [afterS, *]; done) | (unfold afterS; rw [if_neg (by simp at *; omega), if_neg (by simp at *; omega)]) | (unfold afterS; rw [if_neg (by simp at *; omega), if_pos (by simp at *; omega)])
      refine ⟨?_, ?_⟩
      · -- l17: Value.bool p.pt.y.neg = Value.bool ((afterS p x).pt.y.neg)
        show Value.bool p.pt.y.neg = Value.bool ((afterS p x).pt.y.neg)
        first | (simp [afterS, *]; done) | (unfold afterS; rw [if_neg (by simp at *; omega), if_neg (by simp at *; omega)]) | (unfold afterS; rw [if_neg (by simp at *; omega), if_pos (by simp at *; omega)])
      refine ⟨?_, ?_⟩
      · -- l18: p.pt.y.num = (afterS p x).pt.y.num
        show p.pt.y.num = (afterS p x).pt.y.num
        first | (simp [afterS, *]; done) | (unfold afterS; rw [if_neg (by simp at *; omega), if_neg (by simp at *; omega)]) | (unfold afterS; rw [if_neg (by simp at *; omega), if_pos (by simp at *; omega)])
      -- l19: p.pt.y.den = (afterS p x).pt.y.den
      show p.pt.y.den = (afterS p x).pt.y.den
      first | (simp [afterS, *]; done) | (unfold afterS; rw [if_neg (by simp at *; omega), if_neg (by simp at *; omega)]) | (unfold afterS; rw [if_neg (by simp at *; omega), if_pos (by simp at *; omega)])
    · -- c9f: (x.h == (1 : Int)) = false
      replace c9 : (x.h == (1 : Int)) = false := c9
      try simp only [Bool.and_eq_true, Bool.or_eq_true, Bool.and_eq_false_iff, Bool.or_eq_false_iff, decide_eq_true_eq, decide_eq_false_iff_not, Bool.not_eq_true', Bool.not_eq_false', bne_iff_ne, ne_eq, beq_iff_eq, Bool.not_eq_true, Bool.not_eq_false, Int.not_lt, Int.not_le, gt_iff_lt, ge_iff_le, beq_eq_false_iff_ne, bne_eq_false_iff_eq] at c9
      refine ⟨fun c20 => ?_, fun c20 => ?_⟩
      · -- c20t: (x.h == (-1 : Int)) = true
        replace c20 : (x.h == (-1 : Int)) = true := c20
        try simp only [Bool.and_eq_true, Bool.or_eq_true, Bool.and_eq_false_iff, Bool.or_eq_false_iff, decide_eq_true_eq, decide_eq_false_iff_not, Bool.not_eq_true', Bool.not_eq_false', bne_iff_ne, ne_eq, beq_iff_eq, Bool.not_eq_true, Bool.not_eq_false, Int.not_lt, Int.not_le, gt_iff_lt, ge_iff_le, beq_eq_false_iff_ne, bne_eq_false_iff_eq] at c20
        -- w21: sNextHeading [DA.one (DC.im (Value.int .i64 p.h)), DA.one (DC.im (Value.int .i64 x.h))]
        refine ⟨(p.h, x.h), by
          rfl, by
          first | trivial | (first | omega | assumption | exact hpre.1 | exact hpre.2 | (simp; done)), ?_⟩
        refine ⟨?_, ?_⟩
        · -- l24: Value.int .i64 (nextH p.h x.h) = Value.int .i64 ((afterS p x).h)
          show Value.int .i64 (nextH p.h x.h) = Value.int .i64 ((afterS p x).h)
          first | (simp [afterS, *]; done) | (unfold afterS; rw [if_neg (by simp at *; omega), if_neg (by simp at *; omega)]) | (unfold afterS; rw [if_neg (by simp at *; omega), if_pos (by simp at *; omega)])
        refine ⟨?_, ?_⟩
        · -- l25: Value.bool p.pt.x.neg = Value.bool ((afterS p x).pt.x.neg)
          show Value.bool p.pt.x.neg = Value.bool ((afterS p x).pt.x.neg)
          first | (simp [afterS, *]; done) | (unfold afterS; rw [if_neg (by simp at *; omega), if_neg (by simp at *; omega)]) | (unfold afterS; rw [if_neg (by simp at *; omega), if_pos (by simp at *; omega)])
        refine ⟨?_, ?_⟩
        · -- l26: p.pt.x.num = (afterS p x).pt.x.num
          show p.pt.x.num = (afterS p x).pt.x.num
          first | (simp [afterS, *]; done) | (unfold afterS; rw [if_neg (by simp at *; omega), if_neg (by simp at *; omega)]) | (unfold afterS; rw [if_neg (by simp at *; omega), if_pos (by simp at *; omega)])
        refine ⟨?_, ?_⟩
        · -- l27: p.pt.x.den = (afterS p x).pt.x.den
          show p.pt.x.den = (afterS p x).pt.x.den
          first | (simp [afterS, *]; done) | (unfold afterS; rw [if_neg (by simp at *; omega), if_neg (by simp at *; omega)]) | (unfold afterS; rw [if_neg (by simp at *; omega), if_pos (by simp at *; omega)])
        refine ⟨?_, ?_⟩
        · -- l28: Value.bool p.pt.y.neg = Value.bool ((afterS p x).pt.y.neg)
          show Value.bool p.pt.y.neg = Value.bool ((afterS p x).pt.y.neg)
          first | (simp [afterS, *]; done) | (unfold afterS; rw [if_neg (by simp at *; omega), if_neg (by simp at *; omega)]) | (unfold afterS; rw [if_neg (by simp at *; omega), if_pos (by simp at *; omega)])
        refine ⟨?_, ?_⟩
        · -- l29: p.pt.y.num = (afterS p x).pt.y.num
          show p.pt.y.num = (afterS p x).pt.y.num
          first | (simp [afterS, *]; done) | (unfold afterS; rw [if_neg (by simp at *; omega), if_neg (by simp at *; omega)]) | (unfold afterS; rw [if_neg (by simp at *; omega), if_pos (by simp at *; omega)])
        -- l30: p.pt.y.den = (afterS p x).pt.y.den
        show p.pt.y.den = (afterS p x).pt.y.den
        first | (simp [afterS, *]; done) | (unfold afterS; rw [if_neg (by simp at *; omega), if_neg (by simp at *; omega)]) | (unfold afterS; rw [if_neg (by simp at *; omega), if_pos (by simp at *; omega)])
      · -- c20f: (x.h == (-1 : Int)) = false
        replace c20 : (x.h == (-1 : Int)) = false := c20
        try simp only [Bool.and_eq_true, Bool.or_eq_true, Bool.and_eq_false_iff, Bool.or_eq_false_iff, decide_eq_true_eq, decide_eq_false_iff_not, Bool.not_eq_true', Bool.not_eq_false', bne_iff_ne, ne_eq, beq_iff_eq, Bool.not_eq_true, Bool.not_eq_false, Int.not_lt, Int.not_le, gt_iff_lt, ge_iff_le, beq_eq_false_iff_ne, bne_eq_false_iff_eq] at c20
        refine ⟨?_, ?_⟩
        · -- l31: Value.int .i64 p.h = Value.int .i64 ((afterS p x).h)
          show Value.int .i64 p.h = Value.int .i64 ((afterS p x).h)
          first | (simp [afterS, *]; done) | (unfold afterS; rw [if_neg (by simp at *; omega), if_neg (by simp at *; omega)]) | (unfold afterS; rw [if_neg (by simp at *; omega), if_pos (by simp at *; omega)])
        refine ⟨?_, ?_⟩
        · -- l32: Value.bool p.pt.x.neg = Value.bool ((afterS p x).pt.x.neg)
          show Value.bool p.pt.x.neg = Value.bool ((afterS p x).pt.x.neg)
          first | (simp [afterS, *]; done) | (unfold afterS; rw [if_neg (by simp at *; omega), if_neg (by simp at *; omega)]) | (unfold afterS; rw [if_neg (by simp at *; omega), if_pos (by simp at *; omega)])
        refine ⟨?_, ?_⟩
        · -- l33: p.pt.x.num = (afterS p x).pt.x.num
          show p.pt.x.num = (afterS p x).pt.x.num
          first | (simp [afterS, *]; done) | (unfold afterS; rw [if_neg (by simp at *; omega), if_neg (by simp at *; omega)]) | (unfold afterS; rw [if_neg (by simp at *; omega), if_pos (by simp at *; omega)])
        refine ⟨?_, ?_⟩
        · -- l34: p.pt.x.den = (afterS p x).pt.x.den
          show p.pt.x.den = (afterS p x).pt.x.den
          first | (simp [afterS, *]; done) | (unfold afterS; rw [if_neg (by simp at *; omega), if_neg (by simp at *; omega)]) | (unfold afterS; rw [if_neg (by simp at *; omega), if_pos (by simp at *; omega)])
        refine ⟨?_, ?_⟩
        · -- l35: Value.bool p.pt.y.neg = Value.bool ((afterS p x).pt.y.neg)
          show Value.bool p.pt.y.neg = Value.bool ((afterS p x).pt.y.neg)
          first | (simp [afterS, *]; done) | (unfold afterS; rw [if_neg (by simp at *; omega), if_neg (by simp at *; omega)]) | (unfold afterS; rw [if_neg (by simp at *; omega), if_pos (by simp at *; omega)])
        refine ⟨?_, ?_⟩
        · -- l36: p.pt.y.num = (afterS p x).pt.y.num
          show p.pt.y.num = (afterS p x).pt.y.num
          first | (simp [afterS, *]; done) | (unfold afterS; rw [if_neg (by simp at *; omega), if_neg (by simp at *; omega)]) | (unfold afterS; rw [if_neg (by simp at *; omega), if_pos (by simp at *; omega)])
        -- l37: p.pt.y.den = (afterS p x).pt.y.den
        show p.pt.y.den = (afterS p x).pt.y.den
        first | (simp [afterS, *]; done) | (unfold afterS; rw [if_neg (by simp at *; omega), if_neg (by simp at *; omega)]) | (unfold afterS; rw [if_neg (by simp at *; omega), if_pos (by simp at *; omega)])
def ownPlacement_con : Con := { ι := PlD, pre := fun i => i.ok, args := fun i => [.agg [.im (.int .i64 i.h), .im (.bool i.pt.x.neg), .sl 3 [.int] i.pt.x.num, .sl 3 [.int] i.pt.x.den, .im (.bool i.pt.y.neg), .sl 3 [.int] i.pt.y.num, .sl 3 [.int] i.pt.y.den]], res := fun i => ⟨false, [some 7], [.im (Value.int .i64 i.h), .im (Value.bool i.pt.x.neg), .own 3 [.int] i.pt.x.num, .own 3 [.int] i.pt.x.den, .im (Value.bool i.pt.y.neg), .own 3 [.int] i.pt.y.num, .own 3 [.int] i.pt.y.den]⟩ }
set_option maxRecDepth 100000 in
theorem ownPlacement_ok : ownPlacement_con.Ok Try.prog 68 := by
  refine fn_ok (X := ⟨tt, [(115, ownPoint_con)], [], 9⟩) mixed tt_ok (CTok.cons ownPoint_ok (CTok.nil _)) Try.func68 (by decide) rfl rfl rfl (fun _ => Nat.le_of_ble_eq_true rfl) (fun _ => Nat.le_of_ble_eq_true rfl) (fun _ => []) ?_
  intro (p : PlD) hpre
  have hpre : p.ok := hpre
  refine by_nf (q := ∃ i1 : PtD, [DA.agg [DC.im (Value.bool p.pt.x.neg), DC.sl 3 [.int] p.pt.x.num, DC.sl 3 [.int] p.pt.x.den, DC.im (Value.bool p.pt.y.neg), DC.sl 3 [.int] p.pt.y.num, DC.sl 3 [.int] p.pt.y.den]] = ownPoint_con.args i1 ∧ ownPoint_con.pre i1 ∧ ((Value.int .i64 p.h = Value.int .i64 p.h) ∧ (Value.bool i1.x.neg = Value.bool p.pt.x.neg) ∧ (i1.x.num = p.pt.x.num) ∧ (i1.x.den = p.pt.x.den) ∧ (Value.bool i1.y.neg = Value.bool p.pt.y.neg) ∧ (i1.y.num = p.pt.y.num) ∧ (i1.y.den = p.pt.y.den))) (by kernel_rfl) ?_
  -- w1: ownPoint [DA.agg [DC.im (Value.bool p.pt.x.neg), DC.sl 3 [.int] p.pt.x.num, DC.sl 3 [.int] p.pt.x.den, DC.im (Value.bool p.pt.y.neg), DC.sl 3 [.int] p.pt.y.num, DC.sl 3 [.int] p.pt.y.den]]
  refine ⟨p.pt, by
    rfl, by
    show p.pt.ok
    first | trivial | (first | omega | assumption | exact hpre.1 | exact hpre.2 | (simp; done)), ?_⟩
  refine ⟨?_, ?_⟩
  · -- l4: Value.int .i64 p.h = Value.int .i64 p.h
    show Value.int .i64 p.h = Value.int .i64 p.h
    rfl
  refine ⟨?_, ?_⟩
  · -- l5: Value.bool p.pt.x.neg = Value.bool p.pt.x.neg
    show Value.bool p.pt.x.neg = Value.bool p.pt.x.neg
    rfl
  refine ⟨?_, ?_⟩
  · -- l6: p.pt.x.num = p.pt.x.num
    show p.pt.x.num = p.pt.x.num
    rfl
  refine ⟨?_, ?_⟩
  · -- l7: p.pt.x.den = p.pt.x.den
    show p.pt.x.den = p.pt.x.den
    rfl
  refine ⟨?_, ?_⟩
  · -- l8: Value.bool p.pt.y.neg = Value.bool p.pt.y.neg
    show Value.bool p.pt.y.neg = Value.bool p.pt.y.neg
    rfl
  refine ⟨?_, ?_⟩
  · -- l9: p.pt.y.num = p.pt.y.num
    show p.pt.y.num = p.pt.y.num
    rfl
  -- l10: p.pt.y.den = p.pt.y.den
  show p.pt.y.den = p.pt.y.den
  rfl
def after_con : Con := { ι := PlD × (List (List Dat)) × Int, pre := fun i => i.2.1.length ≤ 1073741824, args := fun i => [.agg [.im (.int .i64 i.1.h), .im (.bool i.1.pt.x.neg), .sl 3 [.int] i.1.pt.x.num, .sl 3 [.int] i.1.pt.x.den, .im (.bool i.1.pt.y.neg), .sl 3 [.int] i.1.pt.y.num, .sl 3 [.int] i.1.pt.y.den], .one (.sl 104 [.int, .bool, .sl 3 [.int], .sl 3 [.int], .bool, .sl 3 [.int], .sl 3 [.int]] i.2.1), .one (.im (.int .i64 i.2.2))], res := fun i => ⟨false, [some 7], [.im (Value.int .i64 ((afterL i.1 i.2.1 i.2.2.toNat).h)), .im (Value.bool ((afterL i.1 i.2.1 i.2.2.toNat).pt.x.neg)), .view 3 [.int] ((afterL i.1 i.2.1 i.2.2.toNat).pt.x.num), .view 3 [.int] ((afterL i.1 i.2.1 i.2.2.toNat).pt.x.den), .im (Value.bool ((afterL i.1 i.2.1 i.2.2.toNat).pt.y.neg)), .view 3 [.int] ((afterL i.1 i.2.1 i.2.2.toNat).pt.y.num), .view 3 [.int] ((afterL i.1 i.2.1 i.2.2.toNat).pt.y.den)]⟩ }
set_option maxRecDepth 100000 in
theorem after_ok : after_con.Ok Try.prog 69 := by
  refine fn_ok (X := ⟨tt, [(116, stepped_con)], [], 26⟩) mixed tt_ok (CTok.cons stepped_ok (CTok.nil _)) Try.func69 (by decide) rfl rfl rfl (fun _ => Nat.le_of_ble_eq_true rfl) (fun _ => Nat.le_of_ble_eq_true rfl) (fun i => [(2, .mk 8 (Nat) (fun x1 => { tm := [(3, .one (.one (.bp 1 0))), (6, .one (.one (.bp 6 0))), (15, .one (.one (.ext 7))), (16, .one (.one (.im (Value.int .i64 (((i.2.1.take ((max (0 : Int) (min i.2.2 ((i.2.1.length : Nat) : Int))).toNat)).length : Nat) : Int))))), (17, .one (.one (.im (Value.int .i64 (x1 : Int)))))], en := [(1, .box [.im (Value.int .i64 ((afterL i.1 i.2.1 x1).h)), .im (Value.bool ((afterL i.1 i.2.1 x1).pt.x.neg)), .ext 2, .ext 3, .im (Value.bool ((afterL i.1 i.2.1 x1).pt.y.neg)), .ext 4, .ext 5]), (6, .box [.im (Value.int .i64 (0 : Int)), .im (Value.bool false), .im (Value.slice none 0 0), .im (Value.slice none 0 0), .im (Value.bool false), .im (Value.slice none 0 0), .im (Value.slice none 0 0)]), (2, .view 3 [.int] ((afterL i.1 i.2.1 x1).pt.x.num) []), (3, .view 3 [.int] ((afterL i.1 i.2.1 x1).pt.x.den) []), (4, .view 3 [.int] ((afterL i.1 i.2.1 x1).pt.y.num) []), (5, .view 3 [.int] ((afterL i.1 i.2.1 x1).pt.y.den) []), (7, .view 104 [.int, .bool, .sl 3 [.int], .sl 3 [.int], .bool, .sl 3 [.int], .sl 3 [.int]] (i.2.1.take ((max (0 : Int) (min i.2.2 ((i.2.1.length : Nat) : Int))).toNat)) [])] }) (fun x1 => x1 ≤ i.2.1.length ∧ (x1 : Int) ≤ max 0 i.2.2) (fun x1 => i.2.1.length - x1) (fun _ => []))]) ?_
  rintro ⟨p, ls, n⟩ hpre
  have hpre : ls.length ≤ 1073741824 := hpre
  refine by_nf (q := (Nat.beq 7 7 = true) ∧ ((0 ≤ (0 : Int)) ∧ (((0 : Int) ≤ (max (0 : Int) (min n ((ls.length : Nat) : Int)))) ∧ (((max (0 : Int) (min n ((ls.length : Nat) : Int))) ≤ (ls.length : Int)) ∧ ((∃ x1 : Nat, (x1 ≤ ls.length ∧ (x1 : Int) ≤ max 0 n) ∧ ((Value.int .i64 (((ls.take ((max (0 : Int) (min n ((ls.length : Nat) : Int))).toNat)).length : Nat) : Int) = Value.int .i64 (((ls.take ((max (0 : Int) (min n ((ls.length : Nat) : Int))).toNat)).length : Nat) : Int)) ∧ (Value.int .i64 (0 : Int) = Value.int .i64 (x1 : Int)) ∧ (Value.int .i64 p.h = Value.int .i64 ((afterL p ls x1).h)) ∧ (Value.bool p.pt.x.neg = Value.bool ((afterL p ls x1).pt.x.neg)) ∧ (Value.bool p.pt.y.neg = Value.bool ((afterL p ls x1).pt.y.neg)) ∧ (Value.int .i64 (0 : Int) = Value.int .i64 (0 : Int)) ∧ (Value.bool false = Value.bool false) ∧ (Value.slice none 0 0 = Value.slice none 0 0) ∧ (Value.slice none 0 0 = Value.slice none 0 0) ∧ (Value.bool false = Value.bool false) ∧ (Value.slice none 0 0 = Value.slice none 0 0) ∧ (Value.slice none 0 0 = Value.slice none 0 0) ∧ (p.pt.x.num = ((afterL p ls x1).pt.x.num)) ∧ (p.pt.x.den = ((afterL p ls x1).pt.x.den)) ∧ (p.pt.y.num = ((afterL p ls x1).pt.y.num)) ∧ (p.pt.y.den = ((afterL p ls x1).pt.y.den)) ∧ ((ls.take ((max (0 : Int) (min n ((ls.length : Nat) : Int))).toNat)) = (ls.take ((max (0 : Int) (min n ((ls.length : Nat) : Int))).toNat))))) ∧ ∀ x1 : Nat, (x1 ≤ ls.length ∧ (x1 : Int) ≤ max 0 n) → (((decide ((x1 : Int) < (((ls.take ((max (0 : Int) (min n ((ls.length : Nat) : Int))).toNat)).length : Nat) : Int))) = true → ((0 ≤ (x1 : Int) ∧ (x1 : Int) < ((ls.take ((max (0 : Int) (min n ((ls.length : Nat) : Int))).toNat)).length : Int)) ∧ ((x1 < (ls.take ((max (0 : Int) (min n ((ls.length : Nat) : Int))).toNat)).length) ∧ (∃ i1 : PlD × PlD, [DA.agg [DC.im (Value.int .i64 ((afterL p ls x1).h)), DC.im (Value.bool ((afterL p ls x1).pt.x.neg)), DC.sl 3 [.int] ((afterL p ls x1).pt.x.num), DC.sl 3 [.int] ((afterL p ls x1).pt.x.den), DC.im (Value.bool ((afterL p ls x1).pt.y.neg)), DC.sl 3 [.int] ((afterL p ls x1).pt.y.num), DC.sl 3 [.int] ((afterL p ls x1).pt.y.den)], DA.agg [DC.im (Value.int .i64 ((((ls.take ((max (0 : Int) (min n ((ls.length : Nat) : Int))).toNat)).getD x1 []).getD 0 (.int 0))).n), DC.im (Value.bool (((((ls.take ((max (0 : Int) (min n ((ls.length : Nat) : Int))).toNat)).getD x1 []).getD 1 (.int 0))).b)), DC.sl 3 [.int] (((((ls.take ((max (0 : Int) (min n ((ls.length : Nat) : Int))).toNat)).getD x1 []).getD 2 (.int 0))).r), DC.sl 3 [.int] (((((ls.take ((max (0 : Int) (min n ((ls.length : Nat) : Int))).toNat)).getD x1 []).getD 3 (.int 0))).r), DC.im (Value.bool (((((ls.take ((max (0 : Int) (min n ((ls.length : Nat) : Int))).toNat)).getD x1 []).getD 4 (.int 0))).b)), DC.sl 3 [.int] (((((ls.take ((max (0 : Int) (min n ((ls.length : Nat) : Int))).toNat)).getD x1 []).getD 5 (.int 0))).r), DC.sl 3 [.int] (((((ls.take ((max (0 : Int) (min n ((ls.length : Nat) : Int))).toNat)).getD x1 []).getD 6 (.int 0))).r)]] = stepped_con.args i1 ∧ stepped_con.pre i1 ∧ (∃ y2 : Nat, (y2 ≤ ls.length ∧ (y2 : Int) ≤ max 0 n) ∧ (ls.length - y2 < ls.length - x1) ∧ ((Value.int .i64 (((ls.take ((max (0 : Int) (min n ((ls.length : Nat) : Int))).toNat)).length : Nat) : Int) = Value.int .i64 (((ls.take ((max (0 : Int) (min n ((ls.length : Nat) : Int))).toNat)).length : Nat) : Int)) ∧ (Value.int .i64 (IntKind.i64.wrap ((x1 : Int) + (1 : Int))) = Value.int .i64 (y2 : Int)) ∧ (Value.int .i64 ((afterS i1.1 i1.2).h) = Value.int .i64 ((afterL p ls y2).h)) ∧ (Value.bool ((afterS i1.1 i1.2).pt.x.neg) = Value.bool ((afterL p ls y2).pt.x.neg)) ∧ (Value.bool ((afterS i1.1 i1.2).pt.y.neg) = Value.bool ((afterL p ls y2).pt.y.neg)) ∧ (Value.int .i64 (0 : Int) = Value.int .i64 (0 : Int)) ∧ (Value.bool false = Value.bool false) ∧ (Value.slice none 0 0 = Value.slice none 0 0) ∧ (Value.slice none 0 0 = Value.slice none 0 0) ∧ (Value.bool false = Value.bool false) ∧ (Value.slice none 0 0 = Value.slice none 0 0) ∧ (Value.slice none 0 0 = Value.slice none 0 0) ∧ ((afterS i1.1 i1.2).pt.x.num = ((afterL p ls y2).pt.x.num)) ∧ ((afterS i1.1 i1.2).pt.x.den = ((afterL p ls y2).pt.x.den)) ∧ ((afterS i1.1 i1.2).pt.y.num = ((afterL p ls y2).pt.y.num)) ∧ ((afterS i1.1 i1.2).pt.y.den = ((afterL p ls y2).pt.y.den)) ∧ ((ls.take ((max (0 : Int) (min n ((ls.length : Nat) : Int))).toNat)) = (ls.take ((max (0 : Int) (min n ((ls.length : Nat) : Int))).toNat))))))))) ∧ ((decide ((x1 : Int) < (((ls.take ((max (0 : Int) (min n ((ls.length : Nat) : Int))).toNat)).length : Nat) : Int))) = false → ((Value.int .i64 ((afterL p ls x1).h) = Value.int .i64 ((afterL p ls n.toNat).h)) ∧ (Value.bool ((afterL p ls x1).pt.x.neg) = Value.bool ((afterL p ls n.toNat).pt.x.neg)) ∧ (((afterL p ls x1).pt.x.num) = (afterL p ls n.toNat).pt.x.num) ∧ (((afterL p ls x1).pt.x.den) = (afterL p ls n.toNat).pt.x.den) ∧ (Value.bool ((afterL p ls x1).pt.y.neg) = Value.bool ((afterL p ls n.toNat).pt.y.neg)) ∧ (((afterL p ls x1).pt.y.num) = (afterL p ls n.toNat).pt.y.num) ∧ (((afterL p ls x1).pt.y.den) = (afterL p ls n.toNat).pt.y.den))))))))) (by kernel_rfl) ?_
  have o1 : Nat.beq 7 7 = true := by
    first | rfl | omega | (simp; done) | (simp; omega)
  refine ⟨o1, ?_⟩
  have o2 : 0 ≤ (0 : Int) := by
    first | rfl | omega | (simp; done) | (simp; omega)
  refine ⟨o2, ?_⟩
  have o3 : (0 : Int) ≤ (max (0 : Int) (min n ((ls.length : Nat) : Int))) := by
    first | rfl | omega | (simp; done) | (simp; omega)
  refine ⟨o3, ?_⟩
  have o4 : (max (0 : Int) (min n ((ls.length : Nat) : Int))) ≤ (ls.length : Int) := by
    first | rfl | omega | (simp; done) | (simp; omega)
  refine ⟨o4, ?_⟩
  -- i5
  refine ⟨⟨0, by
    first | trivial | omega | (simp; omega), ?_⟩, ?_⟩
  · -- the beginning
    refine ⟨?_, ?_⟩
    · -- b7: Value.int .i64 (((ls.take ((max (0 : Int) (min n ((ls.length : Nat) : Int))).toNat)).length : Nat) : Int) = Value.int .i64 (((ls.take ((max (0 : Int) (min n ((ls.length : Nat) : Int))).toNat)).length : Nat) : Int)
      show Value.int .i64 (((ls.take ((max (0 : Int) (min n ((ls.length : Nat) : Int))).toNat)).length : Nat) : Int) = Value.int .i64 (((ls.take ((max (0 : Int) (min n ((ls.length : Nat) : Int))).toNat)).length : Nat) : Int)
      first | rfl | (simp; done)
    refine ⟨?_, ?_⟩
    · -- b8: Value.int .i64 (0 : Int) = Value.int .i64 (0 : Int)
      show Value.int .i64 (0 : Int) = Value.int .i64 (0 : Int)
      first | rfl | (simp; done)
    refine ⟨?_, ?_⟩
    · -- b9: Value.int .i64 p.h = Value.int .i64 ((afterL p ls 0).h)
      show Value.int .i64 p.h = Value.int .i64 ((afterL p ls 0).h)
      first | rfl | (simp; done)
    refine ⟨?_, ?_⟩
    · -- b10: Value.bool p.pt.x.neg = Value.bool ((afterL p ls 0).pt.x.neg)
      show Value.bool p.pt.x.neg = Value.bool ((afterL p ls 0).pt.x.neg)
      first | rfl | (simp; done)
    refine ⟨?_, ?_⟩
    · -- b11: Value.bool p.pt.y.neg = Value.bool ((afterL p ls 0).pt.y.neg)
      show Value.bool p.pt.y.neg = Value.bool ((afterL p ls 0).pt.y.neg)
      first | rfl | (simp; done)
    refine ⟨?_, ?_⟩
    · -- b12: Value.int .i64 (0 : Int) = Value.int .i64 (0 : Int)
      show Value.int .i64 (0 : Int) = Value.int .i64 (0 : Int)
      first | rfl | (simp; done)
    refine ⟨?_, ?_⟩
    · -- b13: Value.bool false = Value.bool false
      show Value.bool false = Value.bool false
      first | rfl | (simp; done)
    refine ⟨?_, ?_⟩
    · -- b14: Value.slice none 0 0 = Value.slice none 0 0
      show Value.slice none 0 0 = Value.slice none 0 0
      first | rfl | (simp; done)
    refine ⟨?_, ?_⟩
    · -- b15: Value.slice none 0 0 = Value.slice none 0 0
      show Value.slice none 0 0 = Value.slice none 0 0
      first | rfl | (simp; done)
    refine ⟨?_, ?_⟩
    · -- b16: Value.bool false = Value.bool false
      show Value.bool false = Value.bool false
      first | rfl | (simp; done)
    refine ⟨?_, ?_⟩
    · -- b17: Value.slice none 0 0 = Value.slice none 0 0
      show Value.slice none 0 0 = Value.slice none 0 0
      first | rfl | (simp; done)
    refine ⟨?_, ?_⟩
    · -- b18: Value.slice none 0 0 = Value.slice none 0 0
      show Value.slice none 0 0 = Value.slice none 0 0
      first | rfl | (simp; done)
    refine ⟨?_, ?_⟩
    · -- b19: p.pt.x.num = ((afterL p ls 0).pt.x.num)
      show p.pt.x.num = ((afterL p ls 0).pt.x.num)
      first | rfl | (simp; done)
    refine ⟨?_, ?_⟩
    · -- b20: p.pt.x.den = ((afterL p ls 0).pt.x.den)
      show p.pt.x.den = ((afterL p ls 0).pt.x.den)
      first | rfl | (simp; done)
    refine ⟨?_, ?_⟩
    · -- b21: p.pt.y.num = ((afterL p ls 0).pt.y.num)
      show p.pt.y.num = ((afterL p ls 0).pt.y.num)
      first | rfl | (simp; done)
    refine ⟨?_, ?_⟩
    · -- b22: p.pt.y.den = ((afterL p ls 0).pt.y.den)
      show p.pt.y.den = ((afterL p ls 0).pt.y.den)
      first | rfl | (simp; done)
    -- b23: (ls.take ((max (0 : Int) (min n ((ls.length : Nat) : Int))).toNat)) = (ls.take ((max (0 : Int) (min n ((ls.length : Nat) : Int))).toNat))
    show (ls.take ((max (0 : Int) (min n ((ls.length : Nat) : Int))).toNat)) = (ls.take ((max (0 : Int) (min n ((ls.length : Nat) : Int))).toNat))
    first | rfl | (simp; done)
  intro (k : Nat) hki5
  have hki5 : k ≤ ls.length ∧ (k : Int) ≤ max 0 n := hki5
  refine ⟨fun c24 => ?_, fun c24 => ?_⟩
  · -- c24t: (decide ((k : Int) < (((ls.take ((max (0 : Int) (min n ((ls.length : Nat) : Int))).toNat)).length : Nat) : Int))) = true
    replace c24 : (decide ((k : Int) < (((ls.take ((max (0 : Int) (min n ((ls.length : Nat) : Int))).toNat)).length : Nat) : Int))) = true := c24
    try simp only [Bool.and_eq_true, Bool.or_eq_true, Bool.and_eq_false_iff, Bool.or_eq_false_iff, decide_eq_true_eq, decide_eq_false_iff_not, Bool.not_eq_true', Bool.not_eq_false', bne_iff_ne, ne_eq, beq_iff_eq, Bool.not_eq_true, Bool.not_eq_false, Int.not_lt, Int.not_le, gt_iff_lt, ge_iff_le, beq_eq_false_iff_ne, bne_eq_false_iff_eq] at c24
    simp only [List.length_take] at c24
    have o25 : 0 ≤ (k : Int) ∧ (k : Int) < ((ls.take ((max (0 : Int) (min n ((ls.length : Nat) : Int))).toNat)).length : Int) := by
      first | rfl | omega | (simp; done) | (simp; omega)
    refine ⟨o25, ?_⟩
    have o26 : k < (ls.take ((max (0 : Int) (min n ((ls.length : Nat) : Int))).toNat)).length := by
      first | rfl | omega | (simp; done) | (simp; omega)
    refine ⟨o26, ?_⟩
    -- w27: stepped [DA.agg [DC.im (Value.int .i64 ((afterL p ls k).h)), DC.im (Value.bool ((afterL p ls k).pt.x.neg)), DC.sl 3 [.int] ((afterL p ls k).pt.x.num), DC.sl 3 [.int] ((afterL p ls k).pt.x.den), DC.im (Value.bool ((afterL p ls k).pt.y.neg)), DC.sl 3 [.int] ((afterL p ls k).pt.y.num), DC.sl 3 [.int] ((afterL 
    refine ⟨(afterL p ls k, plOf (ls.getD k [])), by
      rw [getD_take (by omega)]; rfl, by
      first | trivial | (first | omega | assumption | exact hpre.1 | exact hpre.2 | (simp; done)), ?_⟩
    -- n30
    refine ⟨k + 1, by
      first | trivial | omega | (simp; omega), by
      first | omega | (simp; omega), ?_⟩
    refine ⟨?_, ?_⟩
    · -- e33: Value.int .i64 (((ls.take ((max (0 : Int) (min n ((ls.length : Nat) : Int))).toNat)).length : Nat) : Int) = Value.int .i64 (((ls.take ((max (0 : Int) (min n ((ls.length : Nat) : Int))).toNat)).length : Nat) : Int)
      show Value.int .i64 (((ls.take ((max (0 : Int) (min n ((ls.length : Nat) : Int))).toNat)).length : Nat) : Int) = Value.int .i64 (((ls.take ((max (0 : Int) (min n ((ls.length : Nat) : Int))).toNat)).length : Nat) : Int)
      first | rfl | rw [wrap64 (by omega) (by omega)] | (rw [wrap64 (by omega) (by omega)]; rfl) | rw [afterL_succ (by omega)]
    refine ⟨?_, ?_⟩
    · -- e34: Value.int .i64 (IntKind.i64.wrap ((k : Int) + (1 : Int))) = Value.int .i64 ((k + 1) : Int)
      show Value.int .i64 (IntKind.i64.wrap ((k : Int) + (1 : Int))) = Value.int .i64 ((k + 1) : Int)
      first | rfl | rw [wrap64 (by omega) (by omega)] | (rw [wrap64 (by omega) (by omega)]; rfl) | rw [afterL_succ (by omega)]
    refine ⟨?_, ?_⟩
    · -- e35: Value.int .i64 ((afterS (afterL p ls k) (plOf (ls.getD k []))).h) = Value.int .i64 ((afterL p ls (k + 1)).h)
      show Value.int .i64 ((afterS (afterL p ls k) (plOf (ls.getD k []))).h) = Value.int .i64 ((afterL p ls (k + 1)).h)
      first | rfl | rw [wrap64 (by omega) (by omega)] | (rw [wrap64 (by omega) (by omega)]; rfl) | rw [afterL_succ (by omega)]
    refine ⟨?_, ?_⟩
    · -- e36: Value.bool ((afterS (afterL p ls k) (plOf (ls.getD k []))).pt.x.neg) = Value.bool ((afterL p ls (k + 1)).pt.x.neg)
      show Value.bool ((afterS (afterL p ls k) (plOf (ls.getD k []))).pt.x.neg) = Value.bool ((afterL p ls (k + 1)).pt.x.neg)
      first | rfl | rw [wrap64 (by omega) (by omega)] | (rw [wrap64 (by omega) (by omega)]; rfl) | rw [afterL_succ (by omega)]
    refine ⟨?_, ?_⟩
    · -- e37: Value.bool ((afterS (afterL p ls k) (plOf (ls.getD k []))).pt.y.neg) = Value.bool ((afterL p ls (k + 1)).pt.y.neg)
      show Value.bool ((afterS (afterL p ls k) (plOf (ls.getD k []))).pt.y.neg) = Value.bool ((afterL p ls (k + 1)).pt.y.neg)
      first | rfl | rw [wrap64 (by omega) (by omega)] | (rw [wrap64 (by omega) (by omega)]; rfl) | rw [afterL_succ (by omega)]
    refine ⟨?_, ?_⟩
    · -- e38: Value.int .i64 (0 : Int) = Value.int .i64 (0 : Int)
      show Value.int .i64 (0 : Int) = Value.int .i64 (0 : Int)
      first | rfl | rw [wrap64 (by omega) (by omega)] | (rw [wrap64 (by omega) (by omega)]; rfl) | rw [afterL_succ (by omega)]
    refine ⟨?_, ?_⟩
    · -- e39: Value.bool false = Value.bool false
      show Value.bool false = Value.bool false
      first | rfl | rw [wrap64 (by omega) (by omega)] | (rw [wrap64 (by omega) (by omega)]; rfl) | rw [afterL_succ (by omega)]
    refine ⟨?_, ?_⟩
    · -- e40: Value.slice none 0 0 = Value.slice none 0 0
      show Value.slice none 0 0 = Value.slice none 0 0
      first | rfl | rw [wrap64 (by omega) (by omega)] | (rw [wrap64 (by omega) (by omega)]; rfl) | rw [afterL_succ (by omega)]
    refine ⟨?_, ?_⟩
    · -- e41: Value.slice none 0 0 = Value.slice none 0 0
      show Value.slice none 0 0 = Value.slice none 0 0
      first | rfl | rw [wrap64 (by omega) (by omega)] | (rw [wrap64 (by omega) (by omega)]; rfl) | rw [afterL_succ (by omega)]
    refine ⟨?_, ?_⟩
    · -- e42: Value.bool false = Value.bool false
      show Value.bool false = Value.bool false
      first | rfl | rw [wrap64 (by omega) (by omega)] | (rw [wrap64 (by omega) (by omega)]; rfl) | rw [afterL_succ (by omega)]
    refine ⟨?_, ?_⟩
    · -- e43: Value.slice none 0 0 = Value.slice none 0 0
      show Value.slice none 0 0 = Value.slice none 0 0
      first | rfl | rw [wrap64 (by omega) (by omega)] | (rw [wrap64 (by omega) (by omega)]; rfl) | rw [afterL_succ (by omega)]
    refine ⟨?_, ?_⟩
    · -- e44: Value.slice none 0 0 = Value.slice none 0 0
      show Value.slice none 0 0 = Value.slice none 0 0
      first | rfl | rw [wrap64 (by omega) (by omega)] | (rw [wrap64 (by omega) (by omega)]; rfl) | rw [afterL_succ (by omega)]
    refine ⟨?_, ?_⟩
    · -- e45: (afterS (afterL p ls k) (plOf (ls.getD k []))).pt.x.num = ((afterL p ls (k + 1)).pt.x.num)
      show (afterS (afterL p ls k) (plOf (ls.getD k []))).pt.x.num = ((afterL p ls (k + 1)).pt.x.num)
      first | rfl | rw [wrap64 (by omega) (by omega)] | (rw [wrap64 (by omega) (by omega)]; rfl) | rw [afterL_succ (by omega)]
    refine ⟨?_, ?_⟩
    · -- e46: (afterS (afterL p ls k) (plOf (ls.getD k []))).pt.x.den = ((afterL p ls (k + 1)).pt.x.den)
      show (afterS (afterL p ls k) (plOf (ls.getD k []))).pt.x.den = ((afterL p ls (k + 1)).pt.x.den)
      first | rfl | rw [wrap64 (by omega) (by omega)] | (rw [wrap64 (by omega) (by omega)]; rfl) | rw [afterL_succ (by omega)]
    refine ⟨?_, ?_⟩
    · -- e47: (afterS (afterL p ls k) (plOf (ls.getD k []))).pt.y.num = ((afterL p ls (k + 1)).pt.y.num)
      show (afterS (afterL p ls k) (plOf (ls.getD k []))).pt.y.num = ((afterL p ls (k + 1)).pt.y.num)
      first | rfl | rw [wrap64 (by omega) (by omega)] | (rw [wrap64 (by omega) (by omega)]; rfl) | rw [afterL_succ (by omega)]
    refine ⟨?_, ?_⟩
    · -- e48: (afterS (afterL p ls k) (plOf (ls.getD k []))).pt.y.den = ((afterL p ls (k + 1)).pt.y.den)
      show (afterS (afterL p ls k) (plOf (ls.getD k []))).pt.y.den = ((afterL p ls (k + 1)).pt.y.den)
      first | rfl | rw [wrap64 (by omega) (by omega)] | (rw [wrap64 (by omega) (by omega)]; rfl) | rw [afterL_succ (by omega)]
    -- e49: (ls.take ((max (0 : Int) (min n ((ls.length : Nat) : Int))).toNat)) = (ls.take ((max (0 : Int) (min n ((ls.length : Nat) : Int))).toNat))
    show (ls.take ((max (0 : Int) (min n ((ls.length : Nat) : Int))).toNat)) = (ls.take ((max (0 : Int) (min n ((ls.length : Nat) : Int))).toNat))
    first | rfl | rw [wrap64 (by omega) (by omega)] | (rw [wrap64 (by omega) (by omega)]; rfl) | rw [afterL_succ (by omega)]
  · -- c24f: (decide ((k : Int) < (((ls.take ((max (0 : Int) (min n ((ls.length : Nat) : Int))).toNat)).length : Nat) : Int))) = false
    replace c24 : (decide ((k : Int) < (((ls.take ((max (0 : Int) (min n ((ls.length : Nat) : Int))).toNat)).length : Nat) : Int))) = false := c24
    try simp only [Bool.and_eq_true, Bool.or_eq_true, Bool.and_eq_false_iff, Bool.or_eq_false_iff, decide_eq_true_eq, decide_eq_false_iff_not, Bool.not_eq_true', Bool.not_eq_false', bne_iff_ne, ne_eq, beq_iff_eq, Bool.not_eq_true, Bool.not_eq_false, Int.not_lt, Int.not_le, gt_iff_lt, ge_iff_le, beq_eq_false_iff_ne, bne_eq_false_iff_eq] at c24
    simp only [List.length_take] at c24
    refine ⟨?_, ?_⟩
    · -- l50: Value.int .i64 ((afterL p ls k).h) = Value.int .i64 ((afterL p ls n.toNat).h)
      show Value.int .i64 ((afterL p ls k).h) = Value.int .i64 ((afterL p ls n.toNat).h)
      rw [afterL_min (n := n.toNat) (by omega)]
    refine ⟨?_, ?_⟩
    · -- l51: Value.bool ((afterL p ls k).pt.x.neg) = Value.bool ((afterL p ls n.toNat).pt.x.neg)
      show Value.bool ((afterL p ls k).pt.x.neg) = Value.bool ((afterL p ls n.toNat).pt.x.neg)
      rw [afterL_min (n := n.toNat) (by omega)]
    refine ⟨?_, ?_⟩
    · -- l52: ((afterL p ls k).pt.x.num) = (afterL p ls n.toNat).pt.x.num
      show ((afterL p ls k).pt.x.num) = (afterL p ls n.toNat).pt.x.num
      rw [afterL_min (n := n.toNat) (by omega)]
    refine ⟨?_, ?_⟩
    · -- l53: ((afterL p ls k).pt.x.den) = (afterL p ls n.toNat).pt.x.den
      show ((afterL p ls k).pt.x.den) = (afterL p ls n.toNat).pt.x.den
      rw [afterL_min (n := n.toNat) (by omega)]
    refine ⟨?_, ?_⟩
    · -- l54: Value.bool ((afterL p ls k).pt.y.neg) = Value.bool ((afterL p ls n.toNat).pt.y.neg)
      show Value.bool ((afterL p ls k).pt.y.neg) = Value.bool ((afterL p ls n.toNat).pt.y.neg)
      rw [afterL_min (n := n.toNat) (by omega)]
    refine ⟨?_, ?_⟩
    · -- l55: ((afterL p ls k).pt.y.num) = (afterL p ls n.toNat).pt.y.num
      show ((afterL p ls k).pt.y.num) = (afterL p ls n.toNat).pt.y.num
      rw [afterL_min (n := n.toNat) (by omega)]
    -- l56: ((afterL p ls k).pt.y.den) = (afterL p ls n.toNat).pt.y.den
    show ((afterL p ls k).pt.y.den) = (afterL p ls n.toNat).pt.y.den
    rw [afterL_min (n := n.toNat) (by omega)]
def iPlacementAfter_con : Con := { ι := PlD × (List (List Dat)) × Int, pre := fun i => i.1.ok ∧ stepsOk i.2.1, args := fun i => [.agg [.im (.int .i64 i.1.h), .im (.bool i.1.pt.x.neg), .sl 3 [.int] i.1.pt.x.num, .sl 3 [.int] i.1.pt.x.den, .im (.bool i.1.pt.y.neg), .sl 3 [.int] i.1.pt.y.num, .sl 3 [.int] i.1.pt.y.den], .one (.sl 104 [.int, .bool, .sl 3 [.int], .sl 3 [.int], .bool, .sl 3 [.int], .sl 3 [.int]] i.2.1), .one (.im (.int .i64 i.2.2))], res := fun i => ⟨false, [some 7], [.im (Value.int .i64 ((afterL i.1 i.2.1 i.2.2.toNat).h)), .im (Value.bool ((afterL i.1 i.2.1 i.2.2.toNat).pt.x.neg)), .own 3 [.int] ((afterL i.1 i.2.1 i.2.2.toNat).pt.x.num), .own 3 [.int] ((afterL i.1 i.2.1 i.2.2.toNat).pt.x.den), .im (Value.bool ((afterL i.1 i.2.1 i.2.2.toNat).pt.y.neg)), .own 3 [.int] ((afterL i.1 i.2.1 i.2.2.toNat).pt.y.num), .own 3 [.int] ((afterL i.1 i.2.1 i.2.2.toNat).pt.y.den)]⟩ }
set_option maxRecDepth 100000 in
theorem iPlacementAfter_ok : iPlacementAfter_con.Ok Try.prog 25 := by
  refine fn_ok (X := ⟨tt, [(69, after_con), (68, ownPlacement_con)], [], 12⟩) mixed tt_ok (CTok.cons after_ok (CTok.cons ownPlacement_ok (CTok.nil _))) Try.func25 (by decide) rfl rfl rfl (fun _ => Nat.le_of_ble_eq_true rfl) (fun _ => Nat.le_of_ble_eq_true rfl) (fun _ => []) ?_
  rintro ⟨p, ls, n⟩ hpre
  have hpre : p.ok ∧ stepsOk ls := hpre
  refine by_nf (q := ∃ i1 : PlD × (List (List Dat)) × Int, [DA.agg [DC.im (Value.int .i64 p.h), DC.im (Value.bool p.pt.x.neg), DC.sl 3 [.int] p.pt.x.num, DC.sl 3 [.int] p.pt.x.den, DC.im (Value.bool p.pt.y.neg), DC.sl 3 [.int] p.pt.y.num, DC.sl 3 [.int] p.pt.y.den], DA.one (DC.sl 104 [.int, .bool, .sl 3 [.int], .sl 3 [.int], .bool, .sl 3 [.int], .sl 3 [.int]] ls), DA.one (DC.im (Value.int .i64 n))] = after_con.args i1 ∧ after_con.pre i1 ∧ (∃ i2 : PlD, [DA.agg [DC.im (Value.int .i64 ((afterL i1.1 i1.2.1 i1.2.2.toNat).h)), DC.im (Value.bool ((afterL i1.1 i1.2.1 i1.2.2.toNat).pt.x.neg)), DC.sl 3 [.int] ((afterL i1.1 i1.2.1 i1.2.2.toNat).pt.x.num), DC.sl 3 [.int] ((afterL i1.1 i1.2.1 i1.2.2.toNat).pt.x.den), DC.im (Value.bool ((afterL i1.1 i1.2.1 i1.2.2.toNat).pt.y.neg)), DC.sl 3 [.int] ((afterL i1.1 i1.2.1 i1.2.2.toNat).pt.y.num), DC.sl 3 [.int] ((afterL i1.1 i1.2.1 i1.2.2.toNat).pt.y.den)]] = ownPlacement_con.args i2 ∧ ownPlacement_con.pre i2 ∧ ((Value.int .i64 i2.h = Value.int .i64 ((afterL p ls n.toNat).h)) ∧ (Value.bool i2.pt.x.neg = Value.bool ((afterL p ls n.toNat).pt.x.neg)) ∧ (i2.pt.x.num = (afterL p ls n.toNat).pt.x.num) ∧ (i2.pt.x.den = (afterL p ls n.toNat).pt.x.den) ∧ (Value.bool i2.pt.y.neg = Value.bool ((afterL p ls n.toNat).pt.y.neg)) ∧ (i2.pt.y.num = (afterL p ls n.toNat).pt.y.num) ∧ (i2.pt.y.den = (afterL p ls n.toNat).pt.y.den)))) (by kernel_rfl) ?_
  -- w1: after [DA.agg [DC.im (Value.int .i64 p.h), DC.im (Value.bool p.pt.x.neg), DC.sl 3 [.int] p.pt.x.num, DC.sl 3 [.int] p.pt.x.den, DC.im (Value.bool p.pt.y.neg), DC.sl 3 [.int] p.pt.y.num, DC.sl 3 [.int] p.pt.y.den], DA.one (DC.sl 104 [.int, .bool, .sl 3 [.int], .sl 3 [.int], .bool, .sl 3 [.int], .sl 3 [.int
  refine ⟨(p, ls, n), by
    rfl, by
    show ls.length ≤ 1073741824
    exact hpre.2.1, ?_⟩
  -- w4: ownPlacement [DA.agg [DC.im (Value.int .i64 ((afterL p ls n.toNat).h)), DC.im (Value.bool ((afterL p ls n.toNat).pt.x.neg)), DC.sl 3 [.int] ((afterL p ls n.toNat).pt.x.num), DC.sl 3 [.int] ((afterL p ls n.toNat).pt.x.den), DC.im (Value.bool ((afterL p ls n.toNat).pt.y.neg)), DC.sl 3 [.int] ((afterL p ls n.toNat)
  refine ⟨(afterL p ls n.toNat), by
    rfl, by
    show (afterL p ls n.toNat).ok
    exact afterL_ok hpre.1 hpre.2 _, ?_⟩
  refine ⟨?_, ?_⟩
  · -- l7: Value.int .i64 (afterL p ls n.toNat).h = Value.int .i64 ((afterL p ls n.toNat).h)
    show Value.int .i64 (afterL p ls n.toNat).h = Value.int .i64 ((afterL p ls n.toNat).h)
    rfl
  refine ⟨?_, ?_⟩
  · -- l8: Value.bool (afterL p ls n.toNat).pt.x.neg = Value.bool ((afterL p ls n.toNat).pt.x.neg)
    show Value.bool (afterL p ls n.toNat).pt.x.neg = Value.bool ((afterL p ls n.toNat).pt.x.neg)
    rfl
  refine ⟨?_, ?_⟩
  · -- l9: (afterL p ls n.toNat).pt.x.num = (afterL p ls n.toNat).pt.x.num
    show (afterL p ls n.toNat).pt.x.num = (afterL p ls n.toNat).pt.x.num
    rfl
  refine ⟨?_, ?_⟩
  · -- l10: (afterL p ls n.toNat).pt.x.den = (afterL p ls n.toNat).pt.x.den
    show (afterL p ls n.toNat).pt.x.den = (afterL p ls n.toNat).pt.x.den
    rfl
  refine ⟨?_, ?_⟩
  · -- l11: Value.bool (afterL p ls n.toNat).pt.y.neg = Value.bool ((afterL p ls n.toNat).pt.y.neg)
    show Value.bool (afterL p ls n.toNat).pt.y.neg = Value.bool ((afterL p ls n.toNat).pt.y.neg)
    rfl
  refine ⟨?_, ?_⟩
  · -- l12: (afterL p ls n.toNat).pt.y.num = (afterL p ls n.toNat).pt.y.num
    show (afterL p ls n.toNat).pt.y.num = (afterL p ls n.toNat).pt.y.num
    rfl
  -- l13: (afterL p ls n.toNat).pt.y.den = (afterL p ls n.toNat).pt.y.den
  show (afterL p ls n.toNat).pt.y.den = (afterL p ls n.toNat).pt.y.den
  rfl
def sPlacementAfter_con : Con := { ι := PlD × (List (List Dat)) × Int, pre := fun i => i.1.ok ∧ stepsOk i.2.1, args := fun i => [.agg [.im (.int .i64 i.1.h), .im (.bool i.1.pt.x.neg), .sl 3 [.int] i.1.pt.x.num, .sl 3 [.int] i.1.pt.x.den, .im (.bool i.1.pt.y.neg), .sl 3 [.int] i.1.pt.y.num, .sl 3 [.int] i.1.pt.y.den], .one (.sl 104 [.int, .bool, .sl 3 [.int], .sl 3 [.int], .bool, .sl 3 [.int], .sl 3 [.int]] i.2.1), .one (.im (.int .i64 i.2.2))], res := fun i => ⟨false, [some 7], [.im (Value.int .i64 ((afterL i.1 i.2.1 i.2.2.toNat).h)), .im (Value.bool ((afterL i.1 i.2.1 i.2.2.toNat).pt.x.neg)), .own 3 [.int] ((afterL i.1 i.2.1 i.2.2.toNat).pt.x.num), .own 3 [.int] ((afterL i.1 i.2.1 i.2.2.toNat).pt.x.den), .im (Value.bool ((afterL i.1 i.2.1 i.2.2.toNat).pt.y.neg)), .own 3 [.int] ((afterL i.1 i.2.1 i.2.2.toNat).pt.y.num), .own 3 [.int] ((afterL i.1 i.2.1 i.2.2.toNat).pt.y.den)]⟩ }
set_option maxRecDepth 100000 in
theorem sPlacementAfter_ok : sPlacementAfter_con.Ok Try.prog 22 := by
  refine fn_ok (X := ⟨tt, [(64, l22After_con), (65, l05Copy_con)], [], 29⟩) mixed tt_ok (CTok.cons l22After_ok (CTok.cons l05Copy_ok (CTok.nil _))) Try.func22 (by decide) rfl rfl rfl (fun _ => Nat.le_of_ble_eq_true rfl) (fun _ => Nat.le_of_ble_eq_true rfl) (fun i => [(2, .mk 8 (Nat) (fun x1 => { tm := [(1, .one (.one (.ext 1))), (2, .one (.one (.im (Value.int .i64 i.2.2)))), (3, .one (.one (.bp 2 0))), (6, .one (.one (.bp 7 0))), (9, .one (.one (.ext 1))), (10, .one (.one (.im (Value.int .i64 ((i.2.1.length : Nat) : Int))))), (11, .one (.one (.im (Value.int .i64 (x1 : Int)))))], en := [(2, .box [.im (Value.int .i64 ((afterL i.1 i.2.1 (min x1 i.2.2.toNat)).h)), .im (Value.bool ((afterL i.1 i.2.1 (min x1 i.2.2.toNat)).pt.x.neg)), .ext 3, .ext 4, .im (Value.bool ((afterL i.1 i.2.1 (min x1 i.2.2.toNat)).pt.y.neg)), .ext 5, .ext 6]), (7, .box [.im (Value.int .i64 (0 : Int)), .im (Value.bool false), .im (Value.slice none 0 0), .im (Value.slice none 0 0), .im (Value.bool false), .im (Value.slice none 0 0), .im (Value.slice none 0 0)]), (1, .view 104 [.int, .bool, .sl 3 [.int], .sl 3 [.int], .bool, .sl 3 [.int], .sl 3 [.int]] i.2.1 []), (3, .view 3 [.int] ((afterL i.1 i.2.1 (min x1 i.2.2.toNat)).pt.x.num) []), (4, .view 3 [.int] ((afterL i.1 i.2.1 (min x1 i.2.2.toNat)).pt.x.den) []), (5, .view 3 [.int] ((afterL i.1 i.2.1 (min x1 i.2.2.toNat)).pt.y.num) []), (6, .view 3 [.int] ((afterL i.1 i.2.1 (min x1 i.2.2.toNat)).pt.y.den) [])] }) (fun x1 => x1 ≤ i.2.1.length) (fun x1 => i.2.1.length - x1) (fun _ => []))]) ?_
  rintro ⟨p, ls, n⟩ hpre
  have hpre : p.ok ∧ stepsOk ls := hpre
  refine by_nf (q := (∃ x1 : Nat, (x1 ≤ ls.length) ∧ ((Value.int .i64 n = Value.int .i64 n) ∧ (Value.int .i64 ((ls.length : Nat) : Int) = Value.int .i64 ((ls.length : Nat) : Int)) ∧ (Value.int .i64 (0 : Int) = Value.int .i64 (x1 : Int)) ∧ (Value.int .i64 p.h = Value.int .i64 ((afterL p ls (min x1 n.toNat)).h)) ∧ (Value.bool p.pt.x.neg = Value.bool ((afterL p ls (min x1 n.toNat)).pt.x.neg)) ∧ (Value.bool p.pt.y.neg = Value.bool ((afterL p ls (min x1 n.toNat)).pt.y.neg)) ∧ (Value.int .i64 (0 : Int) = Value.int .i64 (0 : Int)) ∧ (Value.bool false = Value.bool false) ∧ (Value.slice none 0 0 = Value.slice none 0 0) ∧ (Value.slice none 0 0 = Value.slice none 0 0) ∧ (Value.bool false = Value.bool false) ∧ (Value.slice none 0 0 = Value.slice none 0 0) ∧ (Value.slice none 0 0 = Value.slice none 0 0) ∧ (ls = ls) ∧ (p.pt.x.num = ((afterL p ls (min x1 n.toNat)).pt.x.num)) ∧ (p.pt.x.den = ((afterL p ls (min x1 n.toNat)).pt.x.den)) ∧ (p.pt.y.num = ((afterL p ls (min x1 n.toNat)).pt.y.num)) ∧ (p.pt.y.den = ((afterL p ls (min x1 n.toNat)).pt.y.den)))) ∧ ∀ x1 : Nat, (x1 ≤ ls.length) → (((decide ((x1 : Int) < ((ls.length : Nat) : Int))) = true → ((0 ≤ (x1 : Int) ∧ (x1 : Int) < (ls.length : Int)) ∧ ((x1 < ls.length) ∧ (((decide ((x1 : Int) < n)) = true → (∃ i1 : PlD × PlD, [DA.agg [DC.im (Value.int .i64 ((afterL p ls (min x1 n.toNat)).h)), DC.im (Value.bool ((afterL p ls (min x1 n.toNat)).pt.x.neg)), DC.sl 3 [.int] ((afterL p ls (min x1 n.toNat)).pt.x.num), DC.sl 3 [.int] ((afterL p ls (min x1 n.toNat)).pt.x.den), DC.im (Value.bool ((afterL p ls (min x1 n.toNat)).pt.y.neg)), DC.sl 3 [.int] ((afterL p ls (min x1 n.toNat)).pt.y.num), DC.sl 3 [.int] ((afterL p ls (min x1 n.toNat)).pt.y.den)], DA.agg [DC.im (Value.int .i64 (((ls.getD x1 []).getD 0 (.int 0))).n), DC.im (Value.bool ((((ls.getD x1 []).getD 1 (.int 0))).b)), DC.sl 3 [.int] ((((ls.getD x1 []).getD 2 (.int 0))).r), DC.sl 3 [.int] ((((ls.getD x1 []).getD 3 (.int 0))).r), DC.im (Value.bool ((((ls.getD x1 []).getD 4 (.int 0))).b)), DC.sl 3 [.int] ((((ls.getD x1 []).getD 5 (.int 0))).r), DC.sl 3 [.int] ((((ls.getD x1 []).getD 6 (.int 0))).r)]] = l22After_con.args i1 ∧ l22After_con.pre i1 ∧ (∃ y2 : Nat, (y2 ≤ ls.length) ∧ (ls.length - y2 < ls.length - x1) ∧ ((Value.int .i64 n = Value.int .i64 n) ∧ (Value.int .i64 ((ls.length : Nat) : Int) = Value.int .i64 ((ls.length : Nat) : Int)) ∧ (Value.int .i64 (IntKind.i64.wrap ((x1 : Int) + (1 : Int))) = Value.int .i64 (y2 : Int)) ∧ (Value.int .i64 ((afterS i1.1 i1.2).h) = Value.int .i64 ((afterL p ls (min y2 n.toNat)).h)) ∧ (Value.bool ((afterS i1.1 i1.2).pt.x.neg) = Value.bool ((afterL p ls (min y2 n.toNat)).pt.x.neg)) ∧ (Value.bool ((afterS i1.1 i1.2).pt.y.neg) = Value.bool ((afterL p ls (min y2 n.toNat)).pt.y.neg)) ∧ (Value.int .i64 (0 : Int) = Value.int .i64 (0 : Int)) ∧ (Value.bool false = Value.bool false) ∧ (Value.slice none 0 0 = Value.slice none 0 0) ∧ (Value.slice none 0 0 = Value.slice none 0 0) ∧ (Value.bool false = Value.bool false) ∧ (Value.slice none 0 0 = Value.slice none 0 0) ∧ (Value.slice none 0 0 = Value.slice none 0 0) ∧ (ls = ls) ∧ ((afterS i1.1 i1.2).pt.x.num = ((afterL p ls (min y2 n.toNat)).pt.x.num)) ∧ ((afterS i1.1 i1.2).pt.x.den = ((afterL p ls (min y2 n.toNat)).pt.x.den)) ∧ ((afterS i1.1 i1.2).pt.y.num = ((afterL p ls (min y2 n.toNat)).pt.y.num)) ∧ ((afterS i1.1 i1.2).pt.y.den = ((afterL p ls (min y2 n.toNat)).pt.y.den)))))) ∧ ((decide ((x1 : Int) < n)) = false → (∃ y3 : Nat, (y3 ≤ ls.length) ∧ (ls.length - y3 < ls.length - x1) ∧ ((Value.int .i64 n = Value.int .i64 n) ∧ (Value.int .i64 ((ls.length : Nat) : Int) = Value.int .i64 ((ls.length : Nat) : Int)) ∧ (Value.int .i64 (IntKind.i64.wrap ((x1 : Int) + (1 : Int))) = Value.int .i64 (y3 : Int)) ∧ (Value.int .i64 ((afterL p ls (min x1 n.toNat)).h) = Value.int .i64 ((afterL p ls (min y3 n.toNat)).h)) ∧ (Value.bool ((afterL p ls (min x1 n.toNat)).pt.x.neg) = Value.bool ((afterL p ls (min y3 n.toNat)).pt.x.neg)) ∧ (Value.bool ((afterL p ls (min x1 n.toNat)).pt.y.neg) = Value.bool ((afterL p ls (min y3 n.toNat)).pt.y.neg)) ∧ (Value.int .i64 (0 : Int) = Value.int .i64 (0 : Int)) ∧ (Value.bool false = Value.bool false) ∧ (Value.slice none 0 0 = Value.slice none 0 0) ∧ (Value.slice none 0 0 = Value.slice none 0 0) ∧ (Value.bool false = Value.bool false) ∧ (Value.slice none 0 0 = Value.slice none 0 0) ∧ (Value.slice none 0 0 = Value.slice none 0 0) ∧ (ls = ls) ∧ (((afterL p ls (min x1 n.toNat)).pt.x.num) = ((afterL p ls (min y3 n.toNat)).pt.x.num)) ∧ (((afterL p ls (min x1 n.toNat)).pt.x.den) = ((afterL p ls (min y3 n.toNat)).pt.x.den)) ∧ (((afterL p ls (min x1 n.toNat)).pt.y.num) = ((afterL p ls (min y3 n.toNat)).pt.y.num)) ∧ (((afterL p ls (min x1 n.toNat)).pt.y.den) = ((afterL p ls (min y3 n.toNat)).pt.y.den))))))))) ∧ ((decide ((x1 : Int) < ((ls.length : Nat) : Int))) = false → (∃ i2 : PtD, [DA.agg [DC.im (Value.bool ((afterL p ls (min x1 n.toNat)).pt.x.neg)), DC.sl 3 [.int] ((afterL p ls (min x1 n.toNat)).pt.x.num), DC.sl 3 [.int] ((afterL p ls (min x1 n.toNat)).pt.x.den), DC.im (Value.bool ((afterL p ls (min x1 n.toNat)).pt.y.neg)), DC.sl 3 [.int] ((afterL p ls (min x1 n.toNat)).pt.y.num), DC.sl 3 [.int] ((afterL p ls (min x1 n.toNat)).pt.y.den)]] = l05Copy_con.args i2 ∧ l05Copy_con.pre i2 ∧ ((Value.int .i64 ((afterL p ls (min x1 n.toNat)).h) = Value.int .i64 ((afterL p ls n.toNat).h)) ∧ (Value.bool i2.x.neg = Value.bool ((afterL p ls n.toNat).pt.x.neg)) ∧ (i2.x.num = (afterL p ls n.toNat).pt.x.num) ∧ (i2.x.den = (afterL p ls n.toNat).pt.x.den) ∧ (Value.bool i2.y.neg = Value.bool ((afterL p ls n.toNat).pt.y.neg)) ∧ (i2.y.num = (afterL p ls n.toNat).pt.y.num) ∧ (i2.y.den = (afterL p ls n.toNat).pt.y.den)))))) (by kernel_rfl) ?_
  have hL := hpre.2.1
  -- i1
  refine ⟨⟨0, by
    first | trivial | omega | (simp; omega), ?_⟩, ?_⟩
  · -- the beginning
    refine ⟨?_, ?_⟩
    · -- b3: Value.int .i64 n = Value.int .i64 n
      show Value.int .i64 n = Value.int .i64 n
      first | rfl | (simp; done)
    refine ⟨?_, ?_⟩
    · -- b4: Value.int .i64 ((ls.length : Nat) : Int) = Value.int .i64 ((ls.length : Nat) : Int)
      show Value.int .i64 ((ls.length : Nat) : Int) = Value.int .i64 ((ls.length : Nat) : Int)
      first | rfl | (simp; done)
    refine ⟨?_, ?_⟩
    · -- b5: Value.int .i64 (0 : Int) = Value.int .i64 (0 : Int)
      show Value.int .i64 (0 : Int) = Value.int .i64 (0 : Int)
      first | rfl | (simp; done)
    refine ⟨?_, ?_⟩
    · -- b6: Value.int .i64 p.h = Value.int .i64 ((afterL p ls (min 0 n.toNat)).h)
      show Value.int .i64 p.h = Value.int .i64 ((afterL p ls (min 0 n.toNat)).h)
      first | rfl | (simp; done)
    refine ⟨?_, ?_⟩
    · -- b7: Value.bool p.pt.x.neg = Value.bool ((afterL p ls (min 0 n.toNat)).pt.x.neg)
      show Value.bool p.pt.x.neg = Value.bool ((afterL p ls (min 0 n.toNat)).pt.x.neg)
      first | rfl | (simp; done)
    refine ⟨?_, ?_⟩
    · -- b8: Value.bool p.pt.y.neg = Value.bool ((afterL p ls (min 0 n.toNat)).pt.y.neg)
      show Value.bool p.pt.y.neg = Value.bool ((afterL p ls (min 0 n.toNat)).pt.y.neg)
      first | rfl | (simp; done)
    refine ⟨?_, ?_⟩
    · -- b9: Value.int .i64 (0 : Int) = Value.int .i64 (0 : Int)
      show Value.int .i64 (0 : Int) = Value.int .i64 (0 : Int)
      first | rfl | (simp; done)
    refine ⟨?_, ?_⟩
    · -- b10: Value.bool false = Value.bool false
      show Value.bool false = Value.bool false
      first | rfl | (simp; done)
    refine ⟨?_, ?_⟩
    · -- b11: Value.slice none 0 0 = Value.slice none 0 0
      show Value.slice none 0 0 = Value.slice none 0 0
      first | rfl | (simp; done)
    refine ⟨?_, ?_⟩
    · -- b12: Value.slice none 0 0 = Value.slice none 0 0
      show Value.slice none 0 0 = Value.slice none 0 0
      first | rfl | (simp; done)
    refine ⟨?_, ?_⟩
    · -- b13: Value.bool false = Value.bool false
      show Value.bool false = Value.bool false
      first | rfl | (simp; done)
    refine ⟨?_, ?_⟩
    · -- b14: Value.slice none 0 0 = Value.slice none 0 0
      show Value.slice none 0 0 = Value.slice none 0 0
      first | rfl | (simp; done)
    refine ⟨?_, ?_⟩
    · -- b15: Value.slice none 0 0 = Value.slice none 0 0
      show Value.slice none 0 0 = Value.slice none 0 0
      first | rfl | (simp; done)
    refine ⟨?_, ?_⟩
    · -- b16: ls = ls
      show ls = ls
      first | rfl | (simp; done)
    refine ⟨?_, ?_⟩
    · -- b17: p.pt.x.num = ((afterL p ls (min 0 n.toNat)).pt.x.num)
      show p.pt.x.num = ((afterL p ls (min 0 n.toNat)).pt.x.num)
      first | rfl | (simp; done)
    refine ⟨?_, ?_⟩
    · -- b18: p.pt.x.den = ((afterL p ls (min 0 n.toNat)).pt.x.den)
      show p.pt.x.den = ((afterL p ls (min 0 n.toNat)).pt.x.den)
      first | rfl | (simp; done)
    refine ⟨?_, ?_⟩
    · -- b19: p.pt.y.num = ((afterL p ls (min 0 n.toNat)).pt.y.num)
      show p.pt.y.num = ((afterL p ls (min 0 n.toNat)).pt.y.num)
      first | rfl | (simp; done)
    -- b20: p.pt.y.den = ((afterL p ls (min 0 n.toNat)).pt.y.den)
    show p.pt.y.den = ((afterL p ls (min 0 n.toNat)).pt.y.den)
    first | rfl | (simp; done)
  intro (k : Nat) hki1
  have hki1 : k ≤ ls.length := hki1
  refine ⟨fun c21 => ?_, fun c21 => ?_⟩
  · -- c21t: (decide ((k : Int) < ((ls.length : Nat) : Int))) = true
    replace c21 : (decide ((k : Int) < ((ls.length : Nat) : Int))) = true := c21
    try simp only [Bool.and_eq_true, Bool.or_eq_true, Bool.and_eq_false_iff, Bool.or_eq_false_iff, decide_eq_true_eq, decide_eq_false_iff_not, Bool.not_eq_true', Bool.not_eq_false', bne_iff_ne, ne_eq, beq_iff_eq, Bool.not_eq_true, Bool.not_eq_false, Int.not_lt, Int.not_le, gt_iff_lt, ge_iff_le, beq_eq_false_iff_ne, bne_eq_false_iff_eq] at c21
    have o22 : 0 ≤ (k : Int) ∧ (k : Int) < (ls.length : Int) := by
      first | rfl | omega | (simp; done) | (simp; omega)
    refine ⟨o22, ?_⟩
    have o23 : k < ls.length := by
      first | rfl | omega | (simp; done) | (simp; omega)
    refine ⟨o23, ?_⟩
    refine ⟨fun c24 => ?_, fun c24 => ?_⟩
    · -- c24t: (decide ((k : Int) < n)) = true
      replace c24 : (decide ((k : Int) < n)) = true := c24
      try simp only [Bool.and_eq_true, Bool.or_eq_true, Bool.and_eq_false_iff, Bool.or_eq_false_iff, decide_eq_true_eq, decide_eq_false_iff_not, Bool.not_eq_true', Bool.not_eq_false', bne_iff_ne, ne_eq, beq_iff_eq, Bool.not_eq_true, Bool.not_eq_false, Int.not_lt, Int.not_le, gt_iff_lt, ge_iff_le, beq_eq_false_iff_ne, bne_eq_false_iff_eq] at c24
      -- w25: l22After [DA.agg [DC.im (Value.int .i64 ((afterL p ls (min k n.toNat)).h)), DC.im (Value.bool ((afterL p ls (min k n.toNat)).pt.x.neg)), DC.sl 3 [.int] ((afterL p ls (min k n.toNat)).pt.x.num), DC.sl 3 [.int] ((afterL p ls (min k n.toNat)).pt.x.den), DC.im (Value.bool ((afterL p ls (min k n.toNat)).pt.y.neg)
      refine ⟨(afterL p ls (min k n.toNat), plOf (ls.getD k [])), by
        rfl, by
        first | trivial | exact afterL_ok hpre.1 hpre.2 _, ?_⟩
      -- n28
      refine ⟨k + 1, by
        first | trivial | omega | (simp; omega), by
        first | omega | (simp; omega), ?_⟩
      refine ⟨?_, ?_⟩
      · -- e31: Value.int .i64 n = Value.int .i64 n
        show Value.int .i64 n = Value.int .i64 n
        first | rfl | rw [wrap64 (by omega) (by omega)] | rw [Nat.min_eq_left (a := k) (by omega), Nat.min_eq_left (a := k + 1) (by omega), afterL_succ (by omega)] | rw [Nat.min_eq_right (a := k) (by omega), Nat.min_eq_right (a := k + 1) (by omega)]
      refine ⟨?_, ?_⟩
      · -- e32: Value.int .i64 ((ls.length : Nat) : Int) = Value.int .i64 ((ls.length : Nat) : Int)
        show Value.int .i64 ((ls.length : Nat) : Int) = Value.int .i64 ((ls.length : Nat) : Int)
        first | rfl | rw [wrap64 (by omega) (by omega)] | rw [Nat.min_eq_left (a := k) (by omega), Nat.min_eq_left (a := k + 1) (by omega), afterL_succ (by omega)] | rw [Nat.min_eq_right (a := k) (by omega), Nat.min_eq_right (a := k + 1) (by omega)]
      refine ⟨?_, ?_⟩
      · -- e33: Value.int .i64 (IntKind.i64.wrap ((k : Int) + (1 : Int))) = Value.int .i64 ((k + 1) : Int)
        show Value.int .i64 (IntKind.i64.wrap ((k : Int) + (1 : Int))) = Value.int .i64 ((k + 1) : Int)
        first | rfl | rw [wrap64 (by omega) (by omega)] | rw [Nat.min_eq_left (a := k) (by omega), Nat.min_eq_left (a := k + 1) (by omega), afterL_succ (by omega)] | rw [Nat.min_eq_right (a := k) (by omega), Nat.min_eq_right (a := k + 1) (by omega)]
      refine ⟨?_, ?_⟩
      · -- e34: Value.int .i64 ((afterS (afterL p ls (min k n.toNat)) (plOf (ls.getD k []))).h) = Value.int .i64 ((afterL p ls (min (k + 1) n.toNat)).h)
        show Value.int .i64 ((afterS (afterL p ls (min k n.toNat)) (plOf (ls.getD k []))).h) = Value.int .i64 ((afterL p ls (min (k + 1) n.toNat)).h)
        first | rfl | rw [wrap64 (by omega) (by omega)] | rw [Nat.min_eq_left (a := k) (by omega), Nat.min_eq_left (a := k + 1) (by omega), afterL_succ (by omega)] | rw [Nat.min_eq_right (a := k) (by omega), Nat.min_eq_right (a := k + 1) (by omega)]
      refine ⟨?_, ?_⟩
      · -- e35: Value.bool ((afterS (afterL p ls (min k n.toNat)) (plOf (ls.getD k []))).pt.x.neg) = Value.bool ((afterL p ls (min (k + 1) n.toNat)).pt.x.neg)
        show Value.bool ((afterS (afterL p ls (min k n.toNat)) (plOf (ls.getD k []))).pt.x.neg) = Value.bool ((afterL p ls (min (k + 1) n.toNat)).pt.x.neg)
        first | rfl | rw [wrap64 (by omega) (by omega)] | rw [Nat.min_eq_left (a := k) (by omega), Nat.min_eq_left (a := k + 1) (by omega), afterL_succ (by omega)] | rw [Nat.min_eq_right (a := k) (by omega), Nat.min_eq_right (a := k + 1) (by omega)]
      refine ⟨?_, ?_⟩
      · -- e36: Value.bool ((afterS (afterL p ls (min k n.toNat)) (plOf (ls.getD k []))).pt.y.neg) = Value.bool ((afterL p ls (min (k + 1) n.toNat)).pt.y.neg)
        show Value.bool ((afterS (afterL p ls (min k n.toNat)) (plOf (ls.getD k []))).pt.y.neg) = Value.bool ((afterL p ls (min (k + 1) n.toNat)).pt.y.neg)
        first | rfl | rw [wrap64 (by omega) (by omega)] | rw [Nat.min_eq_left (a := k) (by omega), Nat.min_eq_left (a := k + 1) (by omega), afterL_succ (by omega)] | rw [Nat.min_eq_right (a := k) (by omega), Nat.min_eq_right (a := k + 1) (by omega)]
      refine ⟨?_, ?_⟩
      · -- e37: Value.int .i64 (0 : Int) = Value.int .i64 (0 : Int)
        show Value.int .i64 (0 : Int) = Value.int .i64 (0 : Int)
        first | rfl | rw [wrap64 (by omega) (by omega)] | rw [Nat.min_eq_left (a := k) (by omega), Nat.min_eq_left (a := k + 1) (by omega), afterL_succ (by omega)] | rw [Nat.min_eq_right (a := k) (by omega), Nat.min_eq_right (a := k + 1) (by omega)]
      refine ⟨?_, ?_⟩
      · -- e38: Value.bool false = Value.bool false
        show Value.bool false = Value.bool false
        first | rfl | rw [wrap64 (by omega) (by omega)] | rw [Nat.min_eq_left (a := k) (by omega), Nat.min_eq_left (a := k + 1) (by omega), afterL_succ (by omega)] | rw [Nat.min_eq_right (a := k) (by omega), Nat.min_eq_right (a := k + 1) (by omega)]
      refine ⟨?_, ?_⟩
      · -- e39: Value.slice none 0 0 = Value.slice none 0 0
        show Value.slice none 0 0 = Value.slice none 0 0
        first | rfl | rw [wrap64 (by omega) (by omega)] | rw [Nat.min_eq_left (a := k) (by omega), Nat.min_eq_left (a := k + 1) (by omega), afterL_succ (by omega)] | rw [Nat.min_eq_right (a := k) (by omega), Nat.min_eq_right (a := k + 1) (by omega)]
      refine ⟨?_, ?_⟩
      · -- e40: Value.slice none 0 0 = Value.slice none 0 0
        show Value.slice none 0 0 = Value.slice none 0 0
        first | rfl | rw [wrap64 (by omega) (by omega)] | rw [Nat.min_eq_left (a := k) (by omega), Nat.min_eq_left (a := k + 1) (by omega), afterL_succ (by omega)] | rw [Nat.min_eq_right (a := k) (by omega), Nat.min_eq_right (a := k + 1) (by omega)]
      refine ⟨?_, ?_⟩
      · -- e41: Value.bool false = Value.bool false
        show Value.bool false = Value.bool false
        first | rfl | rw [wrap64 (by omega) (by omega)] | rw [Nat.min_eq_left (a := k) (by omega), Nat.min_eq_left (a := k + 1) (by omega), afterL_succ (by omega)] | rw [Nat.min_eq_right (a := k) (by omega), Nat.min_eq_right (a := k + 1) (by omega)]
      refine ⟨?_, ?_⟩
      · -- e42: Value.slice none 0 0 = Value.slice none 0 0
        show Value.slice none 0 0 = Value.slice none 0 0
        first | rfl | rw [wrap64 (by omega) (by omega)] | rw [Nat.min_eq_left (a := k) (by omega), Nat.min_eq_left (a := k + 1) (by omega), afterL_succ (by omega)] | rw [Nat.min_eq_right (a := k) (by omega), Nat.min_eq_right (a := k + 1) (by omega)]
      refine ⟨?_, ?_⟩
      · -- e43: Value.slice none 0 0 = Value.slice none 0 0
        show Value.slice none 0 0 = Value.slice none 0 0
        first | rfl | rw [wrap64 (by omega) (by omega)] | rw [Nat.min_eq_left (a := k) (by omega), Nat.min_eq_left (a := k + 1) (by omega), afterL_succ (by omega)] | rw [Nat.min_eq_right (a := k) (by omega), Nat.min_eq_right (a := k + 1) (by omega)]
      refine ⟨?_, ?_⟩
      · -- e44: ls = ls
        show ls = ls
        first | rfl | rw [wrap64 (by omega) (by omega)] | rw [Nat.min_eq_left (a := k) (by omega), Nat.min_eq_left (a := k + 1) (by omega), afterL_succ (by omega)] | rw [Nat.min_eq_right (a := k) (by omega), Nat.min_eq_right (a := k + 1) (by omega)]
      refine ⟨?_, ?_⟩
      · -- e45: (afterS (afterL p ls (min k n.toNat)) (plOf (ls.getD k []))).pt.x.num = ((afterL p ls (min (k + 1) n.toNat)).pt.x.num)
        show (afterS (afterL p ls (min k n.toNat)) (plOf (ls.getD k []))).pt.x.num = ((afterL p ls (min (k + 1) n.toNat)).pt.x.num)
        first | rfl | rw [wrap64 (by omega) (by omega)] | rw [Nat.min_eq_left (a := k) (by omega), Nat.min_eq_left (a := k + 1) (by omega), afterL_succ (by omega)] | rw [Nat.min_eq_right (a := k) (by omega), Nat.min_eq_right (a := k + 1) (by omega)]
      refine ⟨?_, ?_⟩
      · -- e46: (afterS (afterL p ls (min k n.toNat)) (plOf (ls.getD k []))).pt.x.den = ((afterL p ls (min (k + 1) n.toNat)).pt.x.den)
        show (afterS (afterL p ls (min k n.toNat)) (plOf (ls.getD k []))).pt.x.den = ((afterL p ls (min (k + 1) n.toNat)).pt.x.den)
        first | rfl | rw [wrap64 (by omega) (by omega)] | rw [Nat.min_eq_left (a := k) (by omega), Nat.min_eq_left (a := k + 1) (by omega), afterL_succ (by omega)] | rw [Nat.min_eq_right (a := k) (by omega), Nat.min_eq_right (a := k + 1) (by omega)]
      refine ⟨?_, ?_⟩
      · -- e47: (afterS (afterL p ls (min k n.toNat)) (plOf (ls.getD k []))).pt.y.num = ((afterL p ls (min (k + 1) n.toNat)).pt.y.num)
        show (afterS (afterL p ls (min k n.toNat)) (plOf (ls.getD k []))).pt.y.num = ((afterL p ls (min (k + 1) n.toNat)).pt.y.num)
        first | rfl | rw [wrap64 (by omega) (by omega)] | rw [Nat.min_eq_left (a := k) (by omega), Nat.min_eq_left (a := k + 1) (by omega), afterL_succ (by omega)] | rw [Nat.min_eq_right (a := k) (by omega), Nat.min_eq_right (a := k + 1) (by omega)]
      -- e48: (afterS (afterL p ls (min k n.toNat)) (plOf (ls.getD k []))).pt.y.den = ((afterL p ls (min (k + 1) n.toNat)).pt.y.den)
      show (afterS (afterL p ls (min k n.toNat)) (plOf (ls.getD k []))).pt.y.den = ((afterL p ls (min (k + 1) n.toNat)).pt.y.den)
      first | rfl | rw [wrap64 (by omega) (by omega)] | rw [Nat.min_eq_left (a := k) (by omega), Nat.min_eq_left (a := k + 1) (by omega), afterL_succ (by omega)] | rw [Nat.min_eq_right (a := k) (by omega), Nat.min_eq_right (a := k + 1) (by omega)]
    · -- c24f: (decide ((k : Int) < n)) = false
      replace c24 : (decide ((k : Int) < n)) = false := c24
      try simp only [Bool.and_eq_true, Bool.or_eq_true, Bool.and_eq_false_iff, Bool.or_eq_false_iff, decide_eq_true_eq, decide_eq_false_iff_not, Bool.not_eq_true', Bool.not_eq_false', bne_iff_ne, ne_eq, beq_iff_eq, Bool.not_eq_true, Bool.not_eq_false, Int.not_lt, Int.not_le, gt_iff_lt, ge_iff_le, beq_eq_false_iff_ne, bne_eq_false_iff_eq] at c24
      -- n49
      refine ⟨k + 1, by
        first | trivial | omega | (simp; omega), by
        first | omega | (simp; omega), ?_⟩
      refine ⟨?_, ?_⟩
      · -- e52: Value.int .i64 n = Value.int .i64 n
        show Value.int .i64 n = Value.int .i64 n
        first | rfl | rw [wrap64 (by omega) (by omega)] | rw [Nat.min_eq_left (a := k) (by omega), Nat.min_eq_left (a := k + 1) (by omega), afterL_succ (by omega)] | rw [Nat.min_eq_right (a := k) (by omega), Nat.min_eq_right (a := k + 1) (by omega)]
      refine ⟨?_, ?_⟩
      · -- e53: Value.int .i64 ((ls.length : Nat) : Int) = Value.int .i64 ((ls.length : Nat) : Int)
        show Value.int .i64 ((ls.length : Nat) : Int) = Value.int .i64 ((ls.length : Nat) : Int)
        first | rfl | rw [wrap64 (by omega) (by omega)] | rw [Nat.min_eq_left (a := k) (by omega), Nat.min_eq_left (a := k + 1) (by omega), afterL_succ (by omega)] | rw [Nat.min_eq_right (a := k) (by omega), Nat.min_eq_right (a := k + 1) (by omega)]
      refine ⟨?_, ?_⟩
      · -- e54: Value.int .i64 (IntKind.i64.wrap ((k : Int) + (1 : Int))) = Value.int .i64 ((k + 1) : Int)
        show Value.int .i64 (IntKind.i64.wrap ((k : Int) + (1 : Int))) = Value.int .i64 ((k + 1) : Int)
        first | rfl | rw [wrap64 (by omega) (by omega)] | rw [Nat.min_eq_left (a := k) (by omega), Nat.min_eq_left (a := k + 1) (by omega), afterL_succ (by omega)] | rw [Nat.min_eq_right (a := k) (by omega), Nat.min_eq_right (a := k + 1) (by omega)]
      refine ⟨?_, ?_⟩
      · -- e55: Value.int .i64 ((afterL p ls (min k n.toNat)).h) = Value.int .i64 ((afterL p ls (min (k + 1) n.toNat)).h)
        show Value.int .i64 ((afterL p ls (min k n.toNat)).h) = Value.int .i64 ((afterL p ls (min (k + 1) n.toNat)).h)
        first | rfl | rw [wrap64 (by omega) (by omega)] | rw [Nat.min_eq_left (a := k) (by omega), Nat.min_eq_left (a := k + 1) (by omega), afterL_succ (by omega)] | rw [Nat.min_eq_right (a := k) (by omega), Nat.min_eq_right (a := k + 1) (by omega)]
      refine ⟨?_, ?_⟩
      · -- e56: Value.bool ((afterL p ls (min k n.toNat)).pt.x.neg) = Value.bool ((afterL p ls (min (k + 1) n.toNat)).pt.x.neg)
        show Value.bool ((afterL p ls (min k n.toNat)).pt.x.neg) = Value.bool ((afterL p ls (min (k + 1) n.toNat)).pt.x.neg)
        first | rfl | rw [wrap64 (by omega) (by omega)] | rw [Nat.min_eq_left (a := k) (by omega), Nat.min_eq_left (a := k + 1) (by omega), afterL_succ (by omega)] | rw [Nat.min_eq_right (a := k) (by omega), Nat.min_eq_right (a := k + 1) (by omega)]
      refine ⟨?_, ?_⟩
      · -- e57: Value.bool ((afterL p ls (min k n.toNat)).pt.y.neg) = Value.bool ((afterL p ls (min (k + 1) n.toNat)).pt.y.neg)
        show Value.bool ((afterL p ls (min k n.toNat)).pt.y.neg) = Value.bool ((afterL p ls (min (k + 1) n.toNat)).pt.y.neg)
        first | rfl | rw [wrap64 (by omega) (by omega)] | rw [Nat.min_eq_left (a := k) (by omega), Nat.min_eq_left (a := k + 1) (by omega), afterL_succ (by omega)] | rw [Nat.min_eq_right (a := k) (by omega), Nat.min_eq_right (a := k + 1) (by omega)]
      refine ⟨?_, ?_⟩
      · -- e58: Value.int .i64 (0 : Int) = Value.int .i64 (0 : Int)
        show Value.int .i64 (0 : Int) = Value.int .i64 (0 : Int)
        first | rfl | rw [wrap64 (by omega) (by omega)] | rw [Nat.min_eq_left (a := k) (by omega), Nat.min_eq_left (a := k + 1) (by omega), afterL_succ (by omega)] | rw [Nat.min_eq_right (a := k) (by omega), Nat.min_eq_right (a := k + 1) (by omega)]
      refine ⟨?_, ?_⟩
      · -- e59: Value.bool false = Value.bool false
        show Value.bool false = Value.bool false
        first | rfl | rw [wrap64 (by omega) (by omega)] | rw [Nat.min_eq_left (a := k) (by omega), Nat.min_eq_left (a := k + 1) (by omega), afterL_succ (by omega)] | rw [Nat.min_eq_right (a := k) (by omega), Nat.min_eq_right (a := k + 1) (by omega)]
      refine ⟨?_, ?_⟩
      · -- e60: Value.slice none 0 0 = Value.slice none 0 0
        show Value.slice none 0 0 = Value.slice none 0 0
        first | rfl | rw [wrap64 (by omega) (by omega)] | rw [Nat.min_eq_left (a := k) (by omega), Nat.min_eq_left (a := k + 1) (by omega), afterL_succ (by omega)] | rw [Nat.min_eq_right (a := k) (by omega), Nat.min_eq_right (a := k + 1) (by omega)]
      refine ⟨?_, ?_⟩
      · -- e61: Value.slice none 0 0 = Value.slice none 0 0
        show Value.slice none 0 0 = Value.slice none 0 0
        first | rfl | rw [wrap64 (by omega) (by omega)] | rw [Nat.min_eq_left (a := k) (by omega), Nat.min_eq_left (a := k + 1) (by omega), afterL_succ (by omega)] | rw [Nat.min_eq_right (a := k) (by omega), Nat.min_eq_right (a := k + 1) (by omega)]
      refine ⟨?_, ?_⟩
      · -- e62: Value.bool false = Value.bool false
        show Value.bool false = Value.bool false
        first | rfl | rw [wrap64 (by omega) (by omega)] | rw [Nat.min_eq_left (a := k) (by omega), Nat.min_eq_left (a := k + 1) (by omega), afterL_succ (by omega)] | rw [Nat.min_eq_right (a := k) (by omega), Nat.min_eq_right (a := k + 1) (by omega)]
      refine ⟨?_, ?_⟩
      · -- e63: Value.slice none 0 0 = Value.slice none 0 0
        show Value.slice none 0 0 = Value.slice none 0 0
        first | rfl | rw [wrap64 (by omega) (by omega)] | rw [Nat.min_eq_left (a := k) (by omega), Nat.min_eq_left (a := k + 1) (by omega), afterL_succ (by omega)] | rw [Nat.min_eq_right (a := k) (by omega), Nat.min_eq_right (a := k + 1) (by omega)]
      refine ⟨?_, ?_⟩
      · -- e64: Value.slice none 0 0 = Value.slice none 0 0
        show Value.slice none 0 0 = Value.slice none 0 0
        first | rfl | rw [wrap64 (by omega) (by omega)] | rw [Nat.min_eq_left (a := k) (by omega), Nat.min_eq_left (a := k + 1) (by omega), afterL_succ (by omega)] | rw [Nat.min_eq_right (a := k) (by omega), Nat.min_eq_right (a := k + 1) (by omega)]
      refine ⟨?_, ?_⟩
      · -- e65: ls = ls
        show ls = ls
        first | rfl | rw [wrap64 (by omega) (by omega)] | rw [Nat.min_eq_left (a := k) (by omega), Nat.min_eq_left (a := k + 1) (by omega), afterL_succ (by omega)] | rw [Nat.min_eq_right (a := k) (by omega), Nat.min_eq_right (a := k + 1) (by omega)]
      refine ⟨?_, ?_⟩
      · -- e66: ((afterL p ls (min k n.toNat)).pt.x.num) = ((afterL p ls (min (k + 1) n.toNat)).pt.x.num)
        show ((afterL p ls (min k n.toNat)).pt.x.num) = ((afterL p ls (min (k + 1) n.toNat)).pt.x.num)
        first | rfl | rw [wrap64 (by omega) (by omega)] | rw [Nat.min_eq_left (a := k) (by omega), Nat.min_eq_left (a := k + 1) (by omega), afterL_succ (by omega)] | rw [Nat.min_eq_right (a := k) (by omega), Nat.min_eq_right (a := k + 1) (by omega)]
      refine ⟨?_, ?_⟩
      · -- e67: ((afterL p ls (min k n.toNat)).pt.x.den) = ((afterL p ls (min (k + 1) n.toNat)).pt.x.den)
        show ((afterL p ls (min k n.toNat)).pt.x.den) = ((afterL p ls (min (k + 1) n.toNat)).pt.x.den)
        first | rfl | rw [wrap64 (by omega) (by omega)] | rw [Nat.min_eq_left (a := k) (by omega), Nat.min_eq_left (a := k + 1) (by omega), afterL_succ (by omega)] | rw [Nat.min_eq_right (a := k) (by omega), Nat.min_eq_right (a := k + 1) (by omega)]
      refine ⟨?_, ?_⟩
      · -- e68: ((afterL p ls (min k n.toNat)).pt.y.num) = ((afterL p ls (min (k + 1) n.toNat)).pt.y.num)
        show ((afterL p ls (min k n.toNat)).pt.y.num) = ((afterL p ls (min (k + 1) n.toNat)).pt.y.num)
        first | rfl | rw [wrap64 (by omega) (by omega)] | rw [Nat.min_eq_left (a := k) (by omega), Nat.min_eq_left (a := k + 1) (by omega), afterL_succ (by omega)] | rw [Nat.min_eq_right (a := k) (by omega), Nat.min_eq_right (a := k + 1) (by omega)]
      -- e69: ((afterL p ls (min k n.toNat)).pt.y.den) = ((afterL p ls (min (k + 1) n.toNat)).pt.y.den)
      show ((afterL p ls (min k n.toNat)).pt.y.den) = ((afterL p ls (min (k + 1) n.toNat)).pt.y.den)
      first | rfl | rw [wrap64 (by omega) (by omega)] | rw [Nat.min_eq_left (a := k) (by omega), Nat.min_eq_left (a := k + 1) (by omega), afterL_succ (by omega)] | rw [Nat.min_eq_right (a := k) (by omega), Nat.min_eq_right (a := k + 1) (by omega)]
  · -- c21f: (decide ((k : Int) < ((ls.length : Nat) : Int))) = false
    replace c21 : (decide ((k : Int) < ((ls.length : Nat) : Int))) = false := c21
    try simp only [Bool.and_eq_true, Bool.or_eq_true, Bool.and_eq_false_iff, Bool.or_eq_false_iff, decide_eq_true_eq, decide_eq_false_iff_not, Bool.not_eq_true', Bool.not_eq_false', bne_iff_ne, ne_eq, beq_iff_eq, Bool.not_eq_true, Bool.not_eq_false, Int.not_lt, Int.not_le, gt_iff_lt, ge_iff_le, beq_eq_false_iff_ne, bne_eq_false_iff_eq] at c21
    -- w70: l05Copy [DA.agg [DC.im (Value.bool ((afterL p ls (min k n.toNat)).pt.x.neg)), DC.sl 3 [.int] ((afterL p ls (min k n.toNat)).pt.x.num), DC.sl 3 [.int] ((afterL p ls (min k n.toNat)).pt.x.den), DC.im (Value.bool ((afterL p ls (min k n.toNat)).pt.y.neg)), DC.sl 3 [.int] ((afterL p ls (min k n.toNat)).pt.y.num)
    refine ⟨(afterL p ls (min k n.toNat)).pt, by
      rfl, by
      show ((afterL p ls (min k n.toNat)).pt).ok
      first | trivial | exact afterL_ok hpre.1 hpre.2 _, ?_⟩
    refine ⟨?_, ?_⟩
    · -- l73: Value.int .i64 ((afterL p ls (min k n.toNat)).h) = Value.int .i64 ((afterL p ls n.toNat).h)
      show Value.int .i64 ((afterL p ls (min k n.toNat)).h) = Value.int .i64 ((afterL p ls n.toNat).h)
      rw [show min k n.toNat = min n.toNat ls.length by omega]; rw [afterL_min (n := n.toNat) rfl]
    refine ⟨?_, ?_⟩
    · -- l74: Value.bool ((afterL p ls (min k n.toNat)).pt).x.neg = Value.bool ((afterL p ls n.toNat).pt.x.neg)
      show Value.bool ((afterL p ls (min k n.toNat)).pt).x.neg = Value.bool ((afterL p ls n.toNat).pt.x.neg)
      rw [show min k n.toNat = min n.toNat ls.length by omega]; rw [afterL_min (n := n.toNat) rfl]
    refine ⟨?_, ?_⟩
    · -- l75: ((afterL p ls (min k n.toNat)).pt).x.num = (afterL p ls n.toNat).pt.x.num
      show ((afterL p ls (min k n.toNat)).pt).x.num = (afterL p ls n.toNat).pt.x.num
      rw [show min k n.toNat = min n.toNat ls.length by omega]; rw [afterL_min (n := n.toNat) rfl]
    refine ⟨?_, ?_⟩
    · -- l76: ((afterL p ls (min k n.toNat)).pt).x.den = (afterL p ls n.toNat).pt.x.den
      show ((afterL p ls (min k n.toNat)).pt).x.den = (afterL p ls n.toNat).pt.x.den
      rw [show min k n.toNat = min n.toNat ls.length by omega]; rw [afterL_min (n := n.toNat) rfl]
    refine ⟨?_, ?_⟩
    · -- l77: Value.bool ((afterL p ls (min k n.toNat)).pt).y.neg = Value.bool ((afterL p ls n.toNat).pt.y.neg)
      show Value.bool ((afterL p ls (min k n.toNat)).pt).y.neg = Value.bool ((afterL p ls n.toNat).pt.y.neg)
      rw [show min k n.toNat = min n.toNat ls.length by omega]; rw [afterL_min (n := n.toNat) rfl]
    refine ⟨?_, ?_⟩
    · -- l78: ((afterL p ls (min k n.toNat)).pt).y.num = (afterL p ls n.toNat).pt.y.num
      show ((afterL p ls (min k n.toNat)).pt).y.num = (afterL p ls n.toNat).pt.y.num
      rw [show min k n.toNat = min n.toNat ls.length by omega]; rw [afterL_min (n := n.toNat) rfl]
    -- l79: ((afterL p ls (min k n.toNat)).pt).y.den = (afterL p ls n.toNat).pt.y.den
    show ((afterL p ls (min k n.toNat)).pt).y.den = (afterL p ls n.toNat).pt.y.den
    rw [show min k n.toNat = min n.toNat ls.length by omega]; rw [afterL_min (n := n.toNat) rfl]
end Go.Proofs.Ytemgpfojmdncjaa
