/-
  Scenes.
-/
import Derived.Test.YtemgpfojmdncjaaRkB
import Derived.Test.YtemgpfojmdncjaaScL
import Derived.Test.YtemgpfojmdncjaaTyI
import Derived.Test.YtemgpfojmdncjaaExD
namespace Go.Proofs.Ytemgpfojmdncjaa
set_option linter.unusedVariables false
set_option linter.unusedSimpArgs false
open Go.RowKit
def szVecS_con : Con := { ι := (List (List Dat)) × Int, pre := fun i => Dat.has (.sl 31 [.int, .int]) (.sl i.1) ∧ 0 ≤ i.2 ∧ i.2 ≤ 1048576, args := fun i => [.one (.sl 25 [.int, .int] i.1), .one (.im (.int .i64 i.2))], res := fun i => ⟨false, [none], [.im (Value.int .i64 (szR (i.1.length + szRows i.1) i.2))]⟩ }
set_option maxRecDepth 100000 in
theorem szVecS_ok : szVecS_con.Ok Try.prog 41 := by
  refine fn_ok (X := ⟨tt, [], [], 12⟩) mixed tt_ok (CTok.nil _) Try.func41 (by decide) rfl rfl rfl (fun _ => Nat.le_of_ble_eq_true rfl) (fun _ => Nat.le_of_ble_eq_true rfl) (fun _ => []) ?_
  rintro ⟨l, n⟩ hpre
  have hpre : Dat.has (.sl 31 [.int, .int]) (.sl l) ∧ 0 ≤ n ∧ n ≤ 1048576 := hpre
  refine by_nf (q := ((decide ((IntKind.i64.wrap (n - ((l.length : Nat) : Int))) < (0 : Int))) = true → ((Value.int .i64 (-1 : Int) = Value.int .i64 (szR (l.length + szRows l) n)))) ∧ ((decide ((IntKind.i64.wrap (n - ((l.length : Nat) : Int))) < (0 : Int))) = false → ((Value.int .i64 (IntKind.i64.wrap (n - ((l.length : Nat) : Int))) = Value.int .i64 (szR (l.length + szRows l) n))))) (by kernel_rfl) ?_
  obtain ⟨hh, h0, h1⟩ := hpre
  have hz := has_leaf (by decide) hh
  simp only [Dat.has] at hh
  obtain ⟨hl, -⟩ := hh
  have hw : IntKind.i64.wrap (n - (l.length : Int)) = n - l.length := wrap64 (by omega) (by omega)
  refine ⟨fun c1 => ?_, fun c1 => ?_⟩
  · skip
    replace c1 : (decide ((IntKind.i64.wrap (n - ((l.length : Nat) : Int))) < (0 : Int))) = true := c1
    try simp only [Bool.and_eq_true, Bool.or_eq_true, Bool.and_eq_false_iff, Bool.or_eq_false_iff, decide_eq_true_eq, decide_eq_false_iff_not, Bool.not_eq_true', Bool.not_eq_false', bne_iff_ne, ne_eq, beq_iff_eq, Bool.not_eq_true, Bool.not_eq_false, Int.not_lt, Int.not_le, gt_iff_lt, ge_iff_le, beq_eq_false_iff_ne, bne_eq_false_iff_eq] at c1
    show Value.int .i64 (-1 : Int) = Value.int .i64 (szR (l.length + szRows l) n)
    refine vint ?_; try rw [hw] at *; grind [szR]
  · skip
    replace c1 : (decide ((IntKind.i64.wrap (n - ((l.length : Nat) : Int))) < (0 : Int))) = false := c1
    try simp only [Bool.and_eq_true, Bool.or_eq_true, Bool.and_eq_false_iff, Bool.or_eq_false_iff, decide_eq_true_eq, decide_eq_false_iff_not, Bool.not_eq_true', Bool.not_eq_false', bne_iff_ne, ne_eq, beq_iff_eq, Bool.not_eq_true, Bool.not_eq_false, Int.not_lt, Int.not_le, gt_iff_lt, ge_iff_le, beq_eq_false_iff_ne, bne_eq_false_iff_eq] at c1
    show Value.int .i64 (IntKind.i64.wrap (n - ((l.length : Nat) : Int))) = Value.int .i64 (szR (l.length + szRows l) n)
    refine vint ?_; try rw [hw] at *; grind [szR]
def szVecSS_con : Con := { ι := (List (List Dat)) × Int, pre := fun i => Dat.has (.sl 36 [.sl 31 [.int, .int]]) (.sl i.1) ∧ 0 ≤ i.2 ∧ i.2 ≤ 1048576, args := fun i => [.one (.sl 26 [.sl 25 [.int, .int]] i.1), .one (.im (.int .i64 i.2))], res := fun i => ⟨false, [none], [.im (Value.int .i64 (szR (i.1.length + szRows i.1) i.2))]⟩ }
set_option maxRecDepth 100000 in
theorem szVecSS_ok : szVecSS_con.Ok Try.prog 54 := by
  refine fn_ok (X := ⟨tt, [(41, szVecS_con)], [], 27⟩) mixed tt_ok (CTok.cons szVecS_ok (CTok.nil _)) Try.func54 (by decide) rfl rfl rfl (fun _ => Nat.le_of_ble_eq_true rfl) (fun _ => Nat.le_of_ble_eq_true rfl) (fun i => [(5, .mk 2 (Nat × Int) (fun x1 => { tm := [(0, .one (.one (.ext 1))), (4, .one (.one (.im (Value.int .i64 (0 : Int))))), (5, .one (.one (.im (Value.int .i64 (x1.1 : Int))))), (1, .one (.one (.im (Value.int .i64 x1.2))))], en := [(1, .view 26 [.sl 25 [.int, .int]] i.1 [])] }) (fun x1 => x1.1 ≤ i.1.length ∧ 0 ≤ x1.2 ∧ x1.2 + i.1.length + szRows (i.1.take x1.1) = i.2) (fun x1 => i.1.length - x1.1) (fun _ => []))]) ?_
  rintro ⟨l, n⟩ hpre
  have hpre : Dat.has (.sl 36 [.sl 31 [.int, .int]]) (.sl l) ∧ 0 ≤ n ∧ n ≤ 1048576 := hpre
  refine by_nf (q := ((decide ((IntKind.i64.wrap (n - ((l.length : Nat) : Int))) < (0 : Int))) = true → ((Value.int .i64 (-1 : Int) = Value.int .i64 (szR (l.length + szRows l) n)))) ∧ ((decide ((IntKind.i64.wrap (n - ((l.length : Nat) : Int))) < (0 : Int))) = false → ((∃ x1 : Nat × Int, (x1.1 ≤ l.length ∧ 0 ≤ x1.2 ∧ x1.2 + l.length + szRows (l.take x1.1) = n) ∧ ((Value.int .i64 (0 : Int) = Value.int .i64 (0 : Int)) ∧ (Value.int .i64 (0 : Int) = Value.int .i64 (x1.1 : Int)) ∧ (Value.int .i64 (IntKind.i64.wrap (n - ((l.length : Nat) : Int))) = Value.int .i64 x1.2) ∧ (l = l))) ∧ ∀ x1 : Nat × Int, (x1.1 ≤ l.length ∧ 0 ≤ x1.2 ∧ x1.2 + l.length + szRows (l.take x1.1) = n) → (((decide ((x1.1 : Int) < ((l.length : Nat) : Int))) = true → ((0 ≤ (x1.1 : Int) ∧ (x1.1 : Int) < (l.length : Int)) ∧ ((x1.1 < l.length) ∧ (∃ i1 : (List (List Dat)) × Int, [DA.one (DC.sl 25 [.int, .int] ((((l.getD x1.1 []).getD 0 (.int 0))).r)), DA.one (DC.im (Value.int .i64 x1.2))] = szVecS_con.args i1 ∧ szVecS_con.pre i1 ∧ (((decide ((szR (i1.1.length + szRows i1.1) i1.2) < (0 : Int))) = true → ((Value.int .i64 (-1 : Int) = Value.int .i64 (szR (l.length + szRows l) n)))) ∧ ((decide ((szR (i1.1.length + szRows i1.1) i1.2) < (0 : Int))) = false → (∃ y2 : Nat × Int, (y2.1 ≤ l.length ∧ 0 ≤ y2.2 ∧ y2.2 + l.length + szRows (l.take y2.1) = n) ∧ (l.length - y2.1 < l.length - x1.1) ∧ ((Value.int .i64 (0 : Int) = Value.int .i64 (0 : Int)) ∧ (Value.int .i64 (IntKind.i64.wrap ((x1.1 : Int) + (1 : Int))) = Value.int .i64 (y2.1 : Int)) ∧ (Value.int .i64 (szR (i1.1.length + szRows i1.1) i1.2) = Value.int .i64 y2.2) ∧ (l = l))))))))) ∧ ((decide ((x1.1 : Int) < ((l.length : Nat) : Int))) = false → ((Value.int .i64 x1.2 = Value.int .i64 (szR (l.length + szRows l) n)))))))) (by kernel_rfl) ?_
  obtain ⟨hh, h0, h1⟩ := hpre
  have hh2 := has_rows hh
  have hl := has_len hh
  have hw : IntKind.i64.wrap (n - (l.length : Int)) = n - l.length := wrap64 (by omega) (by omega)
  refine ⟨fun c1 => ?_, fun c1 => ?_⟩
  · skip
    replace c1 : (decide ((IntKind.i64.wrap (n - ((l.length : Nat) : Int))) < (0 : Int))) = true := c1
    try simp only [Bool.and_eq_true, Bool.or_eq_true, Bool.and_eq_false_iff, Bool.or_eq_false_iff, decide_eq_true_eq, decide_eq_false_iff_not, Bool.not_eq_true', Bool.not_eq_false', bne_iff_ne, ne_eq, beq_iff_eq, Bool.not_eq_true, Bool.not_eq_false, Int.not_lt, Int.not_le, gt_iff_lt, ge_iff_le, beq_eq_false_iff_ne, bne_eq_false_iff_eq] at c1
    show Value.int .i64 (-1 : Int) = Value.int .i64 (szR (l.length + szRows l) n)
    refine vint ?_; try rw [hw] at *; grind [szR]
  · skip
    replace c1 : (decide ((IntKind.i64.wrap (n - ((l.length : Nat) : Int))) < (0 : Int))) = false := c1
    try simp only [Bool.and_eq_true, Bool.or_eq_true, Bool.and_eq_false_iff, Bool.or_eq_false_iff, decide_eq_true_eq, decide_eq_false_iff_not, Bool.not_eq_true', Bool.not_eq_false', bne_iff_ne, ne_eq, beq_iff_eq, Bool.not_eq_true, Bool.not_eq_false, Int.not_lt, Int.not_le, gt_iff_lt, ge_iff_le, beq_eq_false_iff_ne, bne_eq_false_iff_eq] at c1
    refine ⟨⟨(0, n - l.length), by
      first | omega | (rw [hw] at c1; simp [szRows]; omega) | (unfold szR at *; grind), ?_⟩, ?_⟩
    · skip
      refine ⟨?_, ?_⟩
      · skip
        show Value.int .i64 (0 : Int) = Value.int .i64 (0 : Int)
        first | rfl | exact vint hw
      refine ⟨?_, ?_⟩
      · skip
        show Value.int .i64 (0 : Int) = Value.int .i64 (0 : Int)
        first | rfl | exact vint hw
      refine ⟨?_, ?_⟩
      · skip
        show Value.int .i64 (IntKind.i64.wrap (n - ((l.length : Nat) : Int))) = Value.int .i64 (n - l.length)
        first | rfl | exact vint hw
      show l = l
      first | rfl | exact vint hw
    rintro ⟨k, m⟩ hki3
    have hki3 : k ≤ l.length ∧ 0 ≤ m ∧ m + l.length + szRows (l.take k) = n := hki3
    have hle := szRows_take_le l k
    refine ⟨fun c9 => ?_, fun c9 => ?_⟩
    · skip
      replace c9 : (decide ((k : Int) < ((l.length : Nat) : Int))) = true := c9
      try simp only [Bool.and_eq_true, Bool.or_eq_true, Bool.and_eq_false_iff, Bool.or_eq_false_iff, decide_eq_true_eq, decide_eq_false_iff_not, Bool.not_eq_true', Bool.not_eq_false', bne_iff_ne, ne_eq, beq_iff_eq, Bool.not_eq_true, Bool.not_eq_false, Int.not_lt, Int.not_le, gt_iff_lt, ge_iff_le, beq_eq_false_iff_ne, bne_eq_false_iff_eq] at c9
      have o10 : 0 ≤ (k : Int) ∧ (k : Int) < (l.length : Int) := by
        first | rfl | omega | (simp; done) | (simp; omega)
      refine ⟨o10, ?_⟩
      have o11 : k < l.length := by
        first | rfl | omega | (simp; done) | (simp; omega)
      refine ⟨o11, ?_⟩
      refine ⟨(((l.getD k []).getD 0 (.int 0)).r, m), by
        rfl, by
        show Dat.has (.sl 31 [.int, .int]) (.sl (((l.getD k []).getD 0 (.int 0)).r)) ∧ 0 ≤ m ∧ m ≤ 1048576
        refine ⟨?_, by omega, by omega⟩
        have := hh2 k (by omega)
        rw [← one_row this] at this
        first | exact this | exact this.1, ?_⟩
      have hle := szRows_take_le l (k + 1)
      have hts := szRows_take l k (by omega)
      have hrow := hh2 k (by omega)
      rw [← one_row hrow] at hts
      have hts : szRows (l.take (k + 1)) = szRows (l.take k) + ((((l.getD k []).getD 0 (.int 0)).r).length + szRows (((l.getD k []).getD 0 (.int 0)).r)) := by first | exact hts | simpa only [szRow, Dat.sz, Nat.add_zero] using hts
      refine ⟨fun c15 => ?_, fun c15 => ?_⟩
      · skip
        replace c15 : (decide ((szR ((((l.getD k []).getD 0 (.int 0)).r).length + szRows (((l.getD k []).getD 0 (.int 0)).r)) m) < (0 : Int))) = true := c15
        try simp only [Bool.and_eq_true, Bool.or_eq_true, Bool.and_eq_false_iff, Bool.or_eq_false_iff, decide_eq_true_eq, decide_eq_false_iff_not, Bool.not_eq_true', Bool.not_eq_false', bne_iff_ne, ne_eq, beq_iff_eq, Bool.not_eq_true, Bool.not_eq_false, Int.not_lt, Int.not_le, gt_iff_lt, ge_iff_le, beq_eq_false_iff_ne, bne_eq_false_iff_eq] at c15
        show Value.int .i64 (-1 : Int) = Value.int .i64 (szR (l.length + szRows l) n)
        refine vint ?_; try rw [hw] at *; grind [szR]
      · skip
        replace c15 : (decide ((szR ((((l.getD k []).getD 0 (.int 0)).r).length + szRows (((l.getD k []).getD 0 (.int 0)).r)) m) < (0 : Int))) = false := c15
        try simp only [Bool.and_eq_true, Bool.or_eq_true, Bool.and_eq_false_iff, Bool.or_eq_false_iff, decide_eq_true_eq, decide_eq_false_iff_not, Bool.not_eq_true', Bool.not_eq_false', bne_iff_ne, ne_eq, beq_iff_eq, Bool.not_eq_true, Bool.not_eq_false, Int.not_lt, Int.not_le, gt_iff_lt, ge_iff_le, beq_eq_false_iff_ne, bne_eq_false_iff_eq] at c15
        refine ⟨(k + 1, szR ((((l.getD k []).getD 0 (.int 0)).r).length + szRows (((l.getD k []).getD 0 (.int 0)).r)) m), by
          first | omega | (rw [hw] at c1; simp [szRows]; omega) | (unfold szR at *; grind), by
          first | omega | (simp; omega), ?_⟩
        refine ⟨?_, ?_⟩
        · skip
          show Value.int .i64 (0 : Int) = Value.int .i64 (0 : Int)
          first | rfl | exact vint (wrap64 (by omega) (by omega))
        refine ⟨?_, ?_⟩
        · skip
          show Value.int .i64 (IntKind.i64.wrap ((k : Int) + (1 : Int))) = Value.int .i64 ((k + 1) : Int)
          first | rfl | exact vint (wrap64 (by omega) (by omega))
        refine ⟨?_, ?_⟩
        · skip
          show Value.int .i64 (szR ((((l.getD k []).getD 0 (.int 0)).r).length + szRows (((l.getD k []).getD 0 (.int 0)).r)) m) = Value.int .i64 (szR ((((l.getD k []).getD 0 (.int 0)).r).length + szRows (((l.getD k []).getD 0 (.int 0)).r)) m)
          first | rfl | exact vint (wrap64 (by omega) (by omega))
        show l = l
        first | rfl | exact vint (wrap64 (by omega) (by omega))
    · skip
      replace c9 : (decide ((k : Int) < ((l.length : Nat) : Int))) = false := c9
      try simp only [Bool.and_eq_true, Bool.or_eq_true, Bool.and_eq_false_iff, Bool.or_eq_false_iff, decide_eq_true_eq, decide_eq_false_iff_not, Bool.not_eq_true', Bool.not_eq_false', bne_iff_ne, ne_eq, beq_iff_eq, Bool.not_eq_true, Bool.not_eq_false, Int.not_lt, Int.not_le, gt_iff_lt, ge_iff_le, beq_eq_false_iff_ne, bne_eq_false_iff_eq] at c9
      obtain rfl : k = l.length := by omega
      rw [List.take_length] at hki3
      show Value.int .i64 m = Value.int .i64 (szR (l.length + szRows l) n)
      refine vint ?_; try rw [hw] at *; grind [szR]
def szScene_con : Con := { ι := Scn × Int, pre := fun i => hasRow [.int, .int, .int, .int, .sl 31 [.int, .int], .sl 36 [.sl 31 [.int, .int]], .sl 31 [.int, .int]] [.int i.1.low.1, .int i.1.low.2, .int i.1.high.1, .int i.1.high.2, .sl (vecsD i.1.robot), .sl (areasD i.1.obst), .sl (vecsD i.1.tables)] ∧ 0 ≤ i.2 ∧ i.2 ≤ 1048576, args := fun i => [.agg [.im (.int .i64 i.1.low.1), .im (.int .i64 i.1.low.2), .im (.int .i64 i.1.high.1), .im (.int .i64 i.1.high.2), .sl 25 [.int, .int] (vecsD i.1.robot), .sl 26 [.sl 25 [.int, .int]] (areasD i.1.obst), .sl 25 [.int, .int] (vecsD i.1.tables)], .one (.im (.int .i64 i.2))], res := fun i => ⟨false, [none], [.im (Value.int .i64 (szR (szRow [.int i.1.low.1, .int i.1.low.2, .int i.1.high.1, .int i.1.high.2, .sl (vecsD i.1.robot), .sl (areasD i.1.obst), .sl (vecsD i.1.tables)]) i.2))]⟩ }
set_option maxRecDepth 100000 in
theorem szScene_ok : szScene_con.Ok Try.prog 14 := by
  refine fn_ok (X := ⟨tt, [(41, szVecS_con), (54, szVecSS_con)], [], 24⟩) mixed tt_ok (CTok.cons szVecS_ok (CTok.cons szVecSS_ok (CTok.nil _))) Try.func14 (by decide) rfl rfl rfl (fun _ => Nat.le_of_ble_eq_true rfl) (fun _ => Nat.le_of_ble_eq_true rfl) (fun _ => []) ?_
  rintro ⟨s, n⟩ hpre
  have hpre : hasRow [.int, .int, .int, .int, .sl 31 [.int, .int], .sl 36 [.sl 31 [.int, .int]], .sl 31 [.int, .int]] [.int s.low.1, .int s.low.2, .int s.high.1, .int s.high.2, .sl (vecsD s.robot), .sl (areasD s.obst), .sl (vecsD s.tables)] ∧ 0 ≤ n ∧ n ≤ 1048576 := hpre
  refine by_nf (q := ∃ i1 : (List (List Dat)) × Int, [DA.one (DC.sl 25 [.int, .int] (vecsD s.robot)), DA.one (DC.im (Value.int .i64 n))] = szVecS_con.args i1 ∧ szVecS_con.pre i1 ∧ (((decide ((szR (i1.1.length + szRows i1.1) i1.2) < (0 : Int))) = true → ((Value.int .i64 (-1 : Int) = Value.int .i64 (szR (szRow [.int s.low.1, .int s.low.2, .int s.high.1, .int s.high.2, .sl (vecsD s.robot), .sl (areasD s.obst), .sl (vecsD s.tables)]) n)))) ∧ ((decide ((szR (i1.1.length + szRows i1.1) i1.2) < (0 : Int))) = false → (∃ i2 : (List (List Dat)) × Int, [DA.one (DC.sl 26 [.sl 25 [.int, .int]] (areasD s.obst)), DA.one (DC.im (Value.int .i64 (szR (i1.1.length + szRows i1.1) i1.2)))] = szVecSS_con.args i2 ∧ szVecSS_con.pre i2 ∧ (((decide ((szR (i2.1.length + szRows i2.1) i2.2) < (0 : Int))) = true → ((Value.int .i64 (-1 : Int) = Value.int .i64 (szR (szRow [.int s.low.1, .int s.low.2, .int s.high.1, .int s.high.2, .sl (vecsD s.robot), .sl (areasD s.obst), .sl (vecsD s.tables)]) n)))) ∧ ((decide ((szR (i2.1.length + szRows i2.1) i2.2) < (0 : Int))) = false → (∃ i3 : (List (List Dat)) × Int, [DA.one (DC.sl 25 [.int, .int] (vecsD s.tables)), DA.one (DC.im (Value.int .i64 (szR (i2.1.length + szRows i2.1) i2.2)))] = szVecS_con.args i3 ∧ szVecS_con.pre i3 ∧ (((decide ((szR (i3.1.length + szRows i3.1) i3.2) < (0 : Int))) = true → ((Value.int .i64 (-1 : Int) = Value.int .i64 (szR (szRow [.int s.low.1, .int s.low.2, .int s.high.1, .int s.high.2, .sl (vecsD s.robot), .sl (areasD s.obst), .sl (vecsD s.tables)]) n)))) ∧ ((decide ((szR (i3.1.length + szRows i3.1) i3.2) < (0 : Int))) = false → ((Value.int .i64 (szR (i3.1.length + szRows i3.1) i3.2) = Value.int .i64 (szR (szRow [.int s.low.1, .int s.low.2, .int s.high.1, .int s.high.2, .sl (vecsD s.robot), .sl (areasD s.obst), .sl (vecsD s.tables)]) n)))))))))))) (by kernel_rfl) ?_
  obtain ⟨hh, h0, h1⟩ := hpre
  simp only [hasRow] at hh
  refine ⟨((vecsD s.robot), n), by
    rfl, by
    show Dat.has (.sl 31 [.int, .int]) (.sl (vecsD s.robot)) ∧ 0 ≤ n ∧ n ≤ 1048576
    refine ⟨?_, ?_, ?_⟩ <;> first | (simp only [hasRow]; simp only [hh, and_self]; done) | exact hh.1 | exact hh.2.1 | exact hh.2.2.1 | exact hh.2.2.2.1 | exact hh.2.2.2.2.1 | exact hh.2.2.2.2.2.1 | exact hh.2.2.2.2.2.2.1 | omega | (unfold szR; grind) | (simp [hh]; done), ?_⟩
  refine ⟨fun c4 => ?_, fun c4 => ?_⟩
  · skip
    replace c4 : (decide ((szR ((vecsD s.robot).length + szRows (vecsD s.robot)) n) < (0 : Int))) = true := c4
    try simp only [Bool.and_eq_true, Bool.or_eq_true, Bool.and_eq_false_iff, Bool.or_eq_false_iff, decide_eq_true_eq, decide_eq_false_iff_not, Bool.not_eq_true', Bool.not_eq_false', bne_iff_ne, ne_eq, beq_iff_eq, Bool.not_eq_true, Bool.not_eq_false, Int.not_lt, Int.not_le, gt_iff_lt, ge_iff_le, beq_eq_false_iff_ne, bne_eq_false_iff_eq] at c4
    show Value.int .i64 (-1 : Int) = Value.int .i64 (szR (szRow [.int s.low.1, .int s.low.2, .int s.high.1, .int s.high.2, .sl (vecsD s.robot), .sl (areasD s.obst), .sl (vecsD s.tables)]) n)
    first | rfl | (refine vint ?_; try simp only [szRow, Dat.sz, Nat.add_zero, Nat.zero_add] at *; all_goals grind [szR])
  · skip
    replace c4 : (decide ((szR ((vecsD s.robot).length + szRows (vecsD s.robot)) n) < (0 : Int))) = false := c4
    try simp only [Bool.and_eq_true, Bool.or_eq_true, Bool.and_eq_false_iff, Bool.or_eq_false_iff, decide_eq_true_eq, decide_eq_false_iff_not, Bool.not_eq_true', Bool.not_eq_false', bne_iff_ne, ne_eq, beq_iff_eq, Bool.not_eq_true, Bool.not_eq_false, Int.not_lt, Int.not_le, gt_iff_lt, ge_iff_le, beq_eq_false_iff_ne, bne_eq_false_iff_eq] at c4
    refine ⟨((areasD s.obst), (szR ((vecsD s.robot).length + szRows (vecsD s.robot)) n)), by
      rfl, by
      show Dat.has (.sl 36 [.sl 31 [.int, .int]]) (.sl (areasD s.obst)) ∧ 0 ≤ (szR ((vecsD s.robot).length + szRows (vecsD s.robot)) n) ∧ (szR ((vecsD s.robot).length + szRows (vecsD s.robot)) n) ≤ 1048576
      refine ⟨?_, ?_, ?_⟩ <;> first | (simp only [hasRow]; simp only [hh, and_self]; done) | exact hh.1 | exact hh.2.1 | exact hh.2.2.1 | exact hh.2.2.2.1 | exact hh.2.2.2.2.1 | exact hh.2.2.2.2.2.1 | exact hh.2.2.2.2.2.2.1 | omega | (unfold szR; grind) | (simp [hh]; done), ?_⟩
    refine ⟨fun c9 => ?_, fun c9 => ?_⟩
    · skip
      replace c9 : (decide ((szR ((areasD s.obst).length + szRows (areasD s.obst)) (szR ((vecsD s.robot).length + szRows (vecsD s.robot)) n)) < (0 : Int))) = true := c9
      try simp only [Bool.and_eq_true, Bool.or_eq_true, Bool.and_eq_false_iff, Bool.or_eq_false_iff, decide_eq_true_eq, decide_eq_false_iff_not, Bool.not_eq_true', Bool.not_eq_false', bne_iff_ne, ne_eq, beq_iff_eq, Bool.not_eq_true, Bool.not_eq_false, Int.not_lt, Int.not_le, gt_iff_lt, ge_iff_le, beq_eq_false_iff_ne, bne_eq_false_iff_eq] at c9
      show Value.int .i64 (-1 : Int) = Value.int .i64 (szR (szRow [.int s.low.1, .int s.low.2, .int s.high.1, .int s.high.2, .sl (vecsD s.robot), .sl (areasD s.obst), .sl (vecsD s.tables)]) n)
      first | rfl | (refine vint ?_; try simp only [szRow, Dat.sz, Nat.add_zero, Nat.zero_add] at *; all_goals grind [szR])
    · skip
      replace c9 : (decide ((szR ((areasD s.obst).length + szRows (areasD s.obst)) (szR ((vecsD s.robot).length + szRows (vecsD s.robot)) n)) < (0 : Int))) = false := c9
      try simp only [Bool.and_eq_true, Bool.or_eq_true, Bool.and_eq_false_iff, Bool.or_eq_false_iff, decide_eq_true_eq, decide_eq_false_iff_not, Bool.not_eq_true', Bool.not_eq_false', bne_iff_ne, ne_eq, beq_iff_eq, Bool.not_eq_true, Bool.not_eq_false, Int.not_lt, Int.not_le, gt_iff_lt, ge_iff_le, beq_eq_false_iff_ne, bne_eq_false_iff_eq] at c9
      refine ⟨((vecsD s.tables), (szR ((areasD s.obst).length + szRows (areasD s.obst)) (szR ((vecsD s.robot).length + szRows (vecsD s.robot)) n))), by
        rfl, by
        show Dat.has (.sl 31 [.int, .int]) (.sl (vecsD s.tables)) ∧ 0 ≤ (szR ((areasD s.obst).length + szRows (areasD s.obst)) (szR ((vecsD s.robot).length + szRows (vecsD s.robot)) n)) ∧ (szR ((areasD s.obst).length + szRows (areasD s.obst)) (szR ((vecsD s.robot).length + szRows (vecsD s.robot)) n)) ≤ 1048576
        refine ⟨?_, ?_, ?_⟩ <;> first | (simp only [hasRow]; simp only [hh, and_self]; done) | exact hh.1 | exact hh.2.1 | exact hh.2.2.1 | exact hh.2.2.2.1 | exact hh.2.2.2.2.1 | exact hh.2.2.2.2.2.1 | exact hh.2.2.2.2.2.2.1 | omega | (unfold szR; grind) | (simp [hh]; done), ?_⟩
      refine ⟨fun c14 => ?_, fun c14 => ?_⟩
      · skip
        replace c14 : (decide ((szR ((vecsD s.tables).length + szRows (vecsD s.tables)) (szR ((areasD s.obst).length + szRows (areasD s.obst)) (szR ((vecsD s.robot).length + szRows (vecsD s.robot)) n))) < (0 : Int))) = true := c14
        try simp only [Bool.and_eq_true, Bool.or_eq_true, Bool.and_eq_false_iff, Bool.or_eq_false_iff, decide_eq_true_eq, decide_eq_false_iff_not, Bool.not_eq_true', Bool.not_eq_false', bne_iff_ne, ne_eq, beq_iff_eq, Bool.not_eq_true, Bool.not_eq_false, Int.not_lt, Int.not_le, gt_iff_lt, ge_iff_le, beq_eq_false_iff_ne, bne_eq_false_iff_eq] at c14
        show Value.int .i64 (-1 : Int) = Value.int .i64 (szR (szRow [.int s.low.1, .int s.low.2, .int s.high.1, .int s.high.2, .sl (vecsD s.robot), .sl (areasD s.obst), .sl (vecsD s.tables)]) n)
        first | rfl | (refine vint ?_; try simp only [szRow, Dat.sz, Nat.add_zero, Nat.zero_add] at *; all_goals grind [szR])
      · skip
        replace c14 : (decide ((szR ((vecsD s.tables).length + szRows (vecsD s.tables)) (szR ((areasD s.obst).length + szRows (areasD s.obst)) (szR ((vecsD s.robot).length + szRows (vecsD s.robot)) n))) < (0 : Int))) = false := c14
        try simp only [Bool.and_eq_true, Bool.or_eq_true, Bool.and_eq_false_iff, Bool.or_eq_false_iff, decide_eq_true_eq, decide_eq_false_iff_not, Bool.not_eq_true', Bool.not_eq_false', bne_iff_ne, ne_eq, beq_iff_eq, Bool.not_eq_true, Bool.not_eq_false, Int.not_lt, Int.not_le, gt_iff_lt, ge_iff_le, beq_eq_false_iff_ne, bne_eq_false_iff_eq] at c14
        show Value.int .i64 (szR ((vecsD s.tables).length + szRows (vecsD s.tables)) (szR ((areasD s.obst).length + szRows (areasD s.obst)) (szR ((vecsD s.robot).length + szRows (vecsD s.robot)) n))) = Value.int .i64 (szR (szRow [.int s.low.1, .int s.low.2, .int s.high.1, .int s.high.2, .sl (vecsD s.robot), .sl (areasD s.obst), .sl (vecsD s.tables)]) n)
        first | rfl | (refine vint ?_; try simp only [szRow, Dat.sz, Nat.add_zero, Nat.zero_add] at *; all_goals grind [szR])
def eqScene_con : Con := { ι := Scn, pre := fun i => True, args := fun i => [.agg [.im (.int .i64 i.low.1), .im (.int .i64 i.low.2), .im (.int .i64 i.high.1), .im (.int .i64 i.high.2), .sl 31 [.int, .int] (vecsD i.robot), .sl 36 [.sl 31 [.int, .int]] (areasD i.obst), .sl 31 [.int, .int] (vecsD i.tables)], .agg [.im (.int .i64 i.low.1), .im (.int .i64 i.low.2), .im (.int .i64 i.high.1), .im (.int .i64 i.high.2), .sl 31 [.int, .int] (vecsD i.robot), .sl 36 [.sl 31 [.int, .int]] (areasD i.obst), .sl 31 [.int, .int] (vecsD i.tables)]], res := fun i => ⟨false, [none], [.im (Value.bool true)]⟩ }
theorem eqScene_ok : eqScene_con.Ok Try.prog 19 := eqA_ok [.int, .int, .int, .int, .sl 31 [.int, .int], .sl 36 [.sl 31 [.int, .int]], .sl 31 [.int, .int]] ⟨_, Try.func19, by decide, rfl⟩ (fun _ => rfl) (fun _ => rfl) (fun ds vs us w => eqScene_c ds vs us w)
def toScene_con : Con := { ι := Scn, pre := fun i => szRow [.int i.low.1, .int i.low.2, .int i.high.1, .int i.high.2, .sl (vecsD i.robot), .sl (areasD i.obst), .sl (vecsD i.tables)] ≤ 1048576, args := fun i => [.agg [.im (.int .i64 i.low.1), .im (.int .i64 i.low.2), .im (.int .i64 i.high.1), .im (.int .i64 i.high.2), .sl 25 [.int, .int] (vecsD i.robot), .sl 26 [.sl 25 [.int, .int]] (areasD i.obst), .sl 25 [.int, .int] (vecsD i.tables)]], res := fun i => ⟨false, [some 7], [.im (Value.int .i64 i.low.1), .im (Value.int .i64 i.low.2), .im (Value.int .i64 i.high.1), .im (Value.int .i64 i.high.2), .own 31 [.int, .int] (vecsD i.robot), .own 36 [.sl 31 [.int, .int]] (areasD i.obst), .own 31 [.int, .int] (vecsD i.tables)]⟩ }
theorem toScene_ok : toScene_con.Ok Try.prog 16 := toA_ok (out := fun s => [.im (.int .i64 s.low.1), .im (.int .i64 s.low.2), .im (.int .i64 s.high.1), .im (.int .i64 s.high.2), .sl 31 [.int, .int] (vecsD s.robot), .sl 36 [.sl 31 [.int, .int]] (areasD s.obst), .sl 31 [.int, .int] (vecsD s.tables)]) [.int, .int, .int, .int, .sl 31 [.int, .int], .sl 36 [.sl 31 [.int, .int]], .sl 31 [.int, .int]] ⟨_, Try.func16, by decide, rfl⟩ (fun _ => rfl) (fun _ => rfl) (fun _ => rfl) (fun _ => rfl) (fun _ => rfl) (fun _ => rfl) (fun _ => rfl) (fun _ => Nat.le_of_ble_eq_true rfl) (fun _ h => h) (fun ds h vs w => toScene_c ds h vs w)
def markScene_con : Con := { ι := Scn × Int, pre := fun i => 0 ≤ i.2 ∧ i.2 + (cntV [.int i.1.low.1, .int i.1.low.2, .int i.1.high.1, .int i.1.high.2, .sl (vecsD i.1.robot), .sl (areasD i.1.obst), .sl (vecsD i.1.tables)] : Int) ≤ 4611686018427387904, args := fun i => [.agg [.im (.int .i64 i.1.low.1), .im (.int .i64 i.1.low.2), .im (.int .i64 i.1.high.1), .im (.int .i64 i.1.high.2), .sl 31 [.int, .int] (vecsD i.1.robot), .sl 36 [.sl 31 [.int, .int]] (areasD i.1.obst), .sl 31 [.int, .int] (vecsD i.1.tables)], .one (.im (.int .i64 i.2))], mu := [4, 5, 6], new := fun i => [mkRows (i.2 + ((0 : Nat) : Int) + ((0 : Nat) : Int) + ((0 : Nat) : Int) + ((0 : Nat) : Int)) (vecsD i.1.robot), mkRows (i.2 + ((0 : Nat) : Int) + ((0 : Nat) : Int) + ((0 : Nat) : Int) + ((0 : Nat) : Int) + (cntRows (vecsD i.1.robot) : Int)) (areasD i.1.obst), mkRows (i.2 + ((0 : Nat) : Int) + ((0 : Nat) : Int) + ((0 : Nat) : Int) + ((0 : Nat) : Int) + (cntRows (vecsD i.1.robot) : Int) + (cntRows (areasD i.1.obst) : Int)) (vecsD i.1.tables)], res := fun i => ⟨false, [none], [.im (Value.int .i64 (i.2 + (cntV [.int i.1.low.1, .int i.1.low.2, .int i.1.high.1, .int i.1.high.2, .sl (vecsD i.1.robot), .sl (areasD i.1.obst), .sl (vecsD i.1.tables)] : Int)))]⟩ }
theorem markScene_ok : markScene_con.Ok Try.prog 33 := markA_ok [.int, .int, .int, .int, .sl 31 [.int, .int], .sl 36 [.sl 31 [.int, .int]], .sl 31 [.int, .int]] ⟨_, Try.func33, by decide, rfl⟩ (fun _ => rfl) (fun _ => rfl) rfl (fun _ => rfl) (fun _ => rfl) (fun _ => rfl) (fun _ h => h) (fun ds k h0 h1 bs hn vs w => markScene_c ds k h0 h1 bs hn vs w)
def heldScene_con : Con := { ι := Scn × Int, pre := fun i => 0 ≤ i.2 ∧ i.2 + (cntV [.int i.1.low.1, .int i.1.low.2, .int i.1.high.1, .int i.1.high.2, .sl (vecsD i.1.robot), .sl (areasD i.1.obst), .sl (vecsD i.1.tables)] : Int) ≤ 4611686018427387904 ∧ hasRow [.int, .int, .int, .int, .sl 31 [.int, .int], .sl 36 [.sl 31 [.int, .int]], .sl 31 [.int, .int]] [.int i.1.low.1, .int i.1.low.2, .int i.1.high.1, .int i.1.high.2, .sl (vecsD i.1.robot), .sl (areasD i.1.obst), .sl (vecsD i.1.tables)], args := fun i => [.agg [.im (.int .i64 i.1.low.1), .im (.int .i64 i.1.low.2), .im (.int .i64 i.1.high.1), .im (.int .i64 i.1.high.2), .sl 31 [.int, .int] (mkRows (i.2 + ((0 : Nat) : Int) + ((0 : Nat) : Int) + ((0 : Nat) : Int) + ((0 : Nat) : Int)) (vecsD i.1.robot)), .sl 36 [.sl 31 [.int, .int]] (mkRows (i.2 + ((0 : Nat) : Int) + ((0 : Nat) : Int) + ((0 : Nat) : Int) + ((0 : Nat) : Int) + (cntRows (vecsD i.1.robot) : Int)) (areasD i.1.obst)), .sl 31 [.int, .int] (mkRows (i.2 + ((0 : Nat) : Int) + ((0 : Nat) : Int) + ((0 : Nat) : Int) + ((0 : Nat) : Int) + (cntRows (vecsD i.1.robot) : Int) + (cntRows (areasD i.1.obst) : Int)) (vecsD i.1.tables))], .one (.im (.int .i64 i.2))], res := fun i => ⟨false, [none], [.im (Value.int .i64 (i.2 + (cntV [.int i.1.low.1, .int i.1.low.2, .int i.1.high.1, .int i.1.high.2, .sl (vecsD i.1.robot), .sl (areasD i.1.obst), .sl (vecsD i.1.tables)] : Int)))]⟩ }
theorem heldScene_ok : heldScene_con.Ok Try.prog 34 := heldA_ok [.int, .int, .int, .int, .sl 31 [.int, .int], .sl 36 [.sl 31 [.int, .int]], .sl 31 [.int, .int]] ⟨_, Try.func34, by decide, rfl⟩ (fun _ => rfl) (fun _ => rfl) (fun i => [.int i.1.low.1, .int i.1.low.2, .int i.1.high.1, .int i.1.high.2, .sl (vecsD i.1.robot), .sl (areasD i.1.obst), .sl (vecsD i.1.tables)]) (fun _ => rfl) (fun _ => rfl) (fun _ h => h) (fun ds k h0 h1 w0 vs0 hr vs w h => heldScene_c ds k h0 h1 w0 vs0 hr vs w h)
def sValid_con : Con := { ι := Scn, pre := fun i => True, args := fun i => [.agg [.im (.int .i64 i.low.1), .im (.int .i64 i.low.2), .im (.int .i64 i.high.1), .im (.int .i64 i.high.2), .sl 31 [.int, .int] (vecsD i.robot), .sl 36 [.sl 31 [.int, .int]] (areasD i.obst), .sl 31 [.int, .int] (vecsD i.tables)]], res := fun i => ⟨false, [none], [.im (Value.bool (validScn i))]⟩ }
theorem sValid_ok : sValid_con.Ok Try.prog 76 := genOwn_ok rfl ⟨_, Try.func76, by decide, rfl⟩ (fun _ => Nat.le_of_ble_eq_true rfl) (fun _ => rfl) (fun s => [.im (.bool (validScn s))]) (fun _ => rfl) (fun _ => rfl) (fun i hp w us h => by
  have h : RdRow w [.int, .int, .int, .int, .sl 31 [.int, .int], .sl 36 [.sl 31 [.int, .int]], .sl 31 [.int, .int]] (scnD i) us := h
  have hl := (RdRow.lens _ _ _ h).2
  rw [show valD (sValid_con.args i) us = [.agg us.toArray] from valD_one_agg hl]
  refine (sIsValidScene_c i _ w (RdRow.scene h)).mono ?_
  rintro e w' ⟨rfl, hb⟩
  exact ⟨[.bool (validScn i)], rfl, Own.leaf (Fp.mk_bool _), hb⟩)
def l10Lists_con : Con := { ι := (List (List V2)), pre := fun i => i.length ≤ 1048576 ∧ ∀ x ∈ i, x.length ≤ 1048576, args := fun i => [.one (.sl 36 [.sl 31 [.int, .int]] (areasD i))], res := fun i => ⟨false, [none], [.own 36 [.sl 31 [.int, .int]] (areasD i)]⟩ }
theorem l10Lists_ok : l10Lists_con.Ok Try.prog 77 := genOwn_ok rfl ⟨_, Try.func77, by decide, rfl⟩ (fun _ => Nat.le_of_ble_eq_true rfl) (fun _ => rfl) (fun l => [.sl 36 [.sl 31 [.int, .int]] (areasD l)]) (fun _ => rfl) (fun _ => rfl) (fun i hp w us h => by
  have h : RdRow w [.sl 36 [.sl 31 [.int, .int]]] [.sl (areasD i)] us := h
  obtain ⟨v, vs, rfl, h1, h2⟩ := RdRow.cons2 h
  obtain ⟨-, rfl⟩ := RdRow.nil_inv h2
  refine (l10Lists_c i hp.1 hp.2 v w (Rd.vecss h1)).mono ?_
  rintro e w' ⟨u, rfl, ho, hb⟩
  exact ⟨[u], rfl, ho, hb⟩)
def iRemoveObstacle_con : Con := { ι := Scn × Int, pre := fun i => scnSz i.1, args := fun i => [.agg [.im (.int .i64 i.1.low.1), .im (.int .i64 i.1.low.2), .im (.int .i64 i.1.high.1), .im (.int .i64 i.1.high.2), .sl 31 [.int, .int] (vecsD i.1.robot), .sl 36 [.sl 31 [.int, .int]] (areasD i.1.obst), .sl 31 [.int, .int] (vecsD i.1.tables)], .one (.im (.int .i64 i.2))], res := fun i => ⟨true, [some 7, none], [.im (Value.int .i64 ((remOb i.1 i.2).low.1)), .im (Value.int .i64 ((remOb i.1 i.2).low.2)), .im (Value.int .i64 ((remOb i.1 i.2).high.1)), .im (Value.int .i64 ((remOb i.1 i.2).high.2)), .own 31 [.int, .int] (vecsD (remOb i.1 i.2).robot), .own 36 [.sl 31 [.int, .int]] (areasD (remOb i.1 i.2).obst), .own 31 [.int, .int] (vecsD (remOb i.1 i.2).tables), .im (Value.bool (hasOb i.1 i.2))]⟩ }
theorem iRemoveObstacle_ok : iRemoveObstacle_con.Ok Try.prog 32 := genOwn_ok rfl ⟨_, Try.func32, by decide, rfl⟩ (fun _ => Nat.le_of_ble_eq_true rfl) (fun _ => rfl) (fun i => [.im (.int .i64 (remOb i.1 i.2).low.1), .im (.int .i64 (remOb i.1 i.2).low.2), .im (.int .i64 (remOb i.1 i.2).high.1), .im (.int .i64 (remOb i.1 i.2).high.2), .sl 31 [.int, .int] (vecsD (remOb i.1 i.2).robot), .sl 36 [.sl 31 [.int, .int]] (areasD (remOb i.1 i.2).obst), .sl 31 [.int, .int] (vecsD (remOb i.1 i.2).tables), .im (.bool (hasOb i.1 i.2))]) (fun _ => rfl) (fun _ => rfl) (fun i hp w us h => by
  obtain ⟨s, k⟩ := i
  obtain ⟨cs, v, rfl, h1, h2, h3⟩ := vals_agg_one (t := [.int, .int, .int, .int, .sl 31 [.int, .int], .sl 36 [.sl 31 [.int, .int]], .sl 31 [.int, .int]]) (x := .int) (ds := scnD s) (dx := .int k) h rfl
  have h2 : v = .int .i64 k := by simpa [Rd] using h2
  subst h2
  rw [show valD (iRemoveObstacle_con.args (s, k)) (cs ++ [.int .i64 k]) = [.agg cs.toArray, .int .i64 k] from h3 _ _ rfl]
  refine (RemoveObstacle_c s hp.1 hp.2.1 hp.2.2.1 hp.2.2.2 k _ w (RdRow.scene h1)).mono ?_
  rintro e w' ⟨rs, rfl, ho, hb⟩
  have hq := own_agg_bool (hasOb s k) ho hb.size
  refine ⟨rs ++ [Value.bool (hasOb s k)], ?_, hq, hb⟩
  exact congrArg Ending.returned (val_agg_bool (n := 7) (by have := (RdRow.lens _ _ _ ho.rd).2; exact this)).symm)
def l10Copy_con : Con := { ι := Scn, pre := fun i => scnSz i, args := fun i => [.agg [.im (.int .i64 i.low.1), .im (.int .i64 i.low.2), .im (.int .i64 i.high.1), .im (.int .i64 i.high.2), .sl 31 [.int, .int] (vecsD i.robot), .sl 36 [.sl 31 [.int, .int]] (areasD i.obst), .sl 31 [.int, .int] (vecsD i.tables)]], res := fun i => ⟨false, [some 7], [.im (Value.int .i64 i.low.1), .im (Value.int .i64 i.low.2), .im (Value.int .i64 i.high.1), .im (Value.int .i64 i.high.2), .own 31 [.int, .int] (vecsD i.robot), .own 36 [.sl 31 [.int, .int]] (areasD i.obst), .own 31 [.int, .int] (vecsD i.tables)]⟩ }
set_option maxRecDepth 100000 in
theorem l10Copy_ok : l10Copy_con.Ok Try.prog 75 := by
  refine fn_ok (X := ⟨tt, [(77, l10Lists_con)], [], 19⟩) mixed tt_ok (CTok.cons l10Lists_ok (CTok.nil _)) Try.func75 (by decide) rfl rfl rfl (fun _ => Nat.le_of_ble_eq_true rfl) (fun _ => Nat.le_of_ble_eq_true rfl) (fun _ => []) ?_
  intro (s : Scn) hpre
  have hpre : scnSz s := hpre
  refine by_nf (q := (([] : List (List Dat)).length + (vecsD s.robot).length ≤ 1073741824) ∧ (∃ i1 : (List (List V2)), [DA.one (DC.sl 36 [.sl 31 [.int, .int]] (areasD s.obst))] = l10Lists_con.args i1 ∧ l10Lists_con.pre i1 ∧ ((([] : List (List Dat)).length + (vecsD s.tables).length ≤ 1073741824) ∧ ((Value.int .i64 s.low.1 = Value.int .i64 s.low.1) ∧ (Value.int .i64 s.low.2 = Value.int .i64 s.low.2) ∧ (Value.int .i64 s.high.1 = Value.int .i64 s.high.1) ∧ (Value.int .i64 s.high.2 = Value.int .i64 s.high.2) ∧ ((([] : List (List Dat)) ++ (vecsD s.robot)) = vecsD s.robot) ∧ (areasD i1 = areasD s.obst) ∧ ((([] : List (List Dat)) ++ (vecsD s.tables)) = vecsD s.tables))))) (by kernel_rfl) ?_
  obtain ⟨h1, h2, h3, h4⟩ := hpre
  have o1 : ([] : List (List Dat)).length + (vecsD s.robot).length ≤ 1073741824 := by
    first | rfl | omega | (simp only [vecsD_length, areasD_length, List.length_nil, List.nil_append]; omega) | (simp [vecsD_length, areasD_length]; omega)
  refine ⟨o1, ?_⟩
  refine ⟨s.obst, by
    rfl, by
    show s.obst.length ≤ 1048576 ∧ ∀ x ∈ s.obst, x.length ≤ 1048576
    exact ⟨h2, h3⟩, ?_⟩
  have o5 : ([] : List (List Dat)).length + (vecsD s.tables).length ≤ 1073741824 := by
    first | rfl | omega | (simp only [vecsD_length, areasD_length, List.length_nil, List.nil_append]; omega) | (simp [vecsD_length, areasD_length]; omega)
  refine ⟨o5, ?_⟩
  refine ⟨?_, ?_⟩
  · skip
    show Value.int .i64 s.low.1 = Value.int .i64 s.low.1
    first | rfl | simp
  refine ⟨?_, ?_⟩
  · skip
    show Value.int .i64 s.low.2 = Value.int .i64 s.low.2
    first | rfl | simp
  refine ⟨?_, ?_⟩
  · skip
    show Value.int .i64 s.high.1 = Value.int .i64 s.high.1
    first | rfl | simp
  refine ⟨?_, ?_⟩
  · skip
    show Value.int .i64 s.high.2 = Value.int .i64 s.high.2
    first | rfl | simp
  refine ⟨?_, ?_⟩
  · skip
    show (([] : List (List Dat)) ++ (vecsD s.robot)) = vecsD s.robot
    first | rfl | simp
  refine ⟨?_, ?_⟩
  · skip
    show areasD s.obst = areasD s.obst
    first | rfl | simp
  show (([] : List (List Dat)) ++ (vecsD s.tables)) = vecsD s.tables
  first | rfl | simp
def sRemoveObstacle_con : Con := { ι := Scn × Int, pre := fun i => scnSz i.1, args := fun i => [.agg [.im (.int .i64 i.1.low.1), .im (.int .i64 i.1.low.2), .im (.int .i64 i.1.high.1), .im (.int .i64 i.1.high.2), .sl 31 [.int, .int] (vecsD i.1.robot), .sl 36 [.sl 31 [.int, .int]] (areasD i.1.obst), .sl 31 [.int, .int] (vecsD i.1.tables)], .one (.im (.int .i64 i.2))], res := fun i => ⟨true, [some 7, none], [.im (Value.int .i64 ((remOb i.1 i.2).low.1)), .im (Value.int .i64 ((remOb i.1 i.2).low.2)), .im (Value.int .i64 ((remOb i.1 i.2).high.1)), .im (Value.int .i64 ((remOb i.1 i.2).high.2)), .own 31 [.int, .int] (vecsD (remOb i.1 i.2).robot), .own 36 [.sl 31 [.int, .int]] (areasD (remOb i.1 i.2).obst), .own 31 [.int, .int] (vecsD (remOb i.1 i.2).tables), .im (Value.bool (hasOb i.1 i.2))]⟩ }
set_option maxRecDepth 100000 in
theorem sRemoveObstacle_ok : sRemoveObstacle_con.Ok Try.prog 31 := by
  refine fn_ok (X := ⟨tt, [(75, l10Copy_con), (76, sValid_con), (52, l01In_con), (77, l10Lists_con)], [], 36⟩) mixed tt_ok (CTok.cons l10Copy_ok (CTok.cons sValid_ok (CTok.cons l01In_ok (CTok.cons l10Lists_ok (CTok.nil _))))) Try.func31 (by decide) rfl rfl rfl (fun _ => Nat.le_of_ble_eq_true rfl) (fun _ => Nat.le_of_ble_eq_true rfl) (fun _ => []) ?_
  rintro ⟨s, k⟩ hpre
  have hpre : scnSz s := hpre
  refine by_nf (q := ∃ i1 : Scn, [DA.agg [DC.im (Value.int .i64 s.low.1), DC.im (Value.int .i64 s.low.2), DC.im (Value.int .i64 s.high.1), DC.im (Value.int .i64 s.high.2), DC.sl 31 [.int, .int] (vecsD s.robot), DC.sl 36 [.sl 31 [.int, .int]] (areasD s.obst), DC.sl 31 [.int, .int] (vecsD s.tables)]] = l10Copy_con.args i1 ∧ l10Copy_con.pre i1 ∧ (∃ i2 : Scn, [DA.agg [DC.im (Value.int .i64 s.low.1), DC.im (Value.int .i64 s.low.2), DC.im (Value.int .i64 s.high.1), DC.im (Value.int .i64 s.high.2), DC.sl 31 [.int, .int] (vecsD s.robot), DC.sl 36 [.sl 31 [.int, .int]] (areasD s.obst), DC.sl 31 [.int, .int] (vecsD s.tables)]] = sValid_con.args i2 ∧ sValid_con.pre i2 ∧ (((!(!(validScn i2))) = true → (∃ i3 : Int × Int × Int, [DA.one (DC.im (Value.int .i64 k)), DA.one (DC.im (Value.int .i64 (0 : Int))), DA.one (DC.im (Value.int .i64 (IntKind.i64.wrap ((((areasD s.obst).length : Nat) : Int) - (1 : Int)))))] = l01In_con.args i3 ∧ l01In_con.pre i3 ∧ (((!(decide (i3.1 ≥ i3.2.1) && decide (i3.1 ≤ i3.2.2))) = true → ((Value.int .i64 i1.low.1 = Value.int .i64 ((remOb s k).low.1)) ∧ (Value.int .i64 i1.low.2 = Value.int .i64 ((remOb s k).low.2)) ∧ (Value.int .i64 i1.high.1 = Value.int .i64 ((remOb s k).high.1)) ∧ (Value.int .i64 i1.high.2 = Value.int .i64 ((remOb s k).high.2)) ∧ (vecsD i1.robot = vecsD (remOb s k).robot) ∧ (areasD i1.obst = areasD (remOb s k).obst) ∧ (vecsD i1.tables = vecsD (remOb s k).tables) ∧ (Value.bool false = Value.bool (hasOb s k)))) ∧ ((!(decide (i3.1 ≥ i3.2.1) && decide (i3.1 ≤ i3.2.2))) = false → ((Nat.beq 1 1 = true) ∧ ((0 ≤ (0 : Int)) ∧ (((0 : Int) ≤ k) ∧ ((k ≤ ((areasD s.obst).length : Int)) ∧ (∃ i4 : (List (List V2)), [DA.one (DC.sl 36 [.sl 31 [.int, .int]] ((areasD s.obst).take ((k).toNat)))] = l10Lists_con.args i4 ∧ l10Lists_con.pre i4 ∧ ((Nat.beq 1 1 = true) ∧ ((0 ≤ (IntKind.i64.wrap (k + (1 : Int)))) ∧ (((IntKind.i64.wrap (k + (1 : Int))) ≤ ((areasD s.obst).length : Int)) ∧ ((((areasD s.obst).length : Int) ≤ ((areasD s.obst).length : Int)) ∧ (∃ i5 : (List (List V2)), [DA.one (DC.sl 36 [.sl 31 [.int, .int]] (((areasD s.obst).take (((areasD s.obst).length : Int).toNat)).drop ((IntKind.i64.wrap (k + (1 : Int))).toNat)))] = l10Lists_con.args i5 ∧ l10Lists_con.pre i5 ∧ (((areasD i4).length + (areasD i5).length ≤ 1073741824) ∧ ((Value.int .i64 i1.low.1 = Value.int .i64 ((remOb s k).low.1)) ∧ (Value.int .i64 i1.low.2 = Value.int .i64 ((remOb s k).low.2)) ∧ (Value.int .i64 i1.high.1 = Value.int .i64 ((remOb s k).high.1)) ∧ (Value.int .i64 i1.high.2 = Value.int .i64 ((remOb s k).high.2)) ∧ (vecsD i1.robot = vecsD (remOb s k).robot) ∧ ((areasD i4 ++ areasD i5) = areasD (remOb s k).obst) ∧ (vecsD i1.tables = vecsD (remOb s k).tables) ∧ (Value.bool true = Value.bool (hasOb s k)))))))))))))))))) ∧ ((!(!(validScn i2))) = false → ((Value.int .i64 i1.low.1 = Value.int .i64 ((remOb s k).low.1)) ∧ (Value.int .i64 i1.low.2 = Value.int .i64 ((remOb s k).low.2)) ∧ (Value.int .i64 i1.high.1 = Value.int .i64 ((remOb s k).high.1)) ∧ (Value.int .i64 i1.high.2 = Value.int .i64 ((remOb s k).high.2)) ∧ (vecsD i1.robot = vecsD (remOb s k).robot) ∧ (areasD i1.obst = areasD (remOb s k).obst) ∧ (vecsD i1.tables = vecsD (remOb s k).tables) ∧ (Value.bool false = Value.bool (hasOb s k))))))) (by kernel_rfl) ?_
  have hz := hpre
  obtain ⟨h1, h2, h3, h4⟩ := hpre
  refine ⟨s, by
    rfl, by
    show scnSz s
    first | exact hz | trivial | exact ⟨by simp only [List.length_take]; omega, fun x hx => h3 x (List.mem_of_mem_take hx)⟩ | exact ⟨by simp only [List.length_drop]; omega, fun x hx => h3 x (List.mem_of_mem_drop hx)⟩, ?_⟩
  refine ⟨s, by
    rfl, by
    first | exact hz | trivial | exact ⟨by simp only [List.length_take]; omega, fun x hx => h3 x (List.mem_of_mem_take hx)⟩ | exact ⟨by simp only [List.length_drop]; omega, fun x hx => h3 x (List.mem_of_mem_drop hx)⟩, ?_⟩
  refine ⟨fun c7 => ?_, fun c7 => ?_⟩
  · skip
    replace c7 : (!(!(validScn s))) = true := c7
    try simp only [Bool.and_eq_true, Bool.or_eq_true, Bool.and_eq_false_iff, Bool.or_eq_false_iff, decide_eq_true_eq, decide_eq_false_iff_not, Bool.not_eq_true', Bool.not_eq_false', bne_iff_ne, ne_eq, beq_iff_eq, Bool.not_eq_true, Bool.not_eq_false, Int.not_lt, Int.not_le, gt_iff_lt, ge_iff_le, beq_eq_false_iff_ne, bne_eq_false_iff_eq] at c7
    have hw : IntKind.i64.wrap ((((areasD s.obst).length : Nat) : Int) - (1 : Int)) = (s.obst.length : Int) - 1 := by rw [areasD_length, wrap64 (by omega) (by omega)]
    refine ⟨(k, (0 : Int), (IntKind.i64.wrap ((((areasD s.obst).length : Nat) : Int) - (1 : Int)))), by
      rfl, by
      first | exact hz | trivial | exact ⟨by simp only [List.length_take]; omega, fun x hx => h3 x (List.mem_of_mem_take hx)⟩ | exact ⟨by simp only [List.length_drop]; omega, fun x hx => h3 x (List.mem_of_mem_drop hx)⟩, ?_⟩
    refine ⟨fun c11 => ?_, fun c11 => ?_⟩
    · skip
      replace c11 : (!(decide (k ≥ (0 : Int)) && decide (k ≤ (IntKind.i64.wrap ((((areasD s.obst).length : Nat) : Int) - (1 : Int)))))) = true := c11
      try simp only [Bool.and_eq_true, Bool.or_eq_true, Bool.and_eq_false_iff, Bool.or_eq_false_iff, decide_eq_true_eq, decide_eq_false_iff_not, Bool.not_eq_true', Bool.not_eq_false', bne_iff_ne, ne_eq, beq_iff_eq, Bool.not_eq_true, Bool.not_eq_false, Int.not_lt, Int.not_le, gt_iff_lt, ge_iff_le, beq_eq_false_iff_ne, bne_eq_false_iff_eq] at c11
      rw [hw] at c11
      have hb : hasOb s k = false := hasOb_no (by omega)
      refine ⟨?_, ?_⟩
      · skip
        show Value.int .i64 s.low.1 = Value.int .i64 ((remOb s k).low.1)
        first | rfl | (rw [remOb_false hb]) | (rw [remOb_true hb]; first | rfl | (rw [areasD_erase]; rfl)) | (rw [hb])
      refine ⟨?_, ?_⟩
      · skip
        show Value.int .i64 s.low.2 = Value.int .i64 ((remOb s k).low.2)
        first | rfl | (rw [remOb_false hb]) | (rw [remOb_true hb]; first | rfl | (rw [areasD_erase]; rfl)) | (rw [hb])
      refine ⟨?_, ?_⟩
      · skip
        show Value.int .i64 s.high.1 = Value.int .i64 ((remOb s k).high.1)
        first | rfl | (rw [remOb_false hb]) | (rw [remOb_true hb]; first | rfl | (rw [areasD_erase]; rfl)) | (rw [hb])
      refine ⟨?_, ?_⟩
      · skip
        show Value.int .i64 s.high.2 = Value.int .i64 ((remOb s k).high.2)
        first | rfl | (rw [remOb_false hb]) | (rw [remOb_true hb]; first | rfl | (rw [areasD_erase]; rfl)) | (rw [hb])
      refine ⟨?_, ?_⟩
      · skip
        show vecsD s.robot = vecsD (remOb s k).robot
        first | rfl | (rw [remOb_false hb]) | (rw [remOb_true hb]; first | rfl | (rw [areasD_erase]; rfl)) | (rw [hb])
      refine ⟨?_, ?_⟩
      · skip
        show areasD s.obst = areasD (remOb s k).obst
        first | rfl | (rw [remOb_false hb]) | (rw [remOb_true hb]; first | rfl | (rw [areasD_erase]; rfl)) | (rw [hb])
      refine ⟨?_, ?_⟩
      · skip
        show vecsD s.tables = vecsD (remOb s k).tables
        first | rfl | (rw [remOb_false hb]) | (rw [remOb_true hb]; first | rfl | (rw [areasD_erase]; rfl)) | (rw [hb])
      show Value.bool false = Value.bool (hasOb s k)
      first | rfl | (rw [remOb_false hb]) | (rw [remOb_true hb]; first | rfl | (rw [areasD_erase]; rfl)) | (rw [hb])
    · skip
      replace c11 : (!(decide (k ≥ (0 : Int)) && decide (k ≤ (IntKind.i64.wrap ((((areasD s.obst).length : Nat) : Int) - (1 : Int)))))) = false := c11
      try simp only [Bool.and_eq_true, Bool.or_eq_true, Bool.and_eq_false_iff, Bool.or_eq_false_iff, decide_eq_true_eq, decide_eq_false_iff_not, Bool.not_eq_true', Bool.not_eq_false', bne_iff_ne, ne_eq, beq_iff_eq, Bool.not_eq_true, Bool.not_eq_false, Int.not_lt, Int.not_le, gt_iff_lt, ge_iff_le, beq_eq_false_iff_ne, bne_eq_false_iff_eq] at c11
      rw [hw] at c11
      have hb : hasOb s k = true := hasOb_yes c7 (by omega) (by omega)
      have hla := areasD_length s.obst
      have hw2 : IntKind.i64.wrap (k + (1 : Int)) = k + 1 := wrap64 (by omega) (by omega)
      have o20 : Nat.beq 1 1 = true := by
        first | rfl | omega | (rw [hw2]; omega) | (simp only [vecsD_length, areasD_length, List.length_nil, List.nil_append]; omega) | (simp [vecsD_length, areasD_length]; omega)
      refine ⟨o20, ?_⟩
      have o21 : 0 ≤ (0 : Int) := by
        first | rfl | omega | (rw [hw2]; omega) | (simp only [vecsD_length, areasD_length, List.length_nil, List.nil_append]; omega) | (simp [vecsD_length, areasD_length]; omega)
      refine ⟨o21, ?_⟩
      have o22 : (0 : Int) ≤ k := by
        first | rfl | omega | (rw [hw2]; omega) | (simp only [vecsD_length, areasD_length, List.length_nil, List.nil_append]; omega) | (simp [vecsD_length, areasD_length]; omega)
      refine ⟨o22, ?_⟩
      have o23 : k ≤ ((areasD s.obst).length : Int) := by
        first | rfl | omega | (rw [hw2]; omega) | (simp only [vecsD_length, areasD_length, List.length_nil, List.nil_append]; omega) | (simp [vecsD_length, areasD_length]; omega)
      refine ⟨o23, ?_⟩
      refine ⟨(s.obst.take k.toNat), by
        exact congrArg (fun x => [DA.one (DC.sl 36 [.sl 31 [.int, .int]] x)]) (areasD_take _ _), by
        show (s.obst.take k.toNat).length ≤ 1048576 ∧ ∀ x ∈ (s.obst.take k.toNat), x.length ≤ 1048576
        first | exact hz | trivial | exact ⟨by simp only [List.length_take]; omega, fun x hx => h3 x (List.mem_of_mem_take hx)⟩ | exact ⟨by simp only [List.length_drop]; omega, fun x hx => h3 x (List.mem_of_mem_drop hx)⟩, ?_⟩
      have o27 : Nat.beq 1 1 = true := by
        first | rfl | omega | (rw [hw2]; omega) | (simp only [vecsD_length, areasD_length, List.length_nil, List.nil_append]; omega) | (simp [vecsD_length, areasD_length]; omega)
      refine ⟨o27, ?_⟩
      have o28 : 0 ≤ (IntKind.i64.wrap (k + (1 : Int))) := by
        first | rfl | omega | (rw [hw2]; omega) | (simp only [vecsD_length, areasD_length, List.length_nil, List.nil_append]; omega) | (simp [vecsD_length, areasD_length]; omega)
      refine ⟨o28, ?_⟩
      have o29 : (IntKind.i64.wrap (k + (1 : Int))) ≤ ((areasD s.obst).length : Int) := by
        first | rfl | omega | (rw [hw2]; omega) | (simp only [vecsD_length, areasD_length, List.length_nil, List.nil_append]; omega) | (simp [vecsD_length, areasD_length]; omega)
      refine ⟨o29, ?_⟩
      have o30 : ((areasD s.obst).length : Int) ≤ ((areasD s.obst).length : Int) := by
        first | rfl | omega | (rw [hw2]; omega) | (simp only [vecsD_length, areasD_length, List.length_nil, List.nil_append]; omega) | (simp [vecsD_length, areasD_length]; omega)
      refine ⟨o30, ?_⟩
      refine ⟨(s.obst.drop (k.toNat + 1)), by
        exact congrArg (fun x => [DA.one (DC.sl 36 [.sl 31 [.int, .int]] x)]) (areas_tail (by omega) (by omega) h2), by
        show (s.obst.drop (k.toNat + 1)).length ≤ 1048576 ∧ ∀ x ∈ (s.obst.drop (k.toNat + 1)), x.length ≤ 1048576
        first | exact hz | trivial | exact ⟨by simp only [List.length_take]; omega, fun x hx => h3 x (List.mem_of_mem_take hx)⟩ | exact ⟨by simp only [List.length_drop]; omega, fun x hx => h3 x (List.mem_of_mem_drop hx)⟩, ?_⟩
      have o34 : (areasD (s.obst.take k.toNat)).length + (areasD (s.obst.drop (k.toNat + 1))).length ≤ 1073741824 := by
        first | rfl | omega | (rw [hw2]; omega) | (simp only [vecsD_length, areasD_length, List.length_nil, List.nil_append]; omega) | (simp [vecsD_length, areasD_length]; omega)
      refine ⟨o34, ?_⟩
      refine ⟨?_, ?_⟩
      · skip
        show Value.int .i64 s.low.1 = Value.int .i64 ((remOb s k).low.1)
        first | rfl | (rw [remOb_false hb]) | (rw [remOb_true hb]; first | rfl | (rw [areasD_erase]; rfl)) | (rw [hb])
      refine ⟨?_, ?_⟩
      · skip
        show Value.int .i64 s.low.2 = Value.int .i64 ((remOb s k).low.2)
        first | rfl | (rw [remOb_false hb]) | (rw [remOb_true hb]; first | rfl | (rw [areasD_erase]; rfl)) | (rw [hb])
      refine ⟨?_, ?_⟩
      · skip
        show Value.int .i64 s.high.1 = Value.int .i64 ((remOb s k).high.1)
        first | rfl | (rw [remOb_false hb]) | (rw [remOb_true hb]; first | rfl | (rw [areasD_erase]; rfl)) | (rw [hb])
      refine ⟨?_, ?_⟩
      · skip
        show Value.int .i64 s.high.2 = Value.int .i64 ((remOb s k).high.2)
        first | rfl | (rw [remOb_false hb]) | (rw [remOb_true hb]; first | rfl | (rw [areasD_erase]; rfl)) | (rw [hb])
      refine ⟨?_, ?_⟩
      · skip
        show vecsD s.robot = vecsD (remOb s k).robot
        first | rfl | (rw [remOb_false hb]) | (rw [remOb_true hb]; first | rfl | (rw [areasD_erase]; rfl)) | (rw [hb])
      refine ⟨?_, ?_⟩
      · skip
        show (areasD (s.obst.take k.toNat) ++ areasD (s.obst.drop (k.toNat + 1))) = areasD (remOb s k).obst
        first | rfl | (rw [remOb_false hb]) | (rw [remOb_true hb]; first | rfl | (rw [areasD_erase]; rfl)) | (rw [hb])
      refine ⟨?_, ?_⟩
      · skip
        show vecsD s.tables = vecsD (remOb s k).tables
        first | rfl | (rw [remOb_false hb]) | (rw [remOb_true hb]; first | rfl | (rw [areasD_erase]; rfl)) | (rw [hb])
      show Value.bool true = Value.bool (hasOb s k)
      first | rfl | (rw [remOb_false hb]) | (rw [remOb_true hb]; first | rfl | (rw [areasD_erase]; rfl)) | (rw [hb])
  · skip
    replace c7 : (!(!(validScn s))) = false := c7
    try simp only [Bool.and_eq_true, Bool.or_eq_true, Bool.and_eq_false_iff, Bool.or_eq_false_iff, decide_eq_true_eq, decide_eq_false_iff_not, Bool.not_eq_true', Bool.not_eq_false', bne_iff_ne, ne_eq, beq_iff_eq, Bool.not_eq_true, Bool.not_eq_false, Int.not_lt, Int.not_le, gt_iff_lt, ge_iff_le, beq_eq_false_iff_ne, bne_eq_false_iff_eq] at c7
    have hb : hasOb s k = false := hasOb_bad (by simpa using c7)
    refine ⟨?_, ?_⟩
    · skip
      show Value.int .i64 s.low.1 = Value.int .i64 ((remOb s k).low.1)
      first | rfl | (rw [remOb_false hb]) | (rw [remOb_true hb]; first | rfl | (rw [areasD_erase]; rfl)) | (rw [hb])
    refine ⟨?_, ?_⟩
    · skip
      show Value.int .i64 s.low.2 = Value.int .i64 ((remOb s k).low.2)
      first | rfl | (rw [remOb_false hb]) | (rw [remOb_true hb]; first | rfl | (rw [areasD_erase]; rfl)) | (rw [hb])
    refine ⟨?_, ?_⟩
    · skip
      show Value.int .i64 s.high.1 = Value.int .i64 ((remOb s k).high.1)
      first | rfl | (rw [remOb_false hb]) | (rw [remOb_true hb]; first | rfl | (rw [areasD_erase]; rfl)) | (rw [hb])
    refine ⟨?_, ?_⟩
    · skip
      show Value.int .i64 s.high.2 = Value.int .i64 ((remOb s k).high.2)
      first | rfl | (rw [remOb_false hb]) | (rw [remOb_true hb]; first | rfl | (rw [areasD_erase]; rfl)) | (rw [hb])
    refine ⟨?_, ?_⟩
    · skip
      show vecsD s.robot = vecsD (remOb s k).robot
      first | rfl | (rw [remOb_false hb]) | (rw [remOb_true hb]; first | rfl | (rw [areasD_erase]; rfl)) | (rw [hb])
    refine ⟨?_, ?_⟩
    · skip
      show areasD s.obst = areasD (remOb s k).obst
      first | rfl | (rw [remOb_false hb]) | (rw [remOb_true hb]; first | rfl | (rw [areasD_erase]; rfl)) | (rw [hb])
    refine ⟨?_, ?_⟩
    · skip
      show vecsD s.tables = vecsD (remOb s k).tables
      first | rfl | (rw [remOb_false hb]) | (rw [remOb_true hb]; first | rfl | (rw [areasD_erase]; rfl)) | (rw [hb])
    show Value.bool false = Value.bool (hasOb s k)
    first | rfl | (rw [remOb_false hb]) | (rw [remOb_true hb]; first | rfl | (rw [areasD_erase]; rfl)) | (rw [hb])
end Go.Proofs.Ytemgpfojmdncjaa
