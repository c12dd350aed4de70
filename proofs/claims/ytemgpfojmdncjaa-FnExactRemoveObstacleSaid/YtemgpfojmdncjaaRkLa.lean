/-
  Law helpers.
-/
import Derived.Test.YtemgpfojmdncjaaRkA
import Derived.Test.YtemgpfojmdncjaaEx19
import Derived.Test.YtemgpfojmdncjaaRkL2
import Derived.Test.YtemgpfojmdncjaaTyF
namespace Go.Proofs.Ytemgpfojmdncjaa
set_option linter.unusedVariables false
set_option linter.unusedSimpArgs false
open Go.RowKit
def szIntS_con : Con := { ι := (List (List Dat)) × Int, pre := fun i => Dat.has (.sl 3 [.int]) (.sl i.1) ∧ 0 ≤ i.2 ∧ i.2 ≤ 1048576, args := fun i => [.one (.sl 3 [.int] i.1), .one (.im (.int .i64 i.2))], res := fun i => ⟨false, [none], [.im (Value.int .i64 (szR (i.1.length + szRows i.1) i.2))]⟩ }
set_option maxRecDepth 100000 in
theorem szIntS_ok : szIntS_con.Ok Try.prog 137 := by
  refine fn_ok (X := ⟨tt, [], [], 12⟩) mixed tt_ok (CTok.nil _) Try.func137 (by decide) rfl rfl rfl (fun _ => Nat.le_of_ble_eq_true rfl) (fun _ => Nat.le_of_ble_eq_true rfl) (fun _ => []) ?_
  rintro ⟨l, n⟩ hpre
  have hpre : Dat.has (.sl 3 [.int]) (.sl l) ∧ 0 ≤ n ∧ n ≤ 1048576 := hpre
  refine by_nf (q := ((decide ((IntKind.i64.wrap (n - ((l.length : Nat) : Int))) < (0 : Int))) = true → ((Value.int .i64 (-1 : Int) = Value.int .i64 (szR (l.length + szRows l) n)))) ∧ ((decide ((IntKind.i64.wrap (n - ((l.length : Nat) : Int))) < (0 : Int))) = false → ((Value.int .i64 (IntKind.i64.wrap (n - ((l.length : Nat) : Int))) = Value.int .i64 (szR (l.length + szRows l) n))))) (by kernel_rfl) ?_
  obtain ⟨hh, h0, h1⟩ := hpre
  have hz := has_leaf (by decide) hh
  simp only [Dat.has] at hh
  obtain ⟨hl, -⟩ := hh
  have hw : IntKind.i64.wrap (n - (l.length : Int)) = n - l.length := wrap64 (by omega) (by omega)
  refine ⟨fun c1 => ?_, fun c1 => ?_⟩
  · -- c1t: (decide ((IntKind.i64.wrap (n - ((l.length : Nat) : Int))) < (0 : Int))) = true
    replace c1 : (decide ((IntKind.i64.wrap (n - ((l.length : Nat) : Int))) < (0 : Int))) = true := c1
    try simp only [Bool.and_eq_true, Bool.or_eq_true, Bool.and_eq_false_iff, Bool.or_eq_false_iff, decide_eq_true_eq, decide_eq_false_iff_not, Bool.not_eq_true', Bool.not_eq_false', bne_iff_ne, ne_eq, beq_iff_eq, Bool.not_eq_true, Bool.not_eq_false, Int.not_lt, Int.not_le, gt_iff_lt, ge_iff_le, beq_eq_false_iff_ne, bne_eq_false_iff_eq] at c1
    -- l2: Value.int .i64 (-1 : Int) = Value.int .i64 (szR (l.length + szRows l) n)
    show Value.int .i64 (-1 : Int) = Value.int .i64 (szR (l.length + szRows l) n)
    refine vint ?_; try rw [hw] at *; grind [szR]
  · -- c1f: (decide ((IntKind.i64.wrap (n - ((l.length : Nat) : Int))) < (0 : Int))) = false
    replace c1 : (decide ((IntKind.i64.wrap (n - ((l.length : Nat) : Int))) < (0 : Int))) = false := c1
    try simp only [Bool.and_eq_true, Bool.or_eq_true, Bool.and_eq_false_iff, Bool.or_eq_false_iff, decide_eq_true_eq, decide_eq_false_iff_not, Bool.not_eq_true', Bool.not_eq_false', bne_iff_ne, ne_eq, beq_iff_eq, Bool.not_eq_true, Bool.not_eq_false, Int.not_lt, Int.not_le, gt_iff_lt, ge_iff_le, beq_eq_false_iff_ne, bne_eq_false_iff_eq] at c1
    -- l3: Value.int .i64 (IntKind.i64.wrap (n - ((l.length : Nat) : Int))) = Value.int .i64 (szR (l.length + szRows l) n)
    show Value.int .i64 (IntKind.i64.wrap (n - ((l.length : Nat) : Int))) = Value.int .i64 (szR (l.length + szRows l) n)
    refine vint ?_; try rw [hw] at *; grind [szR]
def szBigInt_con : Con := { ι := BigD × Int, pre := fun i => hasRow [.bool, .sl 3 [.int]] [.bool i.1.neg, .sl i.1.num] ∧ 0 ≤ i.2 ∧ i.2 ≤ 1048576, args := fun i => [.agg [.im (.bool i.1.neg), .sl 3 [.int] i.1.num], .one (.im (.int .i64 i.2))], res := fun i => ⟨false, [none], [.im (Value.int .i64 (szR (szRow [.bool i.1.neg, .sl i.1.num]) i.2))]⟩ }
set_option maxRecDepth 100000 in
theorem szBigInt_ok : szBigInt_con.Ok Try.prog 136 := by
  refine fn_ok (X := ⟨tt, [(137, szIntS_con)], [], 12⟩) mixed tt_ok (CTok.cons szIntS_ok (CTok.nil _)) Try.func136 (by decide) rfl rfl rfl (fun _ => Nat.le_of_ble_eq_true rfl) (fun _ => Nat.le_of_ble_eq_true rfl) (fun _ => []) ?_
  rintro ⟨b, n⟩ hpre
  have hpre : hasRow [.bool, .sl 3 [.int]] [.bool b.neg, .sl b.num] ∧ 0 ≤ n ∧ n ≤ 1048576 := hpre
  refine by_nf (q := ∃ i1 : (List (List Dat)) × Int, [DA.one (DC.sl 3 [.int] b.num), DA.one (DC.im (Value.int .i64 n))] = szIntS_con.args i1 ∧ szIntS_con.pre i1 ∧ (((decide ((szR (i1.1.length + szRows i1.1) i1.2) < (0 : Int))) = true → ((Value.int .i64 (-1 : Int) = Value.int .i64 (szR (szRow [.bool b.neg, .sl b.num]) n)))) ∧ ((decide ((szR (i1.1.length + szRows i1.1) i1.2) < (0 : Int))) = false → ((Value.int .i64 (szR (i1.1.length + szRows i1.1) i1.2) = Value.int .i64 (szR (szRow [.bool b.neg, .sl b.num]) n)))))) (by kernel_rfl) ?_
  obtain ⟨hh, h0, h1⟩ := hpre
  simp only [hasRow] at hh
  -- w1: szIntS [DA.one (DC.sl 3 [.int] b.num), DA.one (DC.im (Value.int .i64 n))]
  refine ⟨(b.num, n), by
    rfl, by
    show Dat.has (.sl 3 [.int]) (.sl b.num) ∧ 0 ≤ n ∧ n ≤ 1048576
    refine ⟨?_, ?_, ?_⟩ <;> first | (simp only [hasRow]; simp only [hh, and_self]; done) | exact hh.1 | exact hh.2.1 | exact hh.2.2.1 | exact hh.2.2.2.1 | exact hh.2.2.2.2.1 | exact hh.2.2.2.2.2.1 | exact hh.2.2.2.2.2.2.1 | omega | (unfold szR; grind) | (simp [hh]; done), ?_⟩
  refine ⟨fun c4 => ?_, fun c4 => ?_⟩
  · -- c4t: (decide ((szR (b.num.length + szRows b.num) n) < (0 : Int))) = true
    replace c4 : (decide ((szR (b.num.length + szRows b.num) n) < (0 : Int))) = true := c4
    try simp only [Bool.and_eq_true, Bool.or_eq_true, Bool.and_eq_false_iff, Bool.or_eq_false_iff, decide_eq_true_eq, decide_eq_false_iff_not, Bool.not_eq_true', Bool.not_eq_false', bne_iff_ne, ne_eq, beq_iff_eq, Bool.not_eq_true, Bool.not_eq_false, Int.not_lt, Int.not_le, gt_iff_lt, ge_iff_le, beq_eq_false_iff_ne, bne_eq_false_iff_eq] at c4
    -- l5: Value.int .i64 (-1 : Int) = Value.int .i64 (szR (szRow [.bool b.neg, .sl b.num]) n)
    show Value.int .i64 (-1 : Int) = Value.int .i64 (szR (szRow [.bool b.neg, .sl b.num]) n)
    first | rfl | (refine vint ?_; try simp only [szRow, Dat.sz, Nat.add_zero, Nat.zero_add] at *; all_goals grind [szR])
  · -- c4f: (decide ((szR (b.num.length + szRows b.num) n) < (0 : Int))) = false
    replace c4 : (decide ((szR (b.num.length + szRows b.num) n) < (0 : Int))) = false := c4
    try simp only [Bool.and_eq_true, Bool.or_eq_true, Bool.and_eq_false_iff, Bool.or_eq_false_iff, decide_eq_true_eq, decide_eq_false_iff_not, Bool.not_eq_true', Bool.not_eq_false', bne_iff_ne, ne_eq, beq_iff_eq, Bool.not_eq_true, Bool.not_eq_false, Int.not_lt, Int.not_le, gt_iff_lt, ge_iff_le, beq_eq_false_iff_ne, bne_eq_false_iff_eq] at c4
    -- l6: Value.int .i64 (szR (b.num.length + szRows b.num) n) = Value.int .i64 (szR (szRow [.bool b.neg, .sl b.num]) n)
    show Value.int .i64 (szR (b.num.length + szRows b.num) n) = Value.int .i64 (szR (szRow [.bool b.neg, .sl b.num]) n)
    first | rfl | (refine vint ?_; try simp only [szRow, Dat.sz, Nat.add_zero, Nat.zero_add] at *; all_goals grind [szR])
def szRat_con : Con := { ι := RatD × Int, pre := fun i => hasRow [.bool, .sl 3 [.int], .sl 3 [.int]] [.bool i.1.neg, .sl i.1.num, .sl i.1.den] ∧ 0 ≤ i.2 ∧ i.2 ≤ 1048576, args := fun i => [.agg [.im (.bool i.1.neg), .sl 3 [.int] i.1.num, .sl 3 [.int] i.1.den], .one (.im (.int .i64 i.2))], res := fun i => ⟨false, [none], [.im (Value.int .i64 (szR (szRow [.bool i.1.neg, .sl i.1.num, .sl i.1.den]) i.2))]⟩ }
set_option maxRecDepth 100000 in
theorem szRat_ok : szRat_con.Ok Try.prog 111 := by
  refine fn_ok (X := ⟨tt, [(136, szBigInt_con), (137, szIntS_con)], [], 18⟩) mixed tt_ok (CTok.cons szBigInt_ok (CTok.cons szIntS_ok (CTok.nil _))) Try.func111 (by decide) rfl rfl rfl (fun _ => Nat.le_of_ble_eq_true rfl) (fun _ => Nat.le_of_ble_eq_true rfl) (fun _ => []) ?_
  rintro ⟨r, n⟩ hpre
  have hpre : hasRow [.bool, .sl 3 [.int], .sl 3 [.int]] [.bool r.neg, .sl r.num, .sl r.den] ∧ 0 ≤ n ∧ n ≤ 1048576 := hpre
  refine by_nf (q := ∃ i1 : BigD × Int, [DA.agg [DC.im (Value.bool r.neg), DC.sl 3 [.int] r.num], DA.one (DC.im (Value.int .i64 n))] = szBigInt_con.args i1 ∧ szBigInt_con.pre i1 ∧ (((decide ((szR (szRow [.bool i1.1.neg, .sl i1.1.num]) i1.2) < (0 : Int))) = true → ((Value.int .i64 (-1 : Int) = Value.int .i64 (szR (szRow [.bool r.neg, .sl r.num, .sl r.den]) n)))) ∧ ((decide ((szR (szRow [.bool i1.1.neg, .sl i1.1.num]) i1.2) < (0 : Int))) = false → (∃ i2 : (List (List Dat)) × Int, [DA.one (DC.sl 3 [.int] r.den), DA.one (DC.im (Value.int .i64 (szR (szRow [.bool i1.1.neg, .sl i1.1.num]) i1.2)))] = szIntS_con.args i2 ∧ szIntS_con.pre i2 ∧ (((decide ((szR (i2.1.length + szRows i2.1) i2.2) < (0 : Int))) = true → ((Value.int .i64 (-1 : Int) = Value.int .i64 (szR (szRow [.bool r.neg, .sl r.num, .sl r.den]) n)))) ∧ ((decide ((szR (i2.1.length + szRows i2.1) i2.2) < (0 : Int))) = false → ((Value.int .i64 (szR (i2.1.length + szRows i2.1) i2.2) = Value.int .i64 (szR (szRow [.bool r.neg, .sl r.num, .sl r.den]) n))))))))) (by kernel_rfl) ?_
  obtain ⟨hh, h0, h1⟩ := hpre
  simp only [hasRow] at hh
  -- w1: szBigInt [DA.agg [DC.im (Value.bool r.neg), DC.sl 3 [.int] r.num], DA.one (DC.im (Value.int .i64 n))]
  refine ⟨(BigD.mk r.neg r.num, n), by
    rfl, by
    show hasRow [.bool, .sl 3 [.int]] [.bool (BigD.mk r.neg r.num).neg, .sl (BigD.mk r.neg r.num).num] ∧ 0 ≤ n ∧ n ≤ 1048576
    refine ⟨?_, ?_, ?_⟩ <;> first | (simp only [hasRow]; simp only [hh, and_self]; done) | exact hh.1 | exact hh.2.1 | exact hh.2.2.1 | exact hh.2.2.2.1 | exact hh.2.2.2.2.1 | exact hh.2.2.2.2.2.1 | exact hh.2.2.2.2.2.2.1 | omega | (unfold szR; grind) | (simp [hh]; done), ?_⟩
  refine ⟨fun c4 => ?_, fun c4 => ?_⟩
  · -- c4t: (decide ((szR (szRow [.bool (BigD.mk r.neg r.num).neg, .sl (BigD.mk r.neg r.num).num]) n) < (0 : Int))) = true
    replace c4 : (decide ((szR (szRow [.bool (BigD.mk r.neg r.num).neg, .sl (BigD.mk r.neg r.num).num]) n) < (0 : Int))) = true := c4
    try simp only [Bool.and_eq_true, Bool.or_eq_true, Bool.and_eq_false_iff, Bool.or_eq_false_iff, decide_eq_true_eq, decide_eq_false_iff_not, Bool.not_eq_true', Bool.not_eq_false', bne_iff_ne, ne_eq, beq_iff_eq, Bool.not_eq_true, Bool.not_eq_false, Int.not_lt, Int.not_le, gt_iff_lt, ge_iff_le, beq_eq_false_iff_ne, bne_eq_false_iff_eq] at c4
    -- l5: Value.int .i64 (-1 : Int) = Value.int .i64 (szR (szRow [.bool r.neg, .sl r.num, .sl r.den]) n)
    show Value.int .i64 (-1 : Int) = Value.int .i64 (szR (szRow [.bool r.neg, .sl r.num, .sl r.den]) n)
    first | rfl | (refine vint ?_; try simp only [szRow, Dat.sz, Nat.add_zero, Nat.zero_add] at *; all_goals grind [szR])
  · -- c4f: (decide ((szR (szRow [.bool (BigD.mk r.neg r.num).neg, .sl (BigD.mk r.neg r.num).num]) n) < (0 : Int))) = false
    replace c4 : (decide ((szR (szRow [.bool (BigD.mk r.neg r.num).neg, .sl (BigD.mk r.neg r.num).num]) n) < (0 : Int))) = false := c4
    try simp only [Bool.and_eq_true, Bool.or_eq_true, Bool.and_eq_false_iff, Bool.or_eq_false_iff, decide_eq_true_eq, decide_eq_false_iff_not, Bool.not_eq_true', Bool.not_eq_false', bne_iff_ne, ne_eq, beq_iff_eq, Bool.not_eq_true, Bool.not_eq_false, Int.not_lt, Int.not_le, gt_iff_lt, ge_iff_le, beq_eq_false_iff_ne, bne_eq_false_iff_eq] at c4
    -- w6: szIntS [DA.one (DC.sl 3 [.int] r.den), DA.one (DC.im (Value.int .i64 (szR (szRow [.bool (BigD.mk r.neg r.num).neg, .sl (BigD.mk r.neg r.num).num]) n)))]
    refine ⟨(r.den, (szR (szRow [.bool (BigD.mk r.neg r.num).neg, .sl (BigD.mk r.neg r.num).num]) n)), by
      rfl, by
      show Dat.has (.sl 3 [.int]) (.sl r.den) ∧ 0 ≤ (szR (szRow [.bool (BigD.mk r.neg r.num).neg, .sl (BigD.mk r.neg r.num).num]) n) ∧ (szR (szRow [.bool (BigD.mk r.neg r.num).neg, .sl (BigD.mk r.neg r.num).num]) n) ≤ 1048576
      refine ⟨?_, ?_, ?_⟩ <;> first | (simp only [hasRow]; simp only [hh, and_self]; done) | exact hh.1 | exact hh.2.1 | exact hh.2.2.1 | exact hh.2.2.2.1 | exact hh.2.2.2.2.1 | exact hh.2.2.2.2.2.1 | exact hh.2.2.2.2.2.2.1 | omega | (unfold szR; grind) | (simp [hh]; done), ?_⟩
    refine ⟨fun c9 => ?_, fun c9 => ?_⟩
    · -- c9t: (decide ((szR (r.den.length + szRows r.den) (szR (szRow [.bool (BigD.mk r.neg r.num).neg, .sl (BigD.mk r.neg r.num).num]) n)) < (0 : Int))) = true
      replace c9 : (decide ((szR (r.den.length + szRows r.den) (szR (szRow [.bool (BigD.mk r.neg r.num).neg, .sl (BigD.mk r.neg r.num).num]) n)) < (0 : Int))) = true := c9
      try simp only [Bool.and_eq_true, Bool.or_eq_true, Bool.and_eq_false_iff, Bool.or_eq_false_iff, decide_eq_true_eq, decide_eq_false_iff_not, Bool.not_eq_true', Bool.not_eq_false', bne_iff_ne, ne_eq, beq_iff_eq, Bool.not_eq_true, Bool.not_eq_false, Int.not_lt, Int.not_le, gt_iff_lt, ge_iff_le, beq_eq_false_iff_ne, bne_eq_false_iff_eq] at c9
      -- l10: Value.int .i64 (-1 : Int) = Value.int .i64 (szR (szRow [.bool r.neg, .sl r.num, .sl r.den]) n)
      show Value.int .i64 (-1 : Int) = Value.int .i64 (szR (szRow [.bool r.neg, .sl r.num, .sl r.den]) n)
      first | rfl | (refine vint ?_; try simp only [szRow, Dat.sz, Nat.add_zero, Nat.zero_add] at *; all_goals grind [szR])
    · -- c9f: (decide ((szR (r.den.length + szRows r.den) (szR (szRow [.bool (BigD.mk r.neg r.num).neg, .sl (BigD.mk r.neg r.num).num]) n)) < (0 : Int))) = false
      replace c9 : (decide ((szR (r.den.length + szRows r.den) (szR (szRow [.bool (BigD.mk r.neg r.num).neg, .sl (BigD.mk r.neg r.num).num]) n)) < (0 : Int))) = false := c9
      try simp only [Bool.and_eq_true, Bool.or_eq_true, Bool.and_eq_false_iff, Bool.or_eq_false_iff, decide_eq_true_eq, decide_eq_false_iff_not, Bool.not_eq_true', Bool.not_eq_false', bne_iff_ne, ne_eq, beq_iff_eq, Bool.not_eq_true, Bool.not_eq_false, Int.not_lt, Int.not_le, gt_iff_lt, ge_iff_le, beq_eq_false_iff_ne, bne_eq_false_iff_eq] at c9
      -- l11: Value.int .i64 (szR (r.den.length + szRows r.den) (szR (szRow [.bool (BigD.mk r.neg r.num).neg, .sl (BigD.mk r.neg r.num).num]) n)) = Value.int .i64 (szR (szRow [.bool r.neg, .sl r.num, .sl r.den]) n)
      show Value.int .i64 (szR (r.den.length + szRows r.den) (szR (szRow [.bool (BigD.mk r.neg r.num).neg, .sl (BigD.mk r.neg r.num).num]) n)) = Value.int .i64 (szR (szRow [.bool r.neg, .sl r.num, .sl r.den]) n)
      first | rfl | (refine vint ?_; try simp only [szRow, Dat.sz, Nat.add_zero, Nat.zero_add] at *; all_goals grind [szR])
def szPoint_con : Con := { ι := PtD × Int, pre := fun i => hasRow [.bool, .sl 3 [.int], .sl 3 [.int], .bool, .sl 3 [.int], .sl 3 [.int]] [.bool i.1.x.neg, .sl i.1.x.num, .sl i.1.x.den, .bool i.1.y.neg, .sl i.1.y.num, .sl i.1.y.den] ∧ 0 ≤ i.2 ∧ i.2 ≤ 1048576, args := fun i => [.agg [.im (.bool i.1.x.neg), .sl 3 [.int] i.1.x.num, .sl 3 [.int] i.1.x.den, .im (.bool i.1.y.neg), .sl 3 [.int] i.1.y.num, .sl 3 [.int] i.1.y.den], .one (.im (.int .i64 i.2))], res := fun i => ⟨false, [none], [.im (Value.int .i64 (szR (szRow [.bool i.1.x.neg, .sl i.1.x.num, .sl i.1.x.den, .bool i.1.y.neg, .sl i.1.y.num, .sl i.1.y.den]) i.2))]⟩ }
set_option maxRecDepth 100000 in
theorem szPoint_ok : szPoint_con.Ok Try.prog 62 := by
  refine fn_ok (X := ⟨tt, [(111, szRat_con)], [], 18⟩) mixed tt_ok (CTok.cons szRat_ok (CTok.nil _)) Try.func62 (by decide) rfl rfl rfl (fun _ => Nat.le_of_ble_eq_true rfl) (fun _ => Nat.le_of_ble_eq_true rfl) (fun _ => []) ?_
  rintro ⟨p, n⟩ hpre
  have hpre : hasRow [.bool, .sl 3 [.int], .sl 3 [.int], .bool, .sl 3 [.int], .sl 3 [.int]] [.bool p.x.neg, .sl p.x.num, .sl p.x.den, .bool p.y.neg, .sl p.y.num, .sl p.y.den] ∧ 0 ≤ n ∧ n ≤ 1048576 := hpre
  refine by_nf (q := ∃ i1 : RatD × Int, [DA.agg [DC.im (Value.bool p.x.neg), DC.sl 3 [.int] p.x.num, DC.sl 3 [.int] p.x.den], DA.one (DC.im (Value.int .i64 n))] = szRat_con.args i1 ∧ szRat_con.pre i1 ∧ (((decide ((szR (szRow [.bool i1.1.neg, .sl i1.1.num, .sl i1.1.den]) i1.2) < (0 : Int))) = true → ((Value.int .i64 (-1 : Int) = Value.int .i64 (szR (szRow [.bool p.x.neg, .sl p.x.num, .sl p.x.den, .bool p.y.neg, .sl p.y.num, .sl p.y.den]) n)))) ∧ ((decide ((szR (szRow [.bool i1.1.neg, .sl i1.1.num, .sl i1.1.den]) i1.2) < (0 : Int))) = false → (∃ i2 : RatD × Int, [DA.agg [DC.im (Value.bool p.y.neg), DC.sl 3 [.int] p.y.num, DC.sl 3 [.int] p.y.den], DA.one (DC.im (Value.int .i64 (szR (szRow [.bool i1.1.neg, .sl i1.1.num, .sl i1.1.den]) i1.2)))] = szRat_con.args i2 ∧ szRat_con.pre i2 ∧ (((decide ((szR (szRow [.bool i2.1.neg, .sl i2.1.num, .sl i2.1.den]) i2.2) < (0 : Int))) = true → ((Value.int .i64 (-1 : Int) = Value.int .i64 (szR (szRow [.bool p.x.neg, .sl p.x.num, .sl p.x.den, .bool p.y.neg, .sl p.y.num, .sl p.y.den]) n)))) ∧ ((decide ((szR (szRow [.bool i2.1.neg, .sl i2.1.num, .sl i2.1.den]) i2.2) < (0 : Int))) = false → ((Value.int .i64 (szR (szRow [.bool i2.1.neg, .sl i2.1.num, .sl i2.1.den]) i2.2) = Value.int .i64 (szR (szRow [.bool p.x.neg, .sl p.x.num, .sl p.x.den, .bool p.y.neg, .sl p.y.num, .sl p.y.den]) n))))))))) (by kernel_rfl) ?_
  obtain ⟨hh, h0, h1⟩ := hpre
  simp only [hasRow] at hh
  -- w1: szRat [DA.agg [DC.im (Value.bool p.x.neg), DC.sl 3 [.int] p.x.num, DC.sl 3 [.int] p.x.den], DA.one (DC.im (Value.int .i64 n))]
  refine ⟨(p.x, n), by
    rfl, by
    show hasRow [.bool, .sl 3 [.int], .sl 3 [.int]] [.bool p.x.neg, .sl p.x.num, .sl p.x.den] ∧ 0 ≤ n ∧ n ≤ 1048576
    refine ⟨?_, ?_, ?_⟩ <;> first | (simp only [hasRow]; simp only [hh, and_self]; done) | exact hh.1 | exact hh.2.1 | exact hh.2.2.1 | exact hh.2.2.2.1 | exact hh.2.2.2.2.1 | exact hh.2.2.2.2.2.1 | exact hh.2.2.2.2.2.2.1 | omega | (unfold szR; grind) | (simp [hh]; done), ?_⟩
  refine ⟨fun c4 => ?_, fun c4 => ?_⟩
  · -- c4t: (decide ((szR (szRow [.bool p.x.neg, .sl p.x.num, .sl p.x.den]) n) < (0 : Int))) = true
    replace c4 : (decide ((szR (szRow [.bool p.x.neg, .sl p.x.num, .sl p.x.den]) n) < (0 : Int))) = true := c4
    try simp only [Bool.and_eq_true, Bool.or_eq_true, Bool.and_eq_false_iff, Bool.or_eq_false_iff, decide_eq_true_eq, decide_eq_false_iff_not, Bool.not_eq_true', Bool.not_eq_false', bne_iff_ne, ne_eq, beq_iff_eq, Bool.not_eq_true, Bool.not_eq_false, Int.not_lt, Int.not_le, gt_iff_lt, ge_iff_le, beq_eq_false_iff_ne, bne_eq_false_iff_eq] at c4
    -- l5: Value.int .i64 (-1 : Int) = Value.int .i64 (szR (szRow [.bool p.x.neg, .sl p.x.num, .sl p.x.den, .bool p.y.neg, .sl p.y.num, .sl p.y.den]) n)
    show Value.int .i64 (-1 : Int) = Value.int .i64 (szR (szRow [.bool p.x.neg, .sl p.x.num, .sl p.x.den, .bool p.y.neg, .sl p.y.num, .sl p.y.den]) n)
    first | rfl | (refine vint ?_; try simp only [szRow, Dat.sz, Nat.add_zero, Nat.zero_add] at *; all_goals grind [szR])
  · -- c4f: (decide ((szR (szRow [.bool p.x.neg, .sl p.x.num, .sl p.x.den]) n) < (0 : Int))) = false
    replace c4 : (decide ((szR (szRow [.bool p.x.neg, .sl p.x.num, .sl p.x.den]) n) < (0 : Int))) = false := c4
    try simp only [Bool.and_eq_true, Bool.or_eq_true, Bool.and_eq_false_iff, Bool.or_eq_false_iff, decide_eq_true_eq, decide_eq_false_iff_not, Bool.not_eq_true', Bool.not_eq_false', bne_iff_ne, ne_eq, beq_iff_eq, Bool.not_eq_true, Bool.not_eq_false, Int.not_lt, Int.not_le, gt_iff_lt, ge_iff_le, beq_eq_false_iff_ne, bne_eq_false_iff_eq] at c4
    -- w6: szRat [DA.agg [DC.im (Value.bool p.y.neg), DC.sl 3 [.int] p.y.num, DC.sl 3 [.int] p.y.den], DA.one (DC.im (Value.int .i64 (szR (szRow [.bool p.x.neg, .sl p.x.num, .sl p.x.den]) n)))]
    refine ⟨(p.y, (szR (szRow [.bool p.x.neg, .sl p.x.num, .sl p.x.den]) n)), by
      rfl, by
      show hasRow [.bool, .sl 3 [.int], .sl 3 [.int]] [.bool p.y.neg, .sl p.y.num, .sl p.y.den] ∧ 0 ≤ (szR (szRow [.bool p.x.neg, .sl p.x.num, .sl p.x.den]) n) ∧ (szR (szRow [.bool p.x.neg, .sl p.x.num, .sl p.x.den]) n) ≤ 1048576
      refine ⟨?_, ?_, ?_⟩ <;> first | (simp only [hasRow]; simp only [hh, and_self]; done) | exact hh.1 | exact hh.2.1 | exact hh.2.2.1 | exact hh.2.2.2.1 | exact hh.2.2.2.2.1 | exact hh.2.2.2.2.2.1 | exact hh.2.2.2.2.2.2.1 | omega | (unfold szR; grind) | (simp [hh]; done), ?_⟩
    refine ⟨fun c9 => ?_, fun c9 => ?_⟩
    · -- c9t: (decide ((szR (szRow [.bool p.y.neg, .sl p.y.num, .sl p.y.den]) (szR (szRow [.bool p.x.neg, .sl p.x.num, .sl p.x.den]) n)) < (0 : Int))) = true
      replace c9 : (decide ((szR (szRow [.bool p.y.neg, .sl p.y.num, .sl p.y.den]) (szR (szRow [.bool p.x.neg, .sl p.x.num, .sl p.x.den]) n)) < (0 : Int))) = true := c9
      try simp only [Bool.and_eq_true, Bool.or_eq_true, Bool.and_eq_false_iff, Bool.or_eq_false_iff, decide_eq_true_eq, decide_eq_false_iff_not, Bool.not_eq_true', Bool.not_eq_false', bne_iff_ne, ne_eq, beq_iff_eq, Bool.not_eq_true, Bool.not_eq_false, Int.not_lt, Int.not_le, gt_iff_lt, ge_iff_le, beq_eq_false_iff_ne, bne_eq_false_iff_eq] at c9
      -- l10: Value.int .i64 (-1 : Int) = Value.int .i64 (szR (szRow [.bool p.x.neg, .sl p.x.num, .sl p.x.den, .bool p.y.neg, .sl p.y.num, .sl p.y.den]) n)
      show Value.int .i64 (-1 : Int) = Value.int .i64 (szR (szRow [.bool p.x.neg, .sl p.x.num, .sl p.x.den, .bool p.y.neg, .sl p.y.num, .sl p.y.den]) n)
      first | rfl | (refine vint ?_; try simp only [szRow, Dat.sz, Nat.add_zero, Nat.zero_add] at *; all_goals grind [szR])
    · -- c9f: (decide ((szR (szRow [.bool p.y.neg, .sl p.y.num, .sl p.y.den]) (szR (szRow [.bool p.x.neg, .sl p.x.num, .sl p.x.den]) n)) < (0 : Int))) = false
      replace c9 : (decide ((szR (szRow [.bool p.y.neg, .sl p.y.num, .sl p.y.den]) (szR (szRow [.bool p.x.neg, .sl p.x.num, .sl p.x.den]) n)) < (0 : Int))) = false := c9
      try simp only [Bool.and_eq_true, Bool.or_eq_true, Bool.and_eq_false_iff, Bool.or_eq_false_iff, decide_eq_true_eq, decide_eq_false_iff_not, Bool.not_eq_true', Bool.not_eq_false', bne_iff_ne, ne_eq, beq_iff_eq, Bool.not_eq_true, Bool.not_eq_false, Int.not_lt, Int.not_le, gt_iff_lt, ge_iff_le, beq_eq_false_iff_ne, bne_eq_false_iff_eq] at c9
      -- l11: Value.int .i64 (szR (szRow [.bool p.y.neg, .sl p.y.num, .sl p.y.den]) (szR (szRow [.bool p.x.neg, .sl p.x.num, .sl p.x.den]) n)) = Value.int .i64 (szR (szRow [.bool p.x.neg, .sl p.x.num, .sl p.x.den, .bool p.y.neg, .sl p.y.num, .sl p.y.den]) n)
      show Value.int .i64 (szR (szRow [.bool p.y.neg, .sl p.y.num, .sl p.y.den]) (szR (szRow [.bool p.x.neg, .sl p.x.num, .sl p.x.den]) n)) = Value.int .i64 (szR (szRow [.bool p.x.neg, .sl p.x.num, .sl p.x.den, .bool p.y.neg, .sl p.y.num, .sl p.y.den]) n)
      first | rfl | (refine vint ?_; try simp only [szRow, Dat.sz, Nat.add_zero, Nat.zero_add] at *; all_goals grind [szR])
def szPlacement_con : Con := { ι := PlD × Int, pre := fun i => hasRow [.int, .bool, .sl 3 [.int], .sl 3 [.int], .bool, .sl 3 [.int], .sl 3 [.int]] [.int i.1.h, .bool i.1.pt.x.neg, .sl i.1.pt.x.num, .sl i.1.pt.x.den, .bool i.1.pt.y.neg, .sl i.1.pt.y.num, .sl i.1.pt.y.den] ∧ 0 ≤ i.2 ∧ i.2 ≤ 1048576, args := fun i => [.agg [.im (.int .i64 i.1.h), .im (.bool i.1.pt.x.neg), .sl 3 [.int] i.1.pt.x.num, .sl 3 [.int] i.1.pt.x.den, .im (.bool i.1.pt.y.neg), .sl 3 [.int] i.1.pt.y.num, .sl 3 [.int] i.1.pt.y.den], .one (.im (.int .i64 i.2))], res := fun i => ⟨false, [none], [.im (Value.int .i64 (szR (szRow [.int i.1.h, .bool i.1.pt.x.neg, .sl i.1.pt.x.num, .sl i.1.pt.x.den, .bool i.1.pt.y.neg, .sl i.1.pt.y.num, .sl i.1.pt.y.den]) i.2))]⟩ }
set_option maxRecDepth 100000 in
theorem szPlacement_ok : szPlacement_con.Ok Try.prog 20 := by
  refine fn_ok (X := ⟨tt, [(62, szPoint_con)], [], 12⟩) mixed tt_ok (CTok.cons szPoint_ok (CTok.nil _)) Try.func20 (by decide) rfl rfl rfl (fun _ => Nat.le_of_ble_eq_true rfl) (fun _ => Nat.le_of_ble_eq_true rfl) (fun _ => []) ?_
  rintro ⟨p, n⟩ hpre
  have hpre : hasRow [.int, .bool, .sl 3 [.int], .sl 3 [.int], .bool, .sl 3 [.int], .sl 3 [.int]] [.int p.h, .bool p.pt.x.neg, .sl p.pt.x.num, .sl p.pt.x.den, .bool p.pt.y.neg, .sl p.pt.y.num, .sl p.pt.y.den] ∧ 0 ≤ n ∧ n ≤ 1048576 := hpre
  refine by_nf (q := ∃ i1 : PtD × Int, [DA.agg [DC.im (Value.bool p.pt.x.neg), DC.sl 3 [.int] p.pt.x.num, DC.sl 3 [.int] p.pt.x.den, DC.im (Value.bool p.pt.y.neg), DC.sl 3 [.int] p.pt.y.num, DC.sl 3 [.int] p.pt.y.den], DA.one (DC.im (Value.int .i64 n))] = szPoint_con.args i1 ∧ szPoint_con.pre i1 ∧ (((decide ((szR (szRow [.bool i1.1.x.neg, .sl i1.1.x.num, .sl i1.1.x.den, .bool i1.1.y.neg, .sl i1.1.y.num, .sl i1.1.y.den]) i1.2) < (0 : Int))) = true → ((Value.int .i64 (-1 : Int) = Value.int .i64 (szR (szRow [.int p.h, .bool p.pt.x.neg, .sl p.pt.x.num, .sl p.pt.x.den, .bool p.pt.y.neg, .sl p.pt.y.num, .sl p.pt.y.den]) n)))) ∧ ((decide ((szR (szRow [.bool i1.1.x.neg, .sl i1.1.x.num, .sl i1.1.x.den, .bool i1.1.y.neg, .sl i1.1.y.num, .sl i1.1.y.den]) i1.2) < (0 : Int))) = false → ((Value.int .i64 (szR (szRow [.bool i1.1.x.neg, .sl i1.1.x.num, .sl i1.1.x.den, .bool i1.1.y.neg, .sl i1.1.y.num, .sl i1.1.y.den]) i1.2) = Value.int .i64 (szR (szRow [.int p.h, .bool p.pt.x.neg, .sl p.pt.x.num, .sl p.pt.x.den, .bool p.pt.y.neg, .sl p.pt.y.num, .sl p.pt.y.den]) n)))))) (by kernel_rfl) ?_
  obtain ⟨hh, h0, h1⟩ := hpre
  simp only [hasRow] at hh
  -- w1: szPoint [DA.agg [DC.im (Value.bool p.pt.x.neg), DC.sl 3 [.int] p.pt.x.num, DC.sl 3 [.int] p.pt.x.den, DC.im (Value.bool p.pt.y.neg), DC.sl 3 [.int] p.pt.y.num, DC.sl 3 [.int] p.pt.y.den], DA.one (DC.im (Value.int .i64 n))]
  refine ⟨(p.pt, n), by
    rfl, by
    show hasRow [.bool, .sl 3 [.int], .sl 3 [.int], .bool, .sl 3 [.int], .sl 3 [.int]] [.bool p.pt.x.neg, .sl p.pt.x.num, .sl p.pt.x.den, .bool p.pt.y.neg, .sl p.pt.y.num, .sl p.pt.y.den] ∧ 0 ≤ n ∧ n ≤ 1048576
    refine ⟨?_, ?_, ?_⟩ <;> first | (simp only [hasRow]; simp only [hh, and_self]; done) | exact hh.1 | exact hh.2.1 | exact hh.2.2.1 | exact hh.2.2.2.1 | exact hh.2.2.2.2.1 | exact hh.2.2.2.2.2.1 | exact hh.2.2.2.2.2.2.1 | omega | (unfold szR; grind) | (simp [hh]; done), ?_⟩
  refine ⟨fun c4 => ?_, fun c4 => ?_⟩
  · -- c4t: (decide ((szR (szRow [.bool p.pt.x.neg, .sl p.pt.x.num, .sl p.pt.x.den, .bool p.pt.y.neg, .sl p.pt.y.num, .sl p.pt.y.den]) n) < (0 : Int))) = true
    replace c4 : (decide ((szR (szRow [.bool p.pt.x.neg, .sl p.pt.x.num, .sl p.pt.x.den, .bool p.pt.y.neg, .sl p.pt.y.num, .sl p.pt.y.den]) n) < (0 : Int))) = true := c4
    try simp only [Bool.and_eq_true, Bool.or_eq_true, Bool.and_eq_false_iff, Bool.or_eq_false_iff, decide_eq_true_eq, decide_eq_false_iff_not, Bool.not_eq_true', Bool.not_eq_false', bne_iff_ne, ne_eq, beq_iff_eq, Bool.not_eq_true, Bool.not_eq_false, Int.not_lt, Int.not_le, gt_iff_lt, ge_iff_le, beq_eq_false_iff_ne, bne_eq_false_iff_eq] at c4
    -- l5: Value.int .i64 (-1 : Int) = Value.int .i64 (szR (szRow [.int p.h, .bool p.pt.x.neg, .sl p.pt.x.num, .sl p.pt.x.den, .bool p.pt.y.neg, .sl p.pt.y.num, .sl p.pt.y.den]) n)
    show Value.int .i64 (-1 : Int) = Value.int .i64 (szR (szRow [.int p.h, .bool p.pt.x.neg, .sl p.pt.x.num, .sl p.pt.x.den, .bool p.pt.y.neg, .sl p.pt.y.num, .sl p.pt.y.den]) n)
    first | rfl | (refine vint ?_; try simp only [szRow, Dat.sz, Nat.add_zero, Nat.zero_add] at *; all_goals grind [szR])
  · -- c4f: (decide ((szR (szRow [.bool p.pt.x.neg, .sl p.pt.x.num, .sl p.pt.x.den, .bool p.pt.y.neg, .sl p.pt.y.num, .sl p.pt.y.den]) n) < (0 : Int))) = false
    replace c4 : (decide ((szR (szRow [.bool p.pt.x.neg, .sl p.pt.x.num, .sl p.pt.x.den, .bool p.pt.y.neg, .sl p.pt.y.num, .sl p.pt.y.den]) n) < (0 : Int))) = false := c4
    try simp only [Bool.and_eq_true, Bool.or_eq_true, Bool.and_eq_false_iff, Bool.or_eq_false_iff, decide_eq_true_eq, decide_eq_false_iff_not, Bool.not_eq_true', Bool.not_eq_false', bne_iff_ne, ne_eq, beq_iff_eq, Bool.not_eq_true, Bool.not_eq_false, Int.not_lt, Int.not_le, gt_iff_lt, ge_iff_le, beq_eq_false_iff_ne, bne_eq_false_iff_eq] at c4
    -- l6: Value.int .i64 (szR (szRow [.bool p.pt.x.neg, .sl p.pt.x.num, .sl p.pt.x.den, .bool p.pt.y.neg, .sl p.pt.y.num, .sl p.pt.y.den]) n) = Value.int .i64 (szR (szRow [.int p.h, .bool p.pt.x.neg, .sl p.pt.x.num, .sl p.pt.x.den, .bool p.pt.y.neg, .sl p.pt.y.num, .sl p.pt.y.den]) n)
    show Value.int .i64 (szR (szRow [.bool p.pt.x.neg, .sl p.pt.x.num, .sl p.pt.x.den, .bool p.pt.y.neg, .sl p.pt.y.num, .sl p.pt.y.den]) n) = Value.int .i64 (szR (szRow [.int p.h, .bool p.pt.x.neg, .sl p.pt.x.num, .sl p.pt.x.den, .bool p.pt.y.neg, .sl p.pt.y.num, .sl p.pt.y.den]) n)
    first | rfl | (refine vint ?_; try simp only [szRow, Dat.sz, Nat.add_zero, Nat.zero_add] at *; all_goals grind [szR])
def szStep_con : Con := { ι := PlD × Int, pre := fun i => hasRow [.int, .bool, .sl 3 [.int], .sl 3 [.int], .bool, .sl 3 [.int], .sl 3 [.int]] [.int i.1.h, .bool i.1.pt.x.neg, .sl i.1.pt.x.num, .sl i.1.pt.x.den, .bool i.1.pt.y.neg, .sl i.1.pt.y.num, .sl i.1.pt.y.den] ∧ 0 ≤ i.2 ∧ i.2 ≤ 1048576, args := fun i => [.agg [.im (.int .i64 i.1.h), .im (.bool i.1.pt.x.neg), .sl 3 [.int] i.1.pt.x.num, .sl 3 [.int] i.1.pt.x.den, .im (.bool i.1.pt.y.neg), .sl 3 [.int] i.1.pt.y.num, .sl 3 [.int] i.1.pt.y.den], .one (.im (.int .i64 i.2))], res := fun i => ⟨false, [none], [.im (Value.int .i64 (szR (szRow [.int i.1.h, .bool i.1.pt.x.neg, .sl i.1.pt.x.num, .sl i.1.pt.x.den, .bool i.1.pt.y.neg, .sl i.1.pt.y.num, .sl i.1.pt.y.den]) i.2))]⟩ }
set_option maxRecDepth 100000 in
theorem szStep_ok : szStep_con.Ok Try.prog 63 := by
  refine fn_ok (X := ⟨tt, [(62, szPoint_con)], [], 12⟩) mixed tt_ok (CTok.cons szPoint_ok (CTok.nil _)) Try.func63 (by decide) rfl rfl rfl (fun _ => Nat.le_of_ble_eq_true rfl) (fun _ => Nat.le_of_ble_eq_true rfl) (fun _ => []) ?_
  rintro ⟨p, n⟩ hpre
  have hpre : hasRow [.int, .bool, .sl 3 [.int], .sl 3 [.int], .bool, .sl 3 [.int], .sl 3 [.int]] [.int p.h, .bool p.pt.x.neg, .sl p.pt.x.num, .sl p.pt.x.den, .bool p.pt.y.neg, .sl p.pt.y.num, .sl p.pt.y.den] ∧ 0 ≤ n ∧ n ≤ 1048576 := hpre
  refine by_nf (q := ∃ i1 : PtD × Int, [DA.agg [DC.im (Value.bool p.pt.x.neg), DC.sl 3 [.int] p.pt.x.num, DC.sl 3 [.int] p.pt.x.den, DC.im (Value.bool p.pt.y.neg), DC.sl 3 [.int] p.pt.y.num, DC.sl 3 [.int] p.pt.y.den], DA.one (DC.im (Value.int .i64 n))] = szPoint_con.args i1 ∧ szPoint_con.pre i1 ∧ (((decide ((szR (szRow [.bool i1.1.x.neg, .sl i1.1.x.num, .sl i1.1.x.den, .bool i1.1.y.neg, .sl i1.1.y.num, .sl i1.1.y.den]) i1.2) < (0 : Int))) = true → ((Value.int .i64 (-1 : Int) = Value.int .i64 (szR (szRow [.int p.h, .bool p.pt.x.neg, .sl p.pt.x.num, .sl p.pt.x.den, .bool p.pt.y.neg, .sl p.pt.y.num, .sl p.pt.y.den]) n)))) ∧ ((decide ((szR (szRow [.bool i1.1.x.neg, .sl i1.1.x.num, .sl i1.1.x.den, .bool i1.1.y.neg, .sl i1.1.y.num, .sl i1.1.y.den]) i1.2) < (0 : Int))) = false → ((Value.int .i64 (szR (szRow [.bool i1.1.x.neg, .sl i1.1.x.num, .sl i1.1.x.den, .bool i1.1.y.neg, .sl i1.1.y.num, .sl i1.1.y.den]) i1.2) = Value.int .i64 (szR (szRow [.int p.h, .bool p.pt.x.neg, .sl p.pt.x.num, .sl p.pt.x.den, .bool p.pt.y.neg, .sl p.pt.y.num, .sl p.pt.y.den]) n)))))) (by kernel_rfl) ?_
  obtain ⟨hh, h0, h1⟩ := hpre
  simp only [hasRow] at hh
  -- w1: szPoint [DA.agg [DC.im (Value.bool p.pt.x.neg), DC.sl 3 [.int] p.pt.x.num, DC.sl 3 [.int] p.pt.x.den, DC.im (Value.bool p.pt.y.neg), DC.sl 3 [.int] p.pt.y.num, DC.sl 3 [.int] p.pt.y.den], DA.one (DC.im (Value.int .i64 n))]
  refine ⟨(p.pt, n), by
    rfl, by
    show hasRow [.bool, .sl 3 [.int], .sl 3 [.int], .bool, .sl 3 [.int], .sl 3 [.int]] [.bool p.pt.x.neg, .sl p.pt.x.num, .sl p.pt.x.den, .bool p.pt.y.neg, .sl p.pt.y.num, .sl p.pt.y.den] ∧ 0 ≤ n ∧ n ≤ 1048576
    refine ⟨?_, ?_, ?_⟩ <;> first | (simp only [hasRow]; simp only [hh, and_self]; done) | exact hh.1 | exact hh.2.1 | exact hh.2.2.1 | exact hh.2.2.2.1 | exact hh.2.2.2.2.1 | exact hh.2.2.2.2.2.1 | exact hh.2.2.2.2.2.2.1 | omega | (unfold szR; grind) | (simp [hh]; done), ?_⟩
  refine ⟨fun c4 => ?_, fun c4 => ?_⟩
  · -- c4t: (decide ((szR (szRow [.bool p.pt.x.neg, .sl p.pt.x.num, .sl p.pt.x.den, .bool p.pt.y.neg, .sl p.pt.y.num, .sl p.pt.y.den]) n) < (0 : Int))) = true
    replace c4 : (decide ((szR (szRow [.bool p.pt.x.neg, .sl p.pt.x.num, .sl p.pt.x.den, .bool p.pt.y.neg, .sl p.pt.y.num, .sl p.pt.y.den]) n) < (0 : Int))) = true := c4
    try simp only [Bool.and_eq_true, Bool.or_eq_true, Bool.and_eq_false_iff, Bool.or_eq_false_iff, decide_eq_true_eq, decide_eq_false_iff_not, Bool.not_eq_true', Bool.not_eq_false', bne_iff_ne, ne_eq, beq_iff_eq, Bool.not_eq_true, Bool.not_eq_false, Int.not_lt, Int.not_le, gt_iff_lt, ge_iff_le, beq_eq_false_iff_ne, bne_eq_false_iff_eq] at c4
    -- l5: Value.int .i64 (-1 : Int) = Value.int .i64 (szR (szRow [.int p.h, .bool p.pt.x.neg, .sl p.pt.x.num, .sl p.pt.x.den, .bool p.pt.y.neg, .sl p.pt.y.num, .sl p.pt.y.den]) n)
    show Value.int .i64 (-1 : Int) = Value.int .i64 (szR (szRow [.int p.h, .bool p.pt.x.neg, .sl p.pt.x.num, .sl p.pt.x.den, .bool p.pt.y.neg, .sl p.pt.y.num, .sl p.pt.y.den]) n)
    first | rfl | (refine vint ?_; try simp only [szRow, Dat.sz, Nat.add_zero, Nat.zero_add] at *; all_goals grind [szR])
  · -- c4f: (decide ((szR (szRow [.bool p.pt.x.neg, .sl p.pt.x.num, .sl p.pt.x.den, .bool p.pt.y.neg, .sl p.pt.y.num, .sl p.pt.y.den]) n) < (0 : Int))) = false
    replace c4 : (decide ((szR (szRow [.bool p.pt.x.neg, .sl p.pt.x.num, .sl p.pt.x.den, .bool p.pt.y.neg, .sl p.pt.y.num, .sl p.pt.y.den]) n) < (0 : Int))) = false := c4
    try simp only [Bool.and_eq_true, Bool.or_eq_true, Bool.and_eq_false_iff, Bool.or_eq_false_iff, decide_eq_true_eq, decide_eq_false_iff_not, Bool.not_eq_true', Bool.not_eq_false', bne_iff_ne, ne_eq, beq_iff_eq, Bool.not_eq_true, Bool.not_eq_false, Int.not_lt, Int.not_le, gt_iff_lt, ge_iff_le, beq_eq_false_iff_ne, bne_eq_false_iff_eq] at c4
    -- l6: Value.int .i64 (szR (szRow [.bool p.pt.x.neg, .sl p.pt.x.num, .sl p.pt.x.den, .bool p.pt.y.neg, .sl p.pt.y.num, .sl p.pt.y.den]) n) = Value.int .i64 (szR (szRow [.int p.h, .bool p.pt.x.neg, .sl p.pt.x.num, .sl p.pt.x.den, .bool p.pt.y.neg, .sl p.pt.y.num, .sl p.pt.y.den]) n)
    show Value.int .i64 (szR (szRow [.bool p.pt.x.neg, .sl p.pt.x.num, .sl p.pt.x.den, .bool p.pt.y.neg, .sl p.pt.y.num, .sl p.pt.y.den]) n) = Value.int .i64 (szR (szRow [.int p.h, .bool p.pt.x.neg, .sl p.pt.x.num, .sl p.pt.x.den, .bool p.pt.y.neg, .sl p.pt.y.num, .sl p.pt.y.den]) n)
    first | rfl | (refine vint ?_; try simp only [szRow, Dat.sz, Nat.add_zero, Nat.zero_add] at *; all_goals grind [szR])
def szStepS_con : Con := { ι := (List (List Dat)) × Int, pre := fun i => Dat.has (.sl 104 [.int, .bool, .sl 3 [.int], .sl 3 [.int], .bool, .sl 3 [.int], .sl 3 [.int]]) (.sl i.1) ∧ 0 ≤ i.2 ∧ i.2 ≤ 1048576, args := fun i => [.one (.sl 102 [.int, .bool, .sl 3 [.int], .sl 3 [.int], .bool, .sl 3 [.int], .sl 3 [.int]] i.1), .one (.im (.int .i64 i.2))], res := fun i => ⟨false, [none], [.im (Value.int .i64 (szR (i.1.length + szRows i.1) i.2))]⟩ }
set_option maxRecDepth 100000 in
theorem szStepS_ok : szStepS_con.Ok Try.prog 21 := by
  refine fn_ok (X := ⟨tt, [(63, szStep_con)], [], 27⟩) mixed tt_ok (CTok.cons szStep_ok (CTok.nil _)) Try.func21 (by decide) rfl rfl rfl (fun _ => Nat.le_of_ble_eq_true rfl) (fun _ => Nat.le_of_ble_eq_true rfl) (fun i => [(5, .mk 2 (Nat × Int) (fun x1 => { tm := [(0, .one (.one (.ext 1))), (4, .one (.one (.im (Value.int .i64 (0 : Int))))), (5, .one (.one (.im (Value.int .i64 (x1.1 : Int))))), (1, .one (.one (.im (Value.int .i64 x1.2))))], en := [(1, .view 102 [.int, .bool, .sl 3 [.int], .sl 3 [.int], .bool, .sl 3 [.int], .sl 3 [.int]] i.1 [])] }) (fun x1 => x1.1 ≤ i.1.length ∧ 0 ≤ x1.2 ∧ x1.2 + i.1.length + szRows (i.1.take x1.1) = i.2) (fun x1 => i.1.length - x1.1) (fun _ => []))]) ?_
  rintro ⟨l, n⟩ hpre
  have hpre : Dat.has (.sl 104 [.int, .bool, .sl 3 [.int], .sl 3 [.int], .bool, .sl 3 [.int], .sl 3 [.int]]) (.sl l) ∧ 0 ≤ n ∧ n ≤ 1048576 := hpre
  refine by_nf (q := ((decide ((IntKind.i64.wrap (n - ((l.length : Nat) : Int))) < (0 : Int))) = true → ((Value.int .i64 (-1 : Int) = Value.int .i64 (szR (l.length + szRows l) n)))) ∧ ((decide ((IntKind.i64.wrap (n - ((l.length : Nat) : Int))) < (0 : Int))) = false → ((∃ x1 : Nat × Int, (x1.1 ≤ l.length ∧ 0 ≤ x1.2 ∧ x1.2 + l.length + szRows (l.take x1.1) = n) ∧ ((Value.int .i64 (0 : Int) = Value.int .i64 (0 : Int)) ∧ (Value.int .i64 (0 : Int) = Value.int .i64 (x1.1 : Int)) ∧ (Value.int .i64 (IntKind.i64.wrap (n - ((l.length : Nat) : Int))) = Value.int .i64 x1.2) ∧ (l = l))) ∧ ∀ x1 : Nat × Int, (x1.1 ≤ l.length ∧ 0 ≤ x1.2 ∧ x1.2 + l.length + szRows (l.take x1.1) = n) → (((decide ((x1.1 : Int) < ((l.length : Nat) : Int))) = true → ((0 ≤ (x1.1 : Int) ∧ (x1.1 : Int) < (l.length : Int)) ∧ ((x1.1 < l.length) ∧ (∃ i1 : PlD × Int, [DA.agg [DC.im (Value.int .i64 (((l.getD x1.1 []).getD 0 (.int 0))).n), DC.im (Value.bool ((((l.getD x1.1 []).getD 1 (.int 0))).b)), DC.sl 3 [.int] ((((l.getD x1.1 []).getD 2 (.int 0))).r), DC.sl 3 [.int] ((((l.getD x1.1 []).getD 3 (.int 0))).r), DC.im (Value.bool ((((l.getD x1.1 []).getD 4 (.int 0))).b)), DC.sl 3 [.int] ((((l.getD x1.1 []).getD 5 (.int 0))).r), DC.sl 3 [.int] ((((l.getD x1.1 []).getD 6 (.int 0))).r)], DA.one (DC.im (Value.int .i64 x1.2))] = szStep_con.args i1 ∧ szStep_con.pre i1 ∧ (((decide ((szR (szRow [.int i1.1.h, .bool i1.1.pt.x.neg, .sl i1.1.pt.x.num, .sl i1.1.pt.x.den, .bool i1.1.pt.y.neg, .sl i1.1.pt.y.num, .sl i1.1.pt.y.den]) i1.2) < (0 : Int))) = true → ((Value.int .i64 (-1 : Int) = Value.int .i64 (szR (l.length + szRows l) n)))) ∧ ((decide ((szR (szRow [.int i1.1.h, .bool i1.1.pt.x.neg, .sl i1.1.pt.x.num, .sl i1.1.pt.x.den, .bool i1.1.pt.y.neg, .sl i1.1.pt.y.num, .sl i1.1.pt.y.den]) i1.2) < (0 : Int))) = false → (∃ y2 : Nat × Int, (y2.1 ≤ l.length ∧ 0 ≤ y2.2 ∧ y2.2 + l.length + szRows (l.take y2.1) = n) ∧ (l.length - y2.1 < l.length - x1.1) ∧ ((Value.int .i64 (0 : Int) = Value.int .i64 (0 : Int)) ∧ (Value.int .i64 (IntKind.i64.wrap ((x1.1 : Int) + (1 : Int))) = Value.int .i64 (y2.1 : Int)) ∧ (Value.int .i64 (szR (szRow [.int i1.1.h, .bool i1.1.pt.x.neg, .sl i1.1.pt.x.num, .sl i1.1.pt.x.den, .bool i1.1.pt.y.neg, .sl i1.1.pt.y.num, .sl i1.1.pt.y.den]) i1.2) = Value.int .i64 y2.2) ∧ (l = l))))))))) ∧ ((decide ((x1.1 : Int) < ((l.length : Nat) : Int))) = false → ((Value.int .i64 x1.2 = Value.int .i64 (szR (l.length + szRows l) n)))))))) (by kernel_rfl) ?_
  obtain ⟨hh, h0, h1⟩ := hpre
  have hh2 := has_rows hh
  have hl := has_len hh
  have hw : IntKind.i64.wrap (n - (l.length : Int)) = n - l.length := wrap64 (by omega) (by omega)
  refine ⟨fun c1 => ?_, fun c1 => ?_⟩
  · -- c1t: (decide ((IntKind.i64.wrap (n - ((l.length : Nat) : Int))) < (0 : Int))) = true
    replace c1 : (decide ((IntKind.i64.wrap (n - ((l.length : Nat) : Int))) < (0 : Int))) = true := c1
    try simp only [Bool.and_eq_true, Bool.or_eq_true, Bool.and_eq_false_iff, Bool.or_eq_false_iff, decide_eq_true_eq, decide_eq_false_iff_not, Bool.not_eq_true', Bool.not_eq_false', bne_iff_ne, ne_eq, beq_iff_eq, Bool.not_eq_true, Bool.not_eq_false, Int.not_lt, Int.not_le, gt_iff_lt, ge_iff_le, beq_eq_false_iff_ne, bne_eq_false_iff_eq] at c1
    -- l2: Value.int .i64 (-1 : Int) = Value.int .i64 (szR (l.length + szRows l) n)
    show Value.int .i64 (-1 : Int) = Value.int .i64 (szR (l.length + szRows l) n)
    refine vint ?_; try rw [hw] at *; grind [szR]
  · -- c1f: (decide ((IntKind.i64.wrap (n - ((l.length : Nat) : Int))) < (0 : Int))) = false
    replace c1 : (decide ((IntKind.i64.wrap (n - ((l.length : Nat) : Int))) < (0 : Int))) = false := c1
    try simp only [Bool.and_eq_true, Bool.or_eq_true, Bool.and_eq_false_iff, Bool.or_eq_false_iff, decide_eq_true_eq, decide_eq_false_iff_not, Bool.not_eq_true', Bool.not_eq_false', bne_iff_ne, ne_eq, beq_iff_eq, Bool.not_eq_true, Bool.not_eq_false, Int.not_lt, Int.not_le, gt_iff_lt, ge_iff_le, beq_eq_false_iff_ne, bne_eq_false_iff_eq] at c1
    -- i3
    refine ⟨⟨(0, n - l.length), by
      first | omega | (rw [hw] at c1; simp [szRows]; omega) | (unfold szR at *; grind), ?_⟩, ?_⟩
    · -- the beginning
      refine ⟨?_, ?_⟩
      · -- b5: Value.int .i64 (0 : Int) = Value.int .i64 (0 : Int)
        show Value.int .i64 (0 : Int) = Value.int .i64 (0 : Int)
        first | rfl | exact vint hw
      refine ⟨?_, ?_⟩
      · -- b6: Value.int .i64 (0 : Int) = Value.int .i64 (0 : Int)
        show Value.int .i64 (0 : Int) = Value.int .i64 (0 : Int)
        first | rfl | exact vint hw
      refine ⟨?_, ?_⟩
      · -- b7: Value.int .i64 (IntKind.i64.wrap (n - ((l.length : Nat) : Int))) = Value.int .i64 (n - l.length)
        show Value.int .i64 (IntKind.i64.wrap (n - ((l.length : Nat) : Int))) = Value.int .i64 (n - l.length)
        first | rfl | exact vint hw
      -- b8: l = l
      show l = l
      first | rfl | exact vint hw
    rintro ⟨k, m⟩ hki3
    have hki3 : k ≤ l.length ∧ 0 ≤ m ∧ m + l.length + szRows (l.take k) = n := hki3
    have hle := szRows_take_le l k
    refine ⟨fun c9 => ?_, fun c9 => ?_⟩
    · -- c9t: (decide ((k : Int) < ((l.length : Nat) : Int))) = true
      replace c9 : (decide ((k : Int) < ((l.length : Nat) : Int))) = true := c9
      try simp only [Bool.and_eq_true, Bool.or_eq_true, Bool.and_eq_false_iff, Bool.or_eq_false_iff, decide_eq_true_eq, decide_eq_false_iff_not, Bool.not_eq_true', Bool.not_eq_false', bne_iff_ne, ne_eq, beq_iff_eq, Bool.not_eq_true, Bool.not_eq_false, Int.not_lt, Int.not_le, gt_iff_lt, ge_iff_le, beq_eq_false_iff_ne, bne_eq_false_iff_eq] at c9
      have o10 : 0 ≤ (k : Int) ∧ (k : Int) < (l.length : Int) := by
        first | rfl | omega | (simp; done) | (simp; omega)
      refine ⟨o10, ?_⟩
      have o11 : k < l.length := by
        first | rfl | omega | (simp; done) | (simp; omega)
      refine ⟨o11, ?_⟩
      -- w12: szStep [DA.agg [DC.im (Value.int .i64 (((l.getD k []).getD 0 (.int 0))).n), DC.im (Value.bool ((((l.getD k []).getD 1 (.int 0))).b)), DC.sl 3 [.int] ((((l.getD k []).getD 2 (.int 0))).r), DC.sl 3 [.int] ((((l.getD k []).getD 3 (.int 0))).r), DC.im (Value.bool ((((l.getD k []).getD 4 (.int 0))).b)), DC.sl 3
      refine ⟨((plOf (l.getD k [])), m), by
        rfl, by
        show hasRow [.int, .bool, .sl 3 [.int], .sl 3 [.int], .bool, .sl 3 [.int], .sl 3 [.int]] [.int (plOf (l.getD k [])).h, .bool (plOf (l.getD k [])).pt.x.neg, .sl (plOf (l.getD k [])).pt.x.num, .sl (plOf (l.getD k [])).pt.x.den, .bool (plOf (l.getD k [])).pt.y.neg, .sl (plOf (l.getD k [])).pt.y.num, .sl (plOf (l.getD k [])).pt.y.den] ∧ 0 ≤ m ∧ m ≤ 1048576
        refine ⟨?_, by omega, by omega⟩
        have := hh2 k (by omega)
        rw [← plOf_row this] at this
        exact this, ?_⟩
      have hle := szRows_take_le l (k + 1)
      have hts := szRows_take l k (by omega)
      have hrow := hh2 k (by omega)
      rw [← plOf_row hrow] at hts
      have hts : szRows (l.take (k + 1)) = szRows (l.take k) + szRow [.int ((plOf (l.getD k [])).h), .bool ((plOf (l.getD k [])).pt.x.neg), .sl ((plOf (l.getD k [])).pt.x.num), .sl ((plOf (l.getD k [])).pt.x.den), .bool ((plOf (l.getD k [])).pt.y.neg), .sl ((plOf (l.getD k [])).pt.y.num), .sl ((plOf (l.getD k [])).pt.y.den)] := hts
      refine ⟨fun c15 => ?_, fun c15 => ?_⟩
      · -- c15t: (decide ((szR (szRow [.int (plOf (l.getD k [])).h, .bool (plOf (l.getD k [])).pt.x.neg, .sl (plOf (l.getD k [])).pt.x.num, .sl (plOf (l.getD k [])).pt.x.den, .bool (plOf (l.getD k [])).pt.y.neg, .sl (plOf (l.getD k [])).pt.y.num, .sl (plOf (l.getD k [])).pt.y.den]) m) < (0 : Int))) = true
        replace c15 : (decide ((szR (szRow [.int (plOf (l.getD k [])).h, .bool (plOf (l.getD k [])).pt.x.neg, .sl (plOf (l.getD k [])).pt.x.num, .sl (plOf (l.getD k [])).pt.x.den, .bool (plOf (l.getD k [])).pt.y.neg, .sl (plOf (l.getD k [])).pt.y.num, .sl (plOf (l.getD k [])).pt.y.den]) m) < (0 : Int))) = true := c15
        try simp only [Bool.and_eq_true, Bool.or_eq_true, Bool.and_eq_false_iff, Bool.or_eq_false_iff, decide_eq_true_eq, decide_eq_false_iff_not, Bool.not_eq_true', Bool.not_eq_false', bne_iff_ne, ne_eq, beq_iff_eq, Bool.not_eq_true, Bool.not_eq_false, Int.not_lt, Int.not_le, gt_iff_lt, ge_iff_le, beq_eq_false_iff_ne, bne_eq_false_iff_eq] at c15
        -- l16: Value.int .i64 (-1 : Int) = Value.int .i64 (szR (l.length + szRows l) n)
        show Value.int .i64 (-1 : Int) = Value.int .i64 (szR (l.length + szRows l) n)
        refine vint ?_; try rw [hw] at *; grind [szR]
      · -- c15f: (decide ((szR (szRow [.int (plOf (l.getD k [])).h, .bool (plOf (l.getD k [])).pt.x.neg, .sl (plOf (l.getD k [])).pt.x.num, .sl (plOf (l.getD k [])).pt.x.den, .bool (plOf (l.getD k [])).pt.y.neg, .sl (plOf (l.getD k [])).pt.y.num, .sl (plOf (l.getD k [])).pt.y.den]) m) < (0 : Int))) = false
        replace c15 : (decide ((szR (szRow [.int (plOf (l.getD k [])).h, .bool (plOf (l.getD k [])).pt.x.neg, .sl (plOf (l.getD k [])).pt.x.num, .sl (plOf (l.getD k [])).pt.x.den, .bool (plOf (l.getD k [])).pt.y.neg, .sl (plOf (l.getD k [])).pt.y.num, .sl (plOf (l.getD k [])).pt.y.den]) m) < (0 : Int))) = false := c15
        try simp only [Bool.and_eq_true, Bool.or_eq_true, Bool.and_eq_false_iff, Bool.or_eq_false_iff, decide_eq_true_eq, decide_eq_false_iff_not, Bool.not_eq_true', Bool.not_eq_false', bne_iff_ne, ne_eq, beq_iff_eq, Bool.not_eq_true, Bool.not_eq_false, Int.not_lt, Int.not_le, gt_iff_lt, ge_iff_le, beq_eq_false_iff_ne, bne_eq_false_iff_eq] at c15
        -- n17
        refine ⟨(k + 1, szR (szRow [.int ((plOf (l.getD k [])).h), .bool ((plOf (l.getD k [])).pt.x.neg), .sl ((plOf (l.getD k [])).pt.x.num), .sl ((plOf (l.getD k [])).pt.x.den), .bool ((plOf (l.getD k [])).pt.y.neg), .sl ((plOf (l.getD k [])).pt.y.num), .sl ((plOf (l.getD k [])).pt.y.den)]) m), by
          first | omega | (rw [hw] at c1; simp [szRows]; omega) | (unfold szR at *; grind), by
          first | omega | (simp; omega), ?_⟩
        refine ⟨?_, ?_⟩
        · -- e20: Value.int .i64 (0 : Int) = Value.int .i64 (0 : Int)
          show Value.int .i64 (0 : Int) = Value.int .i64 (0 : Int)
          first | rfl | exact vint (wrap64 (by omega) (by omega))
        refine ⟨?_, ?_⟩
        · -- e21: Value.int .i64 (IntKind.i64.wrap ((k : Int) + (1 : Int))) = Value.int .i64 ((k + 1) : Int)
          show Value.int .i64 (IntKind.i64.wrap ((k : Int) + (1 : Int))) = Value.int .i64 ((k + 1) : Int)
          first | rfl | exact vint (wrap64 (by omega) (by omega))
        refine ⟨?_, ?_⟩
        · -- e22: Value.int .i64 (szR (szRow [.int (plOf (l.getD k [])).h, .bool (plOf (l.getD k [])).pt.x.neg, .sl (plOf (l.getD k [])).pt.x.num, .sl (plOf (l.getD k [])).pt.x.den, .bool (plOf (l.getD k [])).pt.y.neg, .sl (plOf (l.getD k [])).pt.y.num, .sl (plOf (l.getD k [])).pt.y.den]) m) = Value.int .i64 (szR (szRow [.int ((plOf (l.getD k [])).h), .bool ((plOf (l.getD k [])).pt.x.neg), .sl ((plOf (l.getD k []))
          show Value.int .i64 (szR (szRow [.int (plOf (l.getD k [])).h, .bool (plOf (l.getD k [])).pt.x.neg, .sl (plOf (l.getD k [])).pt.x.num, .sl (plOf (l.getD k [])).pt.x.den, .bool (plOf (l.getD k [])).pt.y.neg, .sl (plOf (l.getD k [])).pt.y.num, .sl (plOf (l.getD k [])).pt.y.den]) m) = Value.int .i64 (szR (szRow [.int ((plOf (l.getD k [])).h), .bool ((plOf (l.getD k [])).pt.x.neg), .sl ((plOf (l.getD k [])).pt.x.num), .sl ((plOf (l.getD k [])).pt.x.den), .bool ((plOf (l.getD k [])).pt.y.neg), .sl ((plOf (l.getD k [])).pt.y.num), .sl ((plOf (l.getD k [])).pt.y.den)]) m)
          first | rfl | exact vint (wrap64 (by omega) (by omega))
        -- e23: l = l
        show l = l
        first | rfl | exact vint (wrap64 (by omega) (by omega))
    · -- c9f: (decide ((k : Int) < ((l.length : Nat) : Int))) = false
      replace c9 : (decide ((k : Int) < ((l.length : Nat) : Int))) = false := c9
      try simp only [Bool.and_eq_true, Bool.or_eq_true, Bool.and_eq_false_iff, Bool.or_eq_false_iff, decide_eq_true_eq, decide_eq_false_iff_not, Bool.not_eq_true', Bool.not_eq_false', bne_iff_ne, ne_eq, beq_iff_eq, Bool.not_eq_true, Bool.not_eq_false, Int.not_lt, Int.not_le, gt_iff_lt, ge_iff_le, beq_eq_false_iff_ne, bne_eq_false_iff_eq] at c9
      obtain rfl : k = l.length := by omega
      rw [List.take_length] at hki3
      -- l24: Value.int .i64 m = Value.int .i64 (szR (l.length + szRows l) n)
      show Value.int .i64 m = Value.int .i64 (szR (l.length + szRows l) n)
      refine vint ?_; try rw [hw] at *; grind [szR]
def eqPlacement_con : Con := { ι := PlD, pre := fun i => True, args := fun i => [.agg [.im (.int .i64 i.h), .im (.bool i.pt.x.neg), .sl 3 [.int] i.pt.x.num, .sl 3 [.int] i.pt.x.den, .im (.bool i.pt.y.neg), .sl 3 [.int] i.pt.y.num, .sl 3 [.int] i.pt.y.den], .agg [.im (.int .i64 i.h), .im (.bool i.pt.x.neg), .sl 3 [.int] i.pt.x.num, .sl 3 [.int] i.pt.x.den, .im (.bool i.pt.y.neg), .sl 3 [.int] i.pt.y.num, .sl 3 [.int] i.pt.y.den]], res := fun i => ⟨false, [none], [.im (Value.bool true)]⟩ }
theorem eqPlacement_ok : eqPlacement_con.Ok Try.prog 26 := eqA_ok [.int, .bool, .sl 3 [.int], .sl 3 [.int], .bool, .sl 3 [.int], .sl 3 [.int]] ⟨_, Try.func26, by decide, rfl⟩ (fun _ => rfl) (fun _ => rfl) (fun ds vs us w => eqPlacement_c ds vs us w)
def toPlacement_con : Con := { ι := PlD, pre := fun i => szRow [.int i.h, .bool i.pt.x.neg, .sl i.pt.x.num, .sl i.pt.x.den, .bool i.pt.y.neg, .sl i.pt.y.num, .sl i.pt.y.den] ≤ 1048576, args := fun i => [.agg [.im (.int .i64 i.h), .im (.bool i.pt.x.neg), .sl 3 [.int] i.pt.x.num, .sl 3 [.int] i.pt.x.den, .im (.bool i.pt.y.neg), .sl 3 [.int] i.pt.y.num, .sl 3 [.int] i.pt.y.den]], res := fun i => ⟨false, [some 7], [.im (Value.int .i64 i.h), .im (Value.bool i.pt.x.neg), .own 3 [.int] i.pt.x.num, .own 3 [.int] i.pt.x.den, .im (Value.bool i.pt.y.neg), .own 3 [.int] i.pt.y.num, .own 3 [.int] i.pt.y.den]⟩ }
theorem toPlacement_ok : toPlacement_con.Ok Try.prog 23 := toA_ok (out := fun p => [.im (.int .i64 p.h), .im (.bool p.pt.x.neg), .sl 3 [.int] p.pt.x.num, .sl 3 [.int] p.pt.x.den, .im (.bool p.pt.y.neg), .sl 3 [.int] p.pt.y.num, .sl 3 [.int] p.pt.y.den]) [.int, .bool, .sl 3 [.int], .sl 3 [.int], .bool, .sl 3 [.int], .sl 3 [.int]] ⟨_, Try.func23, by decide, rfl⟩ (fun _ => rfl) (fun _ => rfl) (fun _ => rfl) (fun _ => rfl) (fun _ => rfl) (fun _ => rfl) (fun _ => rfl) (fun _ => Nat.le_of_ble_eq_true rfl) (fun _ h => h) (fun ds h vs w => toPlacement_c ds h vs w)
def markPlacement_con : Con := { ι := PlD × Int, pre := fun i => 0 ≤ i.2 ∧ i.2 + (cntV [.int i.1.h, .bool i.1.pt.x.neg, .sl i.1.pt.x.num, .sl i.1.pt.x.den, .bool i.1.pt.y.neg, .sl i.1.pt.y.num, .sl i.1.pt.y.den] : Int) ≤ 4611686018427387904, args := fun i => [.agg [.im (.int .i64 i.1.h), .im (.bool i.1.pt.x.neg), .sl 3 [.int] i.1.pt.x.num, .sl 3 [.int] i.1.pt.x.den, .im (.bool i.1.pt.y.neg), .sl 3 [.int] i.1.pt.y.num, .sl 3 [.int] i.1.pt.y.den], .one (.im (.int .i64 i.2))], mu := [2, 3, 5, 6], new := fun i => [mkRows (i.2 + ((0 : Nat) : Int) + ((0 : Nat) : Int)) i.1.pt.x.num, mkRows (i.2 + ((0 : Nat) : Int) + ((0 : Nat) : Int) + (cntRows i.1.pt.x.num : Int)) i.1.pt.x.den, mkRows (i.2 + ((0 : Nat) : Int) + ((0 : Nat) : Int) + (cntRows i.1.pt.x.num : Int) + (cntRows i.1.pt.x.den : Int) + ((0 : Nat) : Int)) i.1.pt.y.num, mkRows (i.2 + ((0 : Nat) : Int) + ((0 : Nat) : Int) + (cntRows i.1.pt.x.num : Int) + (cntRows i.1.pt.x.den : Int) + ((0 : Nat) : Int) + (cntRows i.1.pt.y.num : Int)) i.1.pt.y.den], res := fun i => ⟨false, [none], [.im (Value.int .i64 (i.2 + (cntV [.int i.1.h, .bool i.1.pt.x.neg, .sl i.1.pt.x.num, .sl i.1.pt.x.den, .bool i.1.pt.y.neg, .sl i.1.pt.y.num, .sl i.1.pt.y.den] : Int)))]⟩ }
theorem markPlacement_ok : markPlacement_con.Ok Try.prog 28 := markA_ok [.int, .bool, .sl 3 [.int], .sl 3 [.int], .bool, .sl 3 [.int], .sl 3 [.int]] ⟨_, Try.func28, by decide, rfl⟩ (fun _ => rfl) (fun _ => rfl) rfl (fun _ => rfl) (fun _ => rfl) (fun _ => rfl) (fun _ h => h) (fun ds k h0 h1 bs hn vs w => markPlacement_c ds k h0 h1 bs hn vs w)
def heldPlacement_con : Con := { ι := PlD × Int, pre := fun i => 0 ≤ i.2 ∧ i.2 + (cntV [.int i.1.h, .bool i.1.pt.x.neg, .sl i.1.pt.x.num, .sl i.1.pt.x.den, .bool i.1.pt.y.neg, .sl i.1.pt.y.num, .sl i.1.pt.y.den] : Int) ≤ 4611686018427387904 ∧ hasRow [.int, .bool, .sl 3 [.int], .sl 3 [.int], .bool, .sl 3 [.int], .sl 3 [.int]] [.int i.1.h, .bool i.1.pt.x.neg, .sl i.1.pt.x.num, .sl i.1.pt.x.den, .bool i.1.pt.y.neg, .sl i.1.pt.y.num, .sl i.1.pt.y.den], args := fun i => [.agg [.im (.int .i64 i.1.h), .im (.bool i.1.pt.x.neg), .sl 3 [.int] (mkRows (i.2 + ((0 : Nat) : Int) + ((0 : Nat) : Int)) i.1.pt.x.num), .sl 3 [.int] (mkRows (i.2 + ((0 : Nat) : Int) + ((0 : Nat) : Int) + (cntRows i.1.pt.x.num : Int)) i.1.pt.x.den), .im (.bool i.1.pt.y.neg), .sl 3 [.int] (mkRows (i.2 + ((0 : Nat) : Int) + ((0 : Nat) : Int) + (cntRows i.1.pt.x.num : Int) + (cntRows i.1.pt.x.den : Int) + ((0 : Nat) : Int)) i.1.pt.y.num), .sl 3 [.int] (mkRows (i.2 + ((0 : Nat) : Int) + ((0 : Nat) : Int) + (cntRows i.1.pt.x.num : Int) + (cntRows i.1.pt.x.den : Int) + ((0 : Nat) : Int) + (cntRows i.1.pt.y.num : Int)) i.1.pt.y.den)], .one (.im (.int .i64 i.2))], res := fun i => ⟨false, [none], [.im (Value.int .i64 (i.2 + (cntV [.int i.1.h, .bool i.1.pt.x.neg, .sl i.1.pt.x.num, .sl i.1.pt.x.den, .bool i.1.pt.y.neg, .sl i.1.pt.y.num, .sl i.1.pt.y.den] : Int)))]⟩ }
theorem heldPlacement_ok : heldPlacement_con.Ok Try.prog 30 := heldA_ok [.int, .bool, .sl 3 [.int], .sl 3 [.int], .bool, .sl 3 [.int], .sl 3 [.int]] ⟨_, Try.func30, by decide, rfl⟩ (fun _ => rfl) (fun _ => rfl) (fun i => [.int i.1.h, .bool i.1.pt.x.neg, .sl i.1.pt.x.num, .sl i.1.pt.x.den, .bool i.1.pt.y.neg, .sl i.1.pt.y.num, .sl i.1.pt.y.den]) (fun _ => rfl) (fun _ => rfl) (fun _ h => h) (fun ds k h0 h1 w0 vs0 hr vs w h => heldPlacement_c ds k h0 h1 w0 vs0 hr vs w h)
def eqStepS_con : Con := { ι := (List (List Dat)), pre := fun i => True, args := fun i => [.one (.sl 104 [.int, .bool, .sl 3 [.int], .sl 3 [.int], .bool, .sl 3 [.int], .sl 3 [.int]] i), .one (.sl 104 [.int, .bool, .sl 3 [.int], .sl 3 [.int], .bool, .sl 3 [.int], .sl 3 [.int]] i)], res := fun i => ⟨false, [none], [.im (Value.bool true)]⟩ }
theorem eqStepS_ok : eqStepS_con.Ok Try.prog 27 := eqO_ok (.sl 104 [.int, .bool, .sl 3 [.int], .sl 3 [.int], .bool, .sl 3 [.int], .sl 3 [.int]]) ⟨_, Try.func27, by decide, rfl⟩ (fun _ => rfl) (fun _ => rfl) (fun d v u w h h' => by obtain ⟨l, _, _, rfl, _⟩ := Rd.sl_inv h; exact eqStepS_c l v u w h h')
def toStepS_con : Con := { ι := (List (List Dat)), pre := fun i => i.length + szRows i ≤ 1048576, args := fun i => [.one (.sl 102 [.int, .bool, .sl 3 [.int], .sl 3 [.int], .bool, .sl 3 [.int], .sl 3 [.int]] i)], res := fun i => ⟨false, [none], [.own 104 [.int, .bool, .sl 3 [.int], .sl 3 [.int], .bool, .sl 3 [.int], .sl 3 [.int]] i]⟩ }
theorem toStepS_ok : toStepS_con.Ok Try.prog 24 := toO_ok 104 [.int, .bool, .sl 3 [.int], .sl 3 [.int], .bool, .sl 3 [.int], .sl 3 [.int]] ⟨_, Try.func24, by decide, rfl⟩ (fun _ => rfl) (fun _ => rfl) (fun _ => rfl) (fun _ h => h) (fun ls h v w => toStepS_c ls h v w)
def markStepS_con : Con := { ι := (List (List Dat)) × Int, pre := fun i => 0 ≤ i.2 ∧ i.2 + (cntRows i.1 : Int) ≤ 4611686018427387904, args := fun i => [.one (.sl 104 [.int, .bool, .sl 3 [.int], .sl 3 [.int], .bool, .sl 3 [.int], .sl 3 [.int]] i.1), .one (.im (.int .i64 i.2))], mu := [0], new := fun i => [mkRows i.2 i.1], res := fun i => ⟨false, [none], [.im (Value.int .i64 (i.2 + (cntRows i.1 : Int)))]⟩ }
theorem markStepS_ok : markStepS_con.Ok Try.prog 29 := markO_ok 104 [.int, .bool, .sl 3 [.int], .sl 3 [.int], .bool, .sl 3 [.int], .sl 3 [.int]] ⟨_, Try.func29, by decide, rfl⟩ (fun _ => rfl) (fun _ h => h) (fun ls k h0 h1 bs hn v w => markStepS_c ls k h0 h1 bs hn v w)
def heldStepS_con : Con := { ι := (List (List Dat)) × Int, pre := fun i => 0 ≤ i.2 ∧ i.2 + (cntRows i.1 : Int) ≤ 4611686018427387904 ∧ Dat.has (.sl 104 [.int, .bool, .sl 3 [.int], .sl 3 [.int], .bool, .sl 3 [.int], .sl 3 [.int]]) (.sl i.1), args := fun i => [.one (.sl 104 [.int, .bool, .sl 3 [.int], .sl 3 [.int], .bool, .sl 3 [.int], .sl 3 [.int]] (mkRows i.2 i.1)), .one (.im (.int .i64 i.2))], res := fun i => ⟨false, [none], [.im (Value.int .i64 (i.2 + (cntRows i.1 : Int)))]⟩ }
theorem heldStepS_ok : heldStepS_con.Ok Try.prog 40 := heldO_ok (.sl 104 [.int, .bool, .sl 3 [.int], .sl 3 [.int], .bool, .sl 3 [.int], .sl 3 [.int]]) ⟨_, Try.func40, by decide, rfl⟩ (fun _ => rfl) (fun _ => rfl) (fun i => i.1) (fun _ => rfl) (fun _ => rfl) (fun _ h => h) (fun ls k h0 h1 w0 v0 hr v w h => heldStepS_c ls k h0 h1 w0 v0 hr v w h)
end Go.Proofs.Ytemgpfojmdncjaa
