/-
  The reference's ShiftObstacle.
-/
import Derived.Test.YtemgpfojmdncjaaRkM
import Derived.Test.YtemgpfojmdncjaaScL
namespace Go.Proofs.Ytemgpfojmdncjaa
set_option linter.unusedVariables false
set_option linter.unusedSimpArgs false
open Go.RowKit
def sShiftObstacle_con : Con := { ι := Scn × Int × Int × Int, pre := fun i => scnSz i.1, args := fun i => [.agg [.im (.int .i64 i.1.low.1), .im (.int .i64 i.1.low.2), .im (.int .i64 i.1.high.1), .im (.int .i64 i.1.high.2), .sl 31 [.int, .int] (vecsD i.1.robot), .sl 36 [.sl 31 [.int, .int]] (areasD i.1.obst), .sl 31 [.int, .int] (vecsD i.1.tables)], .one (.im (.int .i64 i.2.1)), .agg [.im (.int .i64 i.2.2.1), .im (.int .i64 i.2.2.2)]], res := fun i => ⟨true, [some 7, none], [.im (Value.int .i64 ((shOb i.1 i.2.1 i.2.2.1 i.2.2.2).low.1)), .im (Value.int .i64 ((shOb i.1 i.2.1 i.2.2.1 i.2.2.2).low.2)), .im (Value.int .i64 ((shOb i.1 i.2.1 i.2.2.1 i.2.2.2).high.1)), .im (Value.int .i64 ((shOb i.1 i.2.1 i.2.2.1 i.2.2.2).high.2)), .own 31 [.int, .int] (vecsD (shOb i.1 i.2.1 i.2.2.1 i.2.2.2).robot), .own 36 [.sl 31 [.int, .int]] (areasD (shOb i.1 i.2.1 i.2.2.1 i.2.2.2).obst), .own 31 [.int, .int] (vecsD (shOb i.1 i.2.1 i.2.2.1 i.2.2.2).tables), .im (Value.bool (shOk i.1 i.2.1 i.2.2.1 i.2.2.2))]⟩ }
set_option maxRecDepth 100000 in
theorem sShiftObstacle_ok : sShiftObstacle_con.Ok Try.prog 35 := by
  refine fn_ok (X := ⟨tt, [(75, l10Copy_con), (76, sValid_con), (52, l01In_con), (85, sMovePolygon_con)], [], 41⟩) mixed tt_ok (CTok.cons l10Copy_ok (CTok.cons sValid_ok (CTok.cons l01In_ok (CTok.cons sMovePolygon_ok (CTok.nil _))))) Try.func35 (by decide) rfl rfl rfl (fun _ => Nat.le_of_ble_eq_true rfl) (fun _ => Nat.le_of_ble_eq_true rfl) (fun _ => []) ?_
  rintro ⟨s, k, dx, dy⟩ hpre
  have hpre : scnSz s := hpre
  refine by_nf (q := ∃ i1 : Scn, [DA.agg [DC.im (Value.int .i64 s.low.1), DC.im (Value.int .i64 s.low.2), DC.im (Value.int .i64 s.high.1), DC.im (Value.int .i64 s.high.2), DC.sl 31 [.int, .int] (vecsD s.robot), DC.sl 36 [.sl 31 [.int, .int]] (areasD s.obst), DC.sl 31 [.int, .int] (vecsD s.tables)]] = l10Copy_con.args i1 ∧ l10Copy_con.pre i1 ∧ (∃ i2 : Scn, [DA.agg [DC.im (Value.int .i64 s.low.1), DC.im (Value.int .i64 s.low.2), DC.im (Value.int .i64 s.high.1), DC.im (Value.int .i64 s.high.2), DC.sl 31 [.int, .int] (vecsD s.robot), DC.sl 36 [.sl 31 [.int, .int]] (areasD s.obst), DC.sl 31 [.int, .int] (vecsD s.tables)]] = sValid_con.args i2 ∧ sValid_con.pre i2 ∧ (((!(!(validScn i2))) = true → (∃ i3 : Int × Int × Int, [DA.one (DC.im (Value.int .i64 k)), DA.one (DC.im (Value.int .i64 (0 : Int))), DA.one (DC.im (Value.int .i64 (IntKind.i64.wrap ((((areasD s.obst).length : Nat) : Int) - (1 : Int)))))] = l01In_con.args i3 ∧ l01In_con.pre i3 ∧ (((!(decide (i3.1 ≥ i3.2.1) && decide (i3.1 ≤ i3.2.2))) = true → ((Value.int .i64 i1.low.1 = Value.int .i64 ((shOb s k dx dy).low.1)) ∧ (Value.int .i64 i1.low.2 = Value.int .i64 ((shOb s k dx dy).low.2)) ∧ (Value.int .i64 i1.high.1 = Value.int .i64 ((shOb s k dx dy).high.1)) ∧ (Value.int .i64 i1.high.2 = Value.int .i64 ((shOb s k dx dy).high.2)) ∧ (vecsD i1.robot = vecsD (shOb s k dx dy).robot) ∧ (areasD i1.obst = areasD (shOb s k dx dy).obst) ∧ (vecsD i1.tables = vecsD (shOb s k dx dy).tables) ∧ (Value.bool false = Value.bool (shOk s k dx dy)))) ∧ ((!(decide (i3.1 ≥ i3.2.1) && decide (i3.1 ≤ i3.2.2))) = false → ((0 ≤ k ∧ k < ((areasD s.obst).length : Int)) ∧ (((k).toNat < (areasD s.obst).length) ∧ (∃ i4 : (List V2) × Int × Int, [DA.one (DC.sl 31 [.int, .int] (((((areasD s.obst).getD ((k).toNat) []).getD 0 (.int 0))).r)), DA.agg [DC.im (Value.int .i64 dx), DC.im (Value.int .i64 dy)]] = sMovePolygon_con.args i4 ∧ sMovePolygon_con.pre i4 ∧ ((0 ≤ k ∧ k < ((areasD i1.obst).length : Int)) ∧ (((k).toNat < (areasD i1.obst).length) ∧ (∃ i5 : Scn, [DA.agg [DC.im (Value.int .i64 i1.low.1), DC.im (Value.int .i64 i1.low.2), DC.im (Value.int .i64 i1.high.1), DC.im (Value.int .i64 i1.high.2), DC.sl 31 [.int, .int] (vecsD i1.robot), DC.sl 36 [.sl 31 [.int, .int]] ((areasD i1.obst).set ((k).toNat) (((areasD i1.obst).getD ((k).toNat) []).set 0 (Dat.sl (vecsD (mvPoly i4.1 i4.2.1 i4.2.2))))), DC.sl 31 [.int, .int] (vecsD i1.tables)]] = sValid_con.args i5 ∧ sValid_con.pre i5 ∧ (((!(validScn i5)) = true → (∃ i6 : Scn, [DA.agg [DC.im (Value.int .i64 s.low.1), DC.im (Value.int .i64 s.low.2), DC.im (Value.int .i64 s.high.1), DC.im (Value.int .i64 s.high.2), DC.sl 31 [.int, .int] (vecsD s.robot), DC.sl 36 [.sl 31 [.int, .int]] (areasD s.obst), DC.sl 31 [.int, .int] (vecsD s.tables)]] = l10Copy_con.args i6 ∧ l10Copy_con.pre i6 ∧ ((Value.int .i64 i6.low.1 = Value.int .i64 ((shOb s k dx dy).low.1)) ∧ (Value.int .i64 i6.low.2 = Value.int .i64 ((shOb s k dx dy).low.2)) ∧ (Value.int .i64 i6.high.1 = Value.int .i64 ((shOb s k dx dy).high.1)) ∧ (Value.int .i64 i6.high.2 = Value.int .i64 ((shOb s k dx dy).high.2)) ∧ (vecsD i6.robot = vecsD (shOb s k dx dy).robot) ∧ (areasD i6.obst = areasD (shOb s k dx dy).obst) ∧ (vecsD i6.tables = vecsD (shOb s k dx dy).tables) ∧ (Value.bool false = Value.bool (shOk s k dx dy))))) ∧ ((!(validScn i5)) = false → ((Value.int .i64 i1.low.1 = Value.int .i64 ((shOb s k dx dy).low.1)) ∧ (Value.int .i64 i1.low.2 = Value.int .i64 ((shOb s k dx dy).low.2)) ∧ (Value.int .i64 i1.high.1 = Value.int .i64 ((shOb s k dx dy).high.1)) ∧ (Value.int .i64 i1.high.2 = Value.int .i64 ((shOb s k dx dy).high.2)) ∧ (vecsD i1.robot = vecsD (shOb s k dx dy).robot) ∧ (((areasD i1.obst).set ((k).toNat) (((areasD i1.obst).getD ((k).toNat) []).set 0 (Dat.sl (vecsD (mvPoly i4.1 i4.2.1 i4.2.2))))) = areasD (shOb s k dx dy).obst) ∧ (vecsD i1.tables = vecsD (shOb s k dx dy).tables) ∧ (Value.bool true = Value.bool (shOk s k dx dy))))))))))))))) ∧ ((!(!(validScn i2))) = false → ((Value.int .i64 i1.low.1 = Value.int .i64 ((shOb s k dx dy).low.1)) ∧ (Value.int .i64 i1.low.2 = Value.int .i64 ((shOb s k dx dy).low.2)) ∧ (Value.int .i64 i1.high.1 = Value.int .i64 ((shOb s k dx dy).high.1)) ∧ (Value.int .i64 i1.high.2 = Value.int .i64 ((shOb s k dx dy).high.2)) ∧ (vecsD i1.robot = vecsD (shOb s k dx dy).robot) ∧ (areasD i1.obst = areasD (shOb s k dx dy).obst) ∧ (vecsD i1.tables = vecsD (shOb s k dx dy).tables) ∧ (Value.bool false = Value.bool (shOk s k dx dy))))))) (by kernel_rfl) ?_
  have hz := hpre
  obtain ⟨h1, h2, h3, h4⟩ := hpre
  have hla := areasD_length s.obst
  refine ⟨s, by
    rfl, by
    show scnSz s
    first | trivial | exact hz | exact valid_obst c7 (by omega), ?_⟩
  refine ⟨s, by
    rfl, by
    first | trivial | exact hz | exact valid_obst c7 (by omega), ?_⟩
  refine ⟨fun c7 => ?_, fun c7 => ?_⟩
  · skip
    replace c7 : (!(!(validScn s))) = true := c7
    try simp only [Bool.and_eq_true, Bool.or_eq_true, Bool.and_eq_false_iff, Bool.or_eq_false_iff, decide_eq_true_eq, decide_eq_false_iff_not, Bool.not_eq_true', Bool.not_eq_false', bne_iff_ne, ne_eq, beq_iff_eq, Bool.not_eq_true, Bool.not_eq_false, Int.not_lt, Int.not_le, gt_iff_lt, ge_iff_le, beq_eq_false_iff_ne, bne_eq_false_iff_eq] at c7
    have hw : IntKind.i64.wrap ((((areasD s.obst).length : Nat) : Int) - (1 : Int)) = (s.obst.length : Int) - 1 := by rw [areasD_length, wrap64 (by omega) (by omega)]
    refine ⟨(k, (0 : Int), (IntKind.i64.wrap ((((areasD s.obst).length : Nat) : Int) - (1 : Int)))), by
      rfl, by
      first | trivial | exact hz | exact valid_obst c7 (by omega), ?_⟩
    refine ⟨fun c11 => ?_, fun c11 => ?_⟩
    · skip
      replace c11 : (!(decide (k ≥ (0 : Int)) && decide (k ≤ (IntKind.i64.wrap ((((areasD s.obst).length : Nat) : Int) - (1 : Int)))))) = true := c11
      try simp only [Bool.and_eq_true, Bool.or_eq_true, Bool.and_eq_false_iff, Bool.or_eq_false_iff, decide_eq_true_eq, decide_eq_false_iff_not, Bool.not_eq_true', Bool.not_eq_false', bne_iff_ne, ne_eq, beq_iff_eq, Bool.not_eq_true, Bool.not_eq_false, Int.not_lt, Int.not_le, gt_iff_lt, ge_iff_le, beq_eq_false_iff_ne, bne_eq_false_iff_eq] at c11
      rw [hw] at c11
      have hs : shOk s k dx dy = false := shOk_no1 (hasOb_no (by omega))
      refine ⟨?_, ?_⟩
      · skip
        show Value.int .i64 s.low.1 = Value.int .i64 ((shOb s k dx dy).low.1)
        first | rfl | (rw [shOb_no hs]) | (rw [shOb_yes hs]; first | rfl | exact areasD_put (by omega) _) | (rw [hs])
      refine ⟨?_, ?_⟩
      · skip
        show Value.int .i64 s.low.2 = Value.int .i64 ((shOb s k dx dy).low.2)
        first | rfl | (rw [shOb_no hs]) | (rw [shOb_yes hs]; first | rfl | exact areasD_put (by omega) _) | (rw [hs])
      refine ⟨?_, ?_⟩
      · skip
        show Value.int .i64 s.high.1 = Value.int .i64 ((shOb s k dx dy).high.1)
        first | rfl | (rw [shOb_no hs]) | (rw [shOb_yes hs]; first | rfl | exact areasD_put (by omega) _) | (rw [hs])
      refine ⟨?_, ?_⟩
      · skip
        show Value.int .i64 s.high.2 = Value.int .i64 ((shOb s k dx dy).high.2)
        first | rfl | (rw [shOb_no hs]) | (rw [shOb_yes hs]; first | rfl | exact areasD_put (by omega) _) | (rw [hs])
      refine ⟨?_, ?_⟩
      · skip
        show vecsD s.robot = vecsD (shOb s k dx dy).robot
        first | rfl | (rw [shOb_no hs]) | (rw [shOb_yes hs]; first | rfl | exact areasD_put (by omega) _) | (rw [hs])
      refine ⟨?_, ?_⟩
      · skip
        show areasD s.obst = areasD (shOb s k dx dy).obst
        first | rfl | (rw [shOb_no hs]) | (rw [shOb_yes hs]; first | rfl | exact areasD_put (by omega) _) | (rw [hs])
      refine ⟨?_, ?_⟩
      · skip
        show vecsD s.tables = vecsD (shOb s k dx dy).tables
        first | rfl | (rw [shOb_no hs]) | (rw [shOb_yes hs]; first | rfl | exact areasD_put (by omega) _) | (rw [hs])
      show Value.bool false = Value.bool (shOk s k dx dy)
      first | rfl | (rw [shOb_no hs]) | (rw [shOb_yes hs]; first | rfl | exact areasD_put (by omega) _) | (rw [hs])
    · skip
      replace c11 : (!(decide (k ≥ (0 : Int)) && decide (k ≤ (IntKind.i64.wrap ((((areasD s.obst).length : Nat) : Int) - (1 : Int)))))) = false := c11
      try simp only [Bool.and_eq_true, Bool.or_eq_true, Bool.and_eq_false_iff, Bool.or_eq_false_iff, decide_eq_true_eq, decide_eq_false_iff_not, Bool.not_eq_true', Bool.not_eq_false', bne_iff_ne, ne_eq, beq_iff_eq, Bool.not_eq_true, Bool.not_eq_false, Int.not_lt, Int.not_le, gt_iff_lt, ge_iff_le, beq_eq_false_iff_ne, bne_eq_false_iff_eq] at c11
      rw [hw] at c11
      have hb : hasOb s k = true := hasOb_yes c7 (by omega) (by omega)
      have o20 : 0 ≤ k ∧ k < ((areasD s.obst).length : Int) := by
        first | rfl | omega | (simp only [areasD_length]; omega) | (simp [vecsD_length, areasD_length]; omega)
      refine ⟨o20, ?_⟩
      have o21 : (k).toNat < (areasD s.obst).length := by
        first | rfl | omega | (simp only [areasD_length]; omega) | (simp [vecsD_length, areasD_length]; omega)
      refine ⟨o21, ?_⟩
      refine ⟨(s.obst.getD k.toNat [], dx, dy), by
        exact congrArg (fun x => [DA.one (DC.sl 31 [.int, .int] x), DA.agg [.im (.int .i64 dx), .im (.int .i64 dy)]]) (areasD_at (by omega)), by
        show (s.obst.getD k.toNat []).length ≤ 1048576 ∧ (s.obst.getD k.toNat []).all isVec = true
        first | trivial | exact hz | exact valid_obst c7 (by omega), ?_⟩
      have o25 : 0 ≤ k ∧ k < ((areasD s.obst).length : Int) := by
        first | rfl | omega | (simp only [areasD_length]; omega) | (simp [vecsD_length, areasD_length]; omega)
      refine ⟨o25, ?_⟩
      have o26 : (k).toNat < (areasD s.obst).length := by
        first | rfl | omega | (simp only [areasD_length]; omega) | (simp [vecsD_length, areasD_length]; omega)
      refine ⟨o26, ?_⟩
      refine ⟨(mvOb s k.toNat dx dy), by
        exact congrArg (fun x => [DA.agg [.im (.int .i64 s.low.1), .im (.int .i64 s.low.2), .im (.int .i64 s.high.1), .im (.int .i64 s.high.2), .sl 31 [.int, .int] (vecsD s.robot), .sl 36 [.sl 31 [.int, .int]] x, .sl 31 [.int, .int] (vecsD s.tables)]]) (areasD_put (by omega) _), by
        first | trivial | exact hz | exact valid_obst c7 (by omega), ?_⟩
      refine ⟨fun c30 => ?_, fun c30 => ?_⟩
      · skip
        replace c30 : (!(validScn (mvOb s k.toNat dx dy))) = true := c30
        try simp only [Bool.and_eq_true, Bool.or_eq_true, Bool.and_eq_false_iff, Bool.or_eq_false_iff, decide_eq_true_eq, decide_eq_false_iff_not, Bool.not_eq_true', Bool.not_eq_false', bne_iff_ne, ne_eq, beq_iff_eq, Bool.not_eq_true, Bool.not_eq_false, Int.not_lt, Int.not_le, gt_iff_lt, ge_iff_le, beq_eq_false_iff_ne, bne_eq_false_iff_eq] at c30
        have hs : shOk s k dx dy = false := by unfold shOk; rw [c30]; simp
        refine ⟨s, by
          rfl, by
          show scnSz s
          first | trivial | exact hz | exact valid_obst c7 (by omega), ?_⟩
        refine ⟨?_, ?_⟩
        · skip
          show Value.int .i64 s.low.1 = Value.int .i64 ((shOb s k dx dy).low.1)
          first | rfl | (rw [shOb_no hs]) | (rw [shOb_yes hs]; first | rfl | exact areasD_put (by omega) _) | (rw [hs])
        refine ⟨?_, ?_⟩
        · skip
          show Value.int .i64 s.low.2 = Value.int .i64 ((shOb s k dx dy).low.2)
          first | rfl | (rw [shOb_no hs]) | (rw [shOb_yes hs]; first | rfl | exact areasD_put (by omega) _) | (rw [hs])
        refine ⟨?_, ?_⟩
        · skip
          show Value.int .i64 s.high.1 = Value.int .i64 ((shOb s k dx dy).high.1)
          first | rfl | (rw [shOb_no hs]) | (rw [shOb_yes hs]; first | rfl | exact areasD_put (by omega) _) | (rw [hs])
        refine ⟨?_, ?_⟩
        · skip
          show Value.int .i64 s.high.2 = Value.int .i64 ((shOb s k dx dy).high.2)
          first | rfl | (rw [shOb_no hs]) | (rw [shOb_yes hs]; first | rfl | exact areasD_put (by omega) _) | (rw [hs])
        refine ⟨?_, ?_⟩
        · skip
          show vecsD s.robot = vecsD (shOb s k dx dy).robot
          first | rfl | (rw [shOb_no hs]) | (rw [shOb_yes hs]; first | rfl | exact areasD_put (by omega) _) | (rw [hs])
        refine ⟨?_, ?_⟩
        · skip
          show areasD s.obst = areasD (shOb s k dx dy).obst
          first | rfl | (rw [shOb_no hs]) | (rw [shOb_yes hs]; first | rfl | exact areasD_put (by omega) _) | (rw [hs])
        refine ⟨?_, ?_⟩
        · skip
          show vecsD s.tables = vecsD (shOb s k dx dy).tables
          first | rfl | (rw [shOb_no hs]) | (rw [shOb_yes hs]; first | rfl | exact areasD_put (by omega) _) | (rw [hs])
        show Value.bool false = Value.bool (shOk s k dx dy)
        first | rfl | (rw [shOb_no hs]) | (rw [shOb_yes hs]; first | rfl | exact areasD_put (by omega) _) | (rw [hs])
      · skip
        replace c30 : (!(validScn (mvOb s k.toNat dx dy))) = false := c30
        try simp only [Bool.and_eq_true, Bool.or_eq_true, Bool.and_eq_false_iff, Bool.or_eq_false_iff, decide_eq_true_eq, decide_eq_false_iff_not, Bool.not_eq_true', Bool.not_eq_false', bne_iff_ne, ne_eq, beq_iff_eq, Bool.not_eq_true, Bool.not_eq_false, Int.not_lt, Int.not_le, gt_iff_lt, ge_iff_le, beq_eq_false_iff_ne, bne_eq_false_iff_eq] at c30
        have hs : shOk s k dx dy = true := by unfold shOk; rw [hb, c30]; rfl
        refine ⟨?_, ?_⟩
        · skip
          show Value.int .i64 s.low.1 = Value.int .i64 ((shOb s k dx dy).low.1)
          first | rfl | (rw [shOb_no hs]) | (rw [shOb_yes hs]; first | rfl | exact areasD_put (by omega) _) | (rw [hs])
        refine ⟨?_, ?_⟩
        · skip
          show Value.int .i64 s.low.2 = Value.int .i64 ((shOb s k dx dy).low.2)
          first | rfl | (rw [shOb_no hs]) | (rw [shOb_yes hs]; first | rfl | exact areasD_put (by omega) _) | (rw [hs])
        refine ⟨?_, ?_⟩
        · skip
          show Value.int .i64 s.high.1 = Value.int .i64 ((shOb s k dx dy).high.1)
          first | rfl | (rw [shOb_no hs]) | (rw [shOb_yes hs]; first | rfl | exact areasD_put (by omega) _) | (rw [hs])
        refine ⟨?_, ?_⟩
        · skip
          show Value.int .i64 s.high.2 = Value.int .i64 ((shOb s k dx dy).high.2)
          first | rfl | (rw [shOb_no hs]) | (rw [shOb_yes hs]; first | rfl | exact areasD_put (by omega) _) | (rw [hs])
        refine ⟨?_, ?_⟩
        · skip
          show vecsD s.robot = vecsD (shOb s k dx dy).robot
          first | rfl | (rw [shOb_no hs]) | (rw [shOb_yes hs]; first | rfl | exact areasD_put (by omega) _) | (rw [hs])
        refine ⟨?_, ?_⟩
        · skip
          show ((areasD s.obst).set ((k).toNat) (((areasD s.obst).getD ((k).toNat) []).set 0 (Dat.sl (vecsD (mvPoly (s.obst.getD k.toNat []) dx dy))))) = areasD (shOb s k dx dy).obst
          first | rfl | (rw [shOb_no hs]) | (rw [shOb_yes hs]; first | rfl | exact areasD_put (by omega) _) | (rw [hs])
        refine ⟨?_, ?_⟩
        · skip
          show vecsD s.tables = vecsD (shOb s k dx dy).tables
          first | rfl | (rw [shOb_no hs]) | (rw [shOb_yes hs]; first | rfl | exact areasD_put (by omega) _) | (rw [hs])
        show Value.bool true = Value.bool (shOk s k dx dy)
        first | rfl | (rw [shOb_no hs]) | (rw [shOb_yes hs]; first | rfl | exact areasD_put (by omega) _) | (rw [hs])
  · skip
    replace c7 : (!(!(validScn s))) = false := c7
    try simp only [Bool.and_eq_true, Bool.or_eq_true, Bool.and_eq_false_iff, Bool.or_eq_false_iff, decide_eq_true_eq, decide_eq_false_iff_not, Bool.not_eq_true', Bool.not_eq_false', bne_iff_ne, ne_eq, beq_iff_eq, Bool.not_eq_true, Bool.not_eq_false, Int.not_lt, Int.not_le, gt_iff_lt, ge_iff_le, beq_eq_false_iff_ne, bne_eq_false_iff_eq] at c7
    have hs : shOk s k dx dy = false := shOk_no1 (hasOb_bad (by simpa using c7))
    refine ⟨?_, ?_⟩
    · skip
      show Value.int .i64 s.low.1 = Value.int .i64 ((shOb s k dx dy).low.1)
      first | rfl | (rw [shOb_no hs]) | (rw [shOb_yes hs]; first | rfl | exact areasD_put (by omega) _) | (rw [hs])
    refine ⟨?_, ?_⟩
    · skip
      show Value.int .i64 s.low.2 = Value.int .i64 ((shOb s k dx dy).low.2)
      first | rfl | (rw [shOb_no hs]) | (rw [shOb_yes hs]; first | rfl | exact areasD_put (by omega) _) | (rw [hs])
    refine ⟨?_, ?_⟩
    · skip
      show Value.int .i64 s.high.1 = Value.int .i64 ((shOb s k dx dy).high.1)
      first | rfl | (rw [shOb_no hs]) | (rw [shOb_yes hs]; first | rfl | exact areasD_put (by omega) _) | (rw [hs])
    refine ⟨?_, ?_⟩
    · skip
      show Value.int .i64 s.high.2 = Value.int .i64 ((shOb s k dx dy).high.2)
      first | rfl | (rw [shOb_no hs]) | (rw [shOb_yes hs]; first | rfl | exact areasD_put (by omega) _) | (rw [hs])
    refine ⟨?_, ?_⟩
    · skip
      show vecsD s.robot = vecsD (shOb s k dx dy).robot
      first | rfl | (rw [shOb_no hs]) | (rw [shOb_yes hs]; first | rfl | exact areasD_put (by omega) _) | (rw [hs])
    refine ⟨?_, ?_⟩
    · skip
      show areasD s.obst = areasD (shOb s k dx dy).obst
      first | rfl | (rw [shOb_no hs]) | (rw [shOb_yes hs]; first | rfl | exact areasD_put (by omega) _) | (rw [hs])
    refine ⟨?_, ?_⟩
    · skip
      show vecsD s.tables = vecsD (shOb s k dx dy).tables
      first | rfl | (rw [shOb_no hs]) | (rw [shOb_yes hs]; first | rfl | exact areasD_put (by omega) _) | (rw [hs])
    show Value.bool false = Value.bool (shOk s k dx dy)
    first | rfl | (rw [shOb_no hs]) | (rw [shOb_yes hs]; first | rfl | exact areasD_put (by omega) _) | (rw [hs])
end Go.Proofs.Ytemgpfojmdncjaa
