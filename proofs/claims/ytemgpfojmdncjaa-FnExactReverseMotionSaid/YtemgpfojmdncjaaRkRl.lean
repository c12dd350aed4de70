/-
  The law ReverseMotion, walked.
-/
import Derived.Test.YtemgpfojmdncjaaRkR
import Derived.Test.YtemgpfojmdncjaaRkL4
namespace Go.Proofs.Ytemgpfojmdncjaa
set_option linter.unusedVariables false
set_option linter.unusedSimpArgs false
open Go.RowKit
def lawRev_con : Con := { ι := PlD × (List (List Dat)), pre := fun i => (∃ w v, RdRow w [.int, .bool, .sl 3 [.int], .sl 3 [.int], .bool, .sl 3 [.int], .sl 3 [.int]] i.1.row v) ∧ ∃ w v, Rd w (.sl 104 [.int, .bool, .sl 3 [.int], .sl 3 [.int], .bool, .sl 3 [.int], .sl 3 [.int]]) (.sl i.2) v, args := fun i => [.agg [.im (.int .i64 i.1.h), .im (.bool i.1.pt.x.neg), .sl 3 [.int] i.1.pt.x.num, .sl 3 [.int] i.1.pt.x.den, .im (.bool i.1.pt.y.neg), .sl 3 [.int] i.1.pt.y.num, .sl 3 [.int] i.1.pt.y.den], .one (.sl 102 [.int, .bool, .sl 3 [.int], .sl 3 [.int], .bool, .sl 3 [.int], .sl 3 [.int]] i.2)], res := fun i => ⟨false, [none], [.im (Value.bool true)]⟩ }
set_option maxRecDepth 100000 in
set_option maxHeartbeats 4000000 in
theorem lawRev_ok : lawRev_con.Ok Try.prog 8 := by
  refine fn_ok (X := ⟨tt, [(20, szPlacement_con), (21, szStepS_con), (23, toPlacement_con), (24, toStepS_con), (38, sReverseMotion_con), (39, iReverseMotion_con), (27, eqStepS_con), (26, eqPlacement_con), (28, markPlacement_con), (29, markStepS_con), (40, heldStepS_con)], [], 92⟩) mixed tt_ok (CTok.cons szPlacement_ok (CTok.cons szStepS_ok (CTok.cons toPlacement_ok (CTok.cons toStepS_ok (CTok.cons sReverseMotion_ok (CTok.cons iReverseMotion_ok (CTok.cons eqStepS_ok (CTok.cons eqPlacement_ok (CTok.cons markPlacement_ok (CTok.cons markStepS_ok (CTok.cons heldStepS_ok (CTok.nil _)))))))))))) Try.func8 (by decide) rfl rfl rfl (fun _ => Nat.le_of_ble_eq_true rfl) (fun _ => Nat.le_of_ble_eq_true rfl) (fun _ => []) ?_
  rintro ⟨p, l⟩ hpre
  have hpre : (∃ w v, RdRow w [.int, .bool, .sl 3 [.int], .sl 3 [.int], .bool, .sl 3 [.int], .sl 3 [.int]] p.row v) ∧ ∃ w v, Rd w (.sl 104 [.int, .bool, .sl 3 [.int], .sl 3 [.int], .bool, .sl 3 [.int], .sl 3 [.int]]) (.sl l) v := hpre
  refine by_nf (q := ∃ i1 : PlD × Int, [DA.agg [DC.im (Value.int .i64 p.h), DC.im (Value.bool p.pt.x.neg), DC.sl 3 [.int] p.pt.x.num, DC.sl 3 [.int] p.pt.x.den, DC.im (Value.bool p.pt.y.neg), DC.sl 3 [.int] p.pt.y.num, DC.sl 3 [.int] p.pt.y.den], DA.one (DC.im (Value.int .i64 (1048576 : Int)))] = szPlacement_con.args i1 ∧ szPlacement_con.pre i1 ∧ (((decide ((szR (szRow [.int i1.1.h, .bool i1.1.pt.x.neg, .sl i1.1.pt.x.num, .sl i1.1.pt.x.den, .bool i1.1.pt.y.neg, .sl i1.1.pt.y.num, .sl i1.1.pt.y.den]) i1.2) < (0 : Int))) = true → ((Value.bool true = Value.bool true))) ∧ ((decide ((szR (szRow [.int i1.1.h, .bool i1.1.pt.x.neg, .sl i1.1.pt.x.num, .sl i1.1.pt.x.den, .bool i1.1.pt.y.neg, .sl i1.1.pt.y.num, .sl i1.1.pt.y.den]) i1.2) < (0 : Int))) = false → (∃ i2 : (List (List Dat)) × Int, [DA.one (DC.sl 102 [.int, .bool, .sl 3 [.int], .sl 3 [.int], .bool, .sl 3 [.int], .sl 3 [.int]] l), DA.one (DC.im (Value.int .i64 (szR (szRow [.int i1.1.h, .bool i1.1.pt.x.neg, .sl i1.1.pt.x.num, .sl i1.1.pt.x.den, .bool i1.1.pt.y.neg, .sl i1.1.pt.y.num, .sl i1.1.pt.y.den]) i1.2)))] = szStepS_con.args i2 ∧ szStepS_con.pre i2 ∧ (((decide ((szR (i2.1.length + szRows i2.1) i2.2) < (0 : Int))) = true → ((Value.bool true = Value.bool true))) ∧ ((decide ((szR (i2.1.length + szRows i2.1) i2.2) < (0 : Int))) = false → (∃ i3 : PlD, [DA.agg [DC.im (Value.int .i64 p.h), DC.im (Value.bool p.pt.x.neg), DC.sl 3 [.int] p.pt.x.num, DC.sl 3 [.int] p.pt.x.den, DC.im (Value.bool p.pt.y.neg), DC.sl 3 [.int] p.pt.y.num, DC.sl 3 [.int] p.pt.y.den]] = toPlacement_con.args i3 ∧ toPlacement_con.pre i3 ∧ (∃ i4 : (List (List Dat)), [DA.one (DC.sl 102 [.int, .bool, .sl 3 [.int], .sl 3 [.int], .bool, .sl 3 [.int], .sl 3 [.int]] l)] = toStepS_con.args i4 ∧ toStepS_con.pre i4 ∧ (∃ i5 : PlD × (List (List Dat)), [DA.agg [DC.im (Value.int .i64 i3.h), DC.im (Value.bool i3.pt.x.neg), DC.sl 3 [.int] i3.pt.x.num, DC.sl 3 [.int] i3.pt.x.den, DC.im (Value.bool i3.pt.y.neg), DC.sl 3 [.int] i3.pt.y.num, DC.sl 3 [.int] i3.pt.y.den], DA.one (DC.sl 104 [.int, .bool, .sl 3 [.int], .sl 3 [.int], .bool, .sl 3 [.int], .sl 3 [.int]] i4)] = sReverseMotion_con.args i5 ∧ sReverseMotion_con.pre i5 ∧ (∃ i6 : PlD, [DA.agg [DC.im (Value.int .i64 p.h), DC.im (Value.bool p.pt.x.neg), DC.sl 3 [.int] p.pt.x.num, DC.sl 3 [.int] p.pt.x.den, DC.im (Value.bool p.pt.y.neg), DC.sl 3 [.int] p.pt.y.num, DC.sl 3 [.int] p.pt.y.den]] = toPlacement_con.args i6 ∧ toPlacement_con.pre i6 ∧ (∃ i7 : (List (List Dat)), [DA.one (DC.sl 102 [.int, .bool, .sl 3 [.int], .sl 3 [.int], .bool, .sl 3 [.int], .sl 3 [.int]] l)] = toStepS_con.args i7 ∧ toStepS_con.pre i7 ∧ (∃ i8 : PlD × (List (List Dat)), [DA.agg [DC.im (Value.int .i64 i6.h), DC.im (Value.bool i6.pt.x.neg), DC.sl 3 [.int] i6.pt.x.num, DC.sl 3 [.int] i6.pt.x.den, DC.im (Value.bool i6.pt.y.neg), DC.sl 3 [.int] i6.pt.y.num, DC.sl 3 [.int] i6.pt.y.den], DA.one (DC.sl 104 [.int, .bool, .sl 3 [.int], .sl 3 [.int], .bool, .sl 3 [.int], .sl 3 [.int]] i7)] = iReverseMotion_con.args i8 ∧ iReverseMotion_con.pre i8 ∧ (∃ i9 : (List (List Dat)), [DA.one (DC.sl 104 [.int, .bool, .sl 3 [.int], .sl 3 [.int], .bool, .sl 3 [.int], .sl 3 [.int]] (revL i8.1 i8.2 i8.2.length)), DA.one (DC.sl 104 [.int, .bool, .sl 3 [.int], .sl 3 [.int], .bool, .sl 3 [.int], .sl 3 [.int]] (revL i5.1 i5.2 i5.2.length))] = eqStepS_con.args i9 ∧ eqStepS_con.pre i9 ∧ (((!true) = true → ((Value.bool false = Value.bool true))) ∧ ((!true) = false → (∃ i10 : PlD, [DA.agg [DC.im (Value.int .i64 p.h), DC.im (Value.bool p.pt.x.neg), DC.sl 3 [.int] p.pt.x.num, DC.sl 3 [.int] p.pt.x.den, DC.im (Value.bool p.pt.y.neg), DC.sl 3 [.int] p.pt.y.num, DC.sl 3 [.int] p.pt.y.den]] = toPlacement_con.args i10 ∧ toPlacement_con.pre i10 ∧ (∃ i11 : PlD, [DA.agg [DC.im (Value.int .i64 i6.h), DC.im (Value.bool i6.pt.x.neg), DC.sl 3 [.int] i6.pt.x.num, DC.sl 3 [.int] i6.pt.x.den, DC.im (Value.bool i6.pt.y.neg), DC.sl 3 [.int] i6.pt.y.num, DC.sl 3 [.int] i6.pt.y.den], DA.agg [DC.im (Value.int .i64 i10.h), DC.im (Value.bool i10.pt.x.neg), DC.sl 3 [.int] i10.pt.x.num, DC.sl 3 [.int] i10.pt.x.den, DC.im (Value.bool i10.pt.y.neg), DC.sl 3 [.int] i10.pt.y.num, DC.sl 3 [.int] i10.pt.y.den]] = eqPlacement_con.args i11 ∧ eqPlacement_con.pre i11 ∧ (((!true) = true → ((Value.bool false = Value.bool true))) ∧ ((!true) = false → (∃ i12 : (List (List Dat)), [DA.one (DC.sl 102 [.int, .bool, .sl 3 [.int], .sl 3 [.int], .bool, .sl 3 [.int], .sl 3 [.int]] l)] = toStepS_con.args i12 ∧ toStepS_con.pre i12 ∧ (∃ i13 : (List (List Dat)), [DA.one (DC.sl 104 [.int, .bool, .sl 3 [.int], .sl 3 [.int], .bool, .sl 3 [.int], .sl 3 [.int]] i7), DA.one (DC.sl 104 [.int, .bool, .sl 3 [.int], .sl 3 [.int], .bool, .sl 3 [.int], .sl 3 [.int]] i12)] = eqStepS_con.args i13 ∧ eqStepS_con.pre i13 ∧ (((!true) = true → ((Value.bool false = Value.bool true))) ∧ ((!true) = false → (∃ i14 : PlD × Int, [DA.agg [DC.im (Value.int .i64 i6.h), DC.im (Value.bool i6.pt.x.neg), DC.sl 3 [.int] i6.pt.x.num, DC.sl 3 [.int] i6.pt.x.den, DC.im (Value.bool i6.pt.y.neg), DC.sl 3 [.int] i6.pt.y.num, DC.sl 3 [.int] i6.pt.y.den], DA.one (DC.im (Value.int .i64 (1 : Int)))] = markPlacement_con.args i14 ∧ markPlacement_con.pre i14 ∧ (∃ i15 : (List (List Dat)) × Int, [DA.one (DC.sl 104 [.int, .bool, .sl 3 [.int], .sl 3 [.int], .bool, .sl 3 [.int], .sl 3 [.int]] i7), DA.one (DC.im (Value.int .i64 (i14.2 + (cntV [.int i14.1.h, .bool i14.1.pt.x.neg, .sl i14.1.pt.x.num, .sl i14.1.pt.x.den, .bool i14.1.pt.y.neg, .sl i14.1.pt.y.num, .sl i14.1.pt.y.den] : Int))))] = markStepS_con.args i15 ∧ markStepS_con.pre i15 ∧ (((!(decide ((i15.2 + (cntRows i15.1 : Int)) < (0 : Int)))) = true → (∃ i16 : (List (List Dat)), [DA.one (DC.sl 104 [.int, .bool, .sl 3 [.int], .sl 3 [.int], .bool, .sl 3 [.int], .sl 3 [.int]] (revL i8.1 i8.2 i8.2.length)), DA.one (DC.sl 104 [.int, .bool, .sl 3 [.int], .sl 3 [.int], .bool, .sl 3 [.int], .sl 3 [.int]] (revL i5.1 i5.2 i5.2.length))] = eqStepS_con.args i16 ∧ eqStepS_con.pre i16 ∧ (((!true) = true → ((Value.bool false = Value.bool true))) ∧ ((!true) = false → (∃ i17 : (List (List Dat)) × Int, [DA.one (DC.sl 104 [.int, .bool, .sl 3 [.int], .sl 3 [.int], .bool, .sl 3 [.int], .sl 3 [.int]] (revL i8.1 i8.2 i8.2.length)), DA.one (DC.im (Value.int .i64 (1 : Int)))] = markStepS_con.args i17 ∧ markStepS_con.pre i17 ∧ (∃ i18 : (List (List Dat)) × Int, [DA.one (DC.sl 104 [.int, .bool, .sl 3 [.int], .sl 3 [.int], .bool, .sl 3 [.int], .sl 3 [.int]] (mkRows i17.2 i17.1)), DA.one (DC.im (Value.int .i64 (1 : Int)))] = heldStepS_con.args i18 ∧ heldStepS_con.pre i18 ∧ (((decide ((i18.2 + (cntRows i18.1 : Int)) < (0 : Int))) = true → ((Value.bool false = Value.bool true))) ∧ ((decide ((i18.2 + (cntRows i18.1 : Int)) < (0 : Int))) = false → ((((i18.2 + (cntRows i18.1 : Int)) != (i17.2 + (cntRows i17.1 : Int))) = true → ((Value.bool false = Value.bool true))) ∧ (((i18.2 + (cntRows i18.1 : Int)) != (i17.2 + (cntRows i17.1 : Int))) = false → (∃ i19 : PlD, [DA.agg [DC.im (Value.int .i64 p.h), DC.im (Value.bool p.pt.x.neg), DC.sl 3 [.int] p.pt.x.num, DC.sl 3 [.int] p.pt.x.den, DC.im (Value.bool p.pt.y.neg), DC.sl 3 [.int] p.pt.y.num, DC.sl 3 [.int] p.pt.y.den]] = toPlacement_con.args i19 ∧ toPlacement_con.pre i19 ∧ (∃ i20 : (List (List Dat)), [DA.one (DC.sl 102 [.int, .bool, .sl 3 [.int], .sl 3 [.int], .bool, .sl 3 [.int], .sl 3 [.int]] l)] = toStepS_con.args i20 ∧ toStepS_con.pre i20 ∧ (∃ i21 : PlD × (List (List Dat)), [DA.agg [DC.im (Value.int .i64 i19.h), DC.im (Value.bool i19.pt.x.neg), DC.sl 3 [.int] i19.pt.x.num, DC.sl 3 [.int] i19.pt.x.den, DC.im (Value.bool i19.pt.y.neg), DC.sl 3 [.int] i19.pt.y.num, DC.sl 3 [.int] i19.pt.y.den], DA.one (DC.sl 104 [.int, .bool, .sl 3 [.int], .sl 3 [.int], .bool, .sl 3 [.int], .sl 3 [.int]] i20)] = iReverseMotion_con.args i21 ∧ iReverseMotion_con.pre i21 ∧ (∃ i22 : (List (List Dat)), [DA.one (DC.sl 104 [.int, .bool, .sl 3 [.int], .sl 3 [.int], .bool, .sl 3 [.int], .sl 3 [.int]] (revL i21.1 i21.2 i21.2.length)), DA.one (DC.sl 104 [.int, .bool, .sl 3 [.int], .sl 3 [.int], .bool, .sl 3 [.int], .sl 3 [.int]] (revL i5.1 i5.2 i5.2.length))] = eqStepS_con.args i22 ∧ eqStepS_con.pre i22 ∧ (((!true) = true → ((Value.bool false = Value.bool true))) ∧ ((!true) = false → (∃ i23 : (List (List Dat)) × Int, [DA.one (DC.sl 104 [.int, .bool, .sl 3 [.int], .sl 3 [.int], .bool, .sl 3 [.int], .sl 3 [.int]] (mkRows i17.2 i17.1)), DA.one (DC.im (Value.int .i64 (1 : Int)))] = heldStepS_con.args i23 ∧ heldStepS_con.pre i23 ∧ (((decide ((i23.2 + (cntRows i23.1 : Int)) < (0 : Int))) = true → ((Value.bool false = Value.bool true))) ∧ ((decide ((i23.2 + (cntRows i23.1 : Int)) < (0 : Int))) = false → ((((i23.2 + (cntRows i23.1 : Int)) != (i17.2 + (cntRows i17.1 : Int))) = true → ((Value.bool false = Value.bool true))) ∧ (((i23.2 + (cntRows i23.1 : Int)) != (i17.2 + (cntRows i17.1 : Int))) = false → ((Value.bool true = Value.bool true))))))))))))))))))))))) ∧ ((!(decide ((i15.2 + (cntRows i15.1 : Int)) < (0 : Int)))) = false → ((Value.bool false = Value.bool true))))))))))))))))))))))))))))) (by kernel_rfl) ?_
  obtain ⟨⟨wp, vp, hp⟩, wl, vl, hl⟩ := hpre
  have hp1 := RdRow.has _ _ _ hp
  have hl1 := Rd.has _ _ _ hl
  -- w1: szPlacement [DA.agg [DC.im (Value.int .i64 p.h), DC.im (Value.bool p.pt.x.neg), DC.sl 3 [.int] p.pt.x.num, DC.sl 3 [.int] p.pt.x.den, DC.im (Value.bool p.pt.y.neg), DC.sl 3 [.int] p.pt.y.num, DC.sl 3 [.int] p.pt.y.den], DA.one (DC.im (Value.int .i64 (1048576 : Int)))]
  refine ⟨(p, (1048576 : Int)), by
    rfl, by
    show hasRow [.int, .bool, .sl 3 [.int], .sl 3 [.int], .bool, .sl 3 [.int], .sl 3 [.int]] [.int p.h, .bool p.pt.x.neg, .sl p.pt.x.num, .sl p.pt.x.den, .bool p.pt.y.neg, .sl p.pt.y.num, .sl p.pt.y.den] ∧ 0 ≤ (1048576 : Int) ∧ (1048576 : Int) ≤ 1048576
    first | trivial | exact ⟨hp1, by omega, by omega⟩ | exact gp.2 | exact hs | exact ⟨gp.ok, hst⟩ | exact ⟨hl1, c4, by have := z1.1; omega⟩ | exact ⟨by omega, by omega, hqh⟩ | (refine ⟨?_, ?_⟩ <;> omega), ?_⟩
  refine ⟨fun c4 => ?_, fun c4 => ?_⟩
  · -- c4t: (decide ((szR (szRow [.int p.h, .bool p.pt.x.neg, .sl p.pt.x.num, .sl p.pt.x.den, .bool p.pt.y.neg, .sl p.pt.y.num, .sl p.pt.y.den]) (1048576 : Int)) < (0 : Int))) = true
    replace c4 : (decide ((szR (szRow [.int p.h, .bool p.pt.x.neg, .sl p.pt.x.num, .sl p.pt.x.den, .bool p.pt.y.neg, .sl p.pt.y.num, .sl p.pt.y.den]) (1048576 : Int)) < (0 : Int))) = true := c4
    try simp only [Bool.and_eq_true, Bool.or_eq_true, Bool.and_eq_false_iff, Bool.or_eq_false_iff, decide_eq_true_eq, decide_eq_false_iff_not, Bool.not_eq_true', Bool.not_eq_false', bne_iff_ne, ne_eq, beq_iff_eq, Bool.not_eq_true, Bool.not_eq_false, Int.not_lt, Int.not_le, gt_iff_lt, ge_iff_le, beq_eq_false_iff_ne, bne_eq_false_iff_eq] at c4
    -- l5: Value.bool true = Value.bool true
    show Value.bool true = Value.bool true
    first | rfl | contradiction | (exfalso; omega)
  · -- c4f: (decide ((szR (szRow [.int p.h, .bool p.pt.x.neg, .sl p.pt.x.num, .sl p.pt.x.den, .bool p.pt.y.neg, .sl p.pt.y.num, .sl p.pt.y.den]) (1048576 : Int)) < (0 : Int))) = false
    replace c4 : (decide ((szR (szRow [.int p.h, .bool p.pt.x.neg, .sl p.pt.x.num, .sl p.pt.x.den, .bool p.pt.y.neg, .sl p.pt.y.num, .sl p.pt.y.den]) (1048576 : Int)) < (0 : Int))) = false := c4
    try simp only [Bool.and_eq_true, Bool.or_eq_true, Bool.and_eq_false_iff, Bool.or_eq_false_iff, decide_eq_true_eq, decide_eq_false_iff_not, Bool.not_eq_true', Bool.not_eq_false', bne_iff_ne, ne_eq, beq_iff_eq, Bool.not_eq_true, Bool.not_eq_false, Int.not_lt, Int.not_le, gt_iff_lt, ge_iff_le, beq_eq_false_iff_ne, bne_eq_false_iff_eq] at c4
    have z1 := szR_ge c4
    have gp : plGood 3 p := ⟨⟨wp, vp, hp⟩, Int.ofNat_le.1 z1.2⟩
    -- w6: szStepS [DA.one (DC.sl 102 [.int, .bool, .sl 3 [.int], .sl 3 [.int], .bool, .sl 3 [.int], .sl 3 [.int]] l), DA.one (DC.im (Value.int .i64 (szR (szRow [.int p.h, .bool p.pt.x.neg, .sl p.pt.x.num, .sl p.pt.x.den, .bool p.pt.y.neg, .sl p.pt.y.num, .sl p.pt.y.den]) (1048576 : Int))))]
    refine ⟨(l, (szR (szRow [.int p.h, .bool p.pt.x.neg, .sl p.pt.x.num, .sl p.pt.x.den, .bool p.pt.y.neg, .sl p.pt.y.num, .sl p.pt.y.den]) (1048576 : Int))), by
      rfl, by
      show Dat.has (.sl 104 [.int, .bool, .sl 3 [.int], .sl 3 [.int], .bool, .sl 3 [.int], .sl 3 [.int]]) (.sl l) ∧ 0 ≤ (szR (szRow [.int p.h, .bool p.pt.x.neg, .sl p.pt.x.num, .sl p.pt.x.den, .bool p.pt.y.neg, .sl p.pt.y.num, .sl p.pt.y.den]) (1048576 : Int)) ∧ (szR (szRow [.int p.h, .bool p.pt.x.neg, .sl p.pt.x.num, .sl p.pt.x.den, .bool p.pt.y.neg, .sl p.pt.y.num, .sl p.pt.y.den]) (1048576 : Int)) ≤ 1048576
      first | trivial | exact ⟨hp1, by omega, by omega⟩ | exact gp.2 | exact hs | exact ⟨gp.ok, hst⟩ | exact ⟨hl1, c4, by have := z1.1; omega⟩ | exact ⟨by omega, by omega, hqh⟩ | (refine ⟨?_, ?_⟩ <;> omega), ?_⟩
    refine ⟨fun c9 => ?_, fun c9 => ?_⟩
    · -- c9t: (decide ((szR (l.length + szRows l) (szR (szRow [.int p.h, .bool p.pt.x.neg, .sl p.pt.x.num, .sl p.pt.x.den, .bool p.pt.y.neg, .sl p.pt.y.num, .sl p.pt.y.den]) (1048576 : Int))) < (0 : Int))) = true
      replace c9 : (decide ((szR (l.length + szRows l) (szR (szRow [.int p.h, .bool p.pt.x.neg, .sl p.pt.x.num, .sl p.pt.x.den, .bool p.pt.y.neg, .sl p.pt.y.num, .sl p.pt.y.den]) (1048576 : Int))) < (0 : Int))) = true := c9
      try simp only [Bool.and_eq_true, Bool.or_eq_true, Bool.and_eq_false_iff, Bool.or_eq_false_iff, decide_eq_true_eq, decide_eq_false_iff_not, Bool.not_eq_true', Bool.not_eq_false', bne_iff_ne, ne_eq, beq_iff_eq, Bool.not_eq_true, Bool.not_eq_false, Int.not_lt, Int.not_le, gt_iff_lt, ge_iff_le, beq_eq_false_iff_ne, bne_eq_false_iff_eq] at c9
      -- l10: Value.bool true = Value.bool true
      show Value.bool true = Value.bool true
      first | rfl | contradiction | (exfalso; omega)
    · -- c9f: (decide ((szR (l.length + szRows l) (szR (szRow [.int p.h, .bool p.pt.x.neg, .sl p.pt.x.num, .sl p.pt.x.den, .bool p.pt.y.neg, .sl p.pt.y.num, .sl p.pt.y.den]) (1048576 : Int))) < (0 : Int))) = false
      replace c9 : (decide ((szR (l.length + szRows l) (szR (szRow [.int p.h, .bool p.pt.x.neg, .sl p.pt.x.num, .sl p.pt.x.den, .bool p.pt.y.neg, .sl p.pt.y.num, .sl p.pt.y.den]) (1048576 : Int))) < (0 : Int))) = false := c9
      try simp only [Bool.and_eq_true, Bool.or_eq_true, Bool.and_eq_false_iff, Bool.or_eq_false_iff, decide_eq_true_eq, decide_eq_false_iff_not, Bool.not_eq_true', Bool.not_eq_false', bne_iff_ne, ne_eq, beq_iff_eq, Bool.not_eq_true, Bool.not_eq_false, Int.not_lt, Int.not_le, gt_iff_lt, ge_iff_le, beq_eq_false_iff_ne, bne_eq_false_iff_eq] at c9
      have z2 := szR_ge c9
      have hs : l.length + szRows l ≤ 1048576 := by
        have := z2.2
        have := z1.1
        omega
      have hq := rev_good (e' := 104) gp hl hs
      have hqh := hq.1
      have hqc := hq.2
      clear hq
      have hst := stepsOk_of hl hs
      have hcl := cntRows_small hl1 hs (by simp [KRow, Ty.K])
      have hcp : (cntV [.int p.h, .bool p.pt.x.neg, .sl p.pt.x.num, .sl p.pt.x.den, .bool p.pt.y.neg, .sl p.pt.y.num, .sl p.pt.y.den] : Int) ≤ 2000000000 := gp.cnt
      -- w11: toPlacement [DA.agg [DC.im (Value.int .i64 p.h), DC.im (Value.bool p.pt.x.neg), DC.sl 3 [.int] p.pt.x.num, DC.sl 3 [.int] p.pt.x.den, DC.im (Value.bool p.pt.y.neg), DC.sl 3 [.int] p.pt.y.num, DC.sl 3 [.int] p.pt.y.den]]
      refine ⟨p, by
        rfl, by
        show szRow [.int p.h, .bool p.pt.x.neg, .sl p.pt.x.num, .sl p.pt.x.den, .bool p.pt.y.neg, .sl p.pt.y.num, .sl p.pt.y.den] ≤ 1048576
        first | trivial | exact ⟨hp1, by omega, by omega⟩ | exact gp.2 | exact hs | exact ⟨gp.ok, hst⟩ | exact ⟨hl1, c4, by have := z1.1; omega⟩ | exact ⟨by omega, by omega, hqh⟩ | (refine ⟨?_, ?_⟩ <;> omega), ?_⟩
      -- w14: toStepS [DA.one (DC.sl 102 [.int, .bool, .sl 3 [.int], .sl 3 [.int], .bool, .sl 3 [.int], .sl 3 [.int]] l)]
      refine ⟨l, by
        rfl, by
        show l.length + szRows l ≤ 1048576
        first | trivial | exact ⟨hp1, by omega, by omega⟩ | exact gp.2 | exact hs | exact ⟨gp.ok, hst⟩ | exact ⟨hl1, c4, by have := z1.1; omega⟩ | exact ⟨by omega, by omega, hqh⟩ | (refine ⟨?_, ?_⟩ <;> omega), ?_⟩
      -- w17: sReverseMotion [DA.agg [DC.im (Value.int .i64 p.h), DC.im (Value.bool p.pt.x.neg), DC.sl 3 [.int] p.pt.x.num, DC.sl 3 [.int] p.pt.x.den, DC.im (Value.bool p.pt.y.neg), DC.sl 3 [.int] p.pt.y.num, DC.sl 3 [.int] p.pt.y.den], DA.one (DC.sl 104 [.int, .bool, .sl 3 [.int], .sl 3 [.int], .bool, .sl 3 [.int], .sl 3 [.int
      refine ⟨(p, l), by
        rfl, by
        show p.ok ∧ stepsOk l
        first | trivial | exact ⟨hp1, by omega, by omega⟩ | exact gp.2 | exact hs | exact ⟨gp.ok, hst⟩ | exact ⟨hl1, c4, by have := z1.1; omega⟩ | exact ⟨by omega, by omega, hqh⟩ | (refine ⟨?_, ?_⟩ <;> omega), ?_⟩
      -- w20: toPlacement [DA.agg [DC.im (Value.int .i64 p.h), DC.im (Value.bool p.pt.x.neg), DC.sl 3 [.int] p.pt.x.num, DC.sl 3 [.int] p.pt.x.den, DC.im (Value.bool p.pt.y.neg), DC.sl 3 [.int] p.pt.y.num, DC.sl 3 [.int] p.pt.y.den]]
      refine ⟨p, by
        rfl, by
        show szRow [.int p.h, .bool p.pt.x.neg, .sl p.pt.x.num, .sl p.pt.x.den, .bool p.pt.y.neg, .sl p.pt.y.num, .sl p.pt.y.den] ≤ 1048576
        first | trivial | exact ⟨hp1, by omega, by omega⟩ | exact gp.2 | exact hs | exact ⟨gp.ok, hst⟩ | exact ⟨hl1, c4, by have := z1.1; omega⟩ | exact ⟨by omega, by omega, hqh⟩ | (refine ⟨?_, ?_⟩ <;> omega), ?_⟩
      -- w23: toStepS [DA.one (DC.sl 102 [.int, .bool, .sl 3 [.int], .sl 3 [.int], .bool, .sl 3 [.int], .sl 3 [.int]] l)]
      refine ⟨l, by
        rfl, by
        show l.length + szRows l ≤ 1048576
        first | trivial | exact ⟨hp1, by omega, by omega⟩ | exact gp.2 | exact hs | exact ⟨gp.ok, hst⟩ | exact ⟨hl1, c4, by have := z1.1; omega⟩ | exact ⟨by omega, by omega, hqh⟩ | (refine ⟨?_, ?_⟩ <;> omega), ?_⟩
      -- w26: iReverseMotion [DA.agg [DC.im (Value.int .i64 p.h), DC.im (Value.bool p.pt.x.neg), DC.sl 3 [.int] p.pt.x.num, DC.sl 3 [.int] p.pt.x.den, DC.im (Value.bool p.pt.y.neg), DC.sl 3 [.int] p.pt.y.num, DC.sl 3 [.int] p.pt.y.den], DA.one (DC.sl 104 [.int, .bool, .sl 3 [.int], .sl 3 [.int], .bool, .sl 3 [.int], .sl 3 [.int
      refine ⟨(p, l), by
        rfl, by
        show p.ok ∧ stepsOk l
        first | trivial | exact ⟨hp1, by omega, by omega⟩ | exact gp.2 | exact hs | exact ⟨gp.ok, hst⟩ | exact ⟨hl1, c4, by have := z1.1; omega⟩ | exact ⟨by omega, by omega, hqh⟩ | (refine ⟨?_, ?_⟩ <;> omega), ?_⟩
      -- w29: eqStepS [DA.one (DC.sl 104 [.int, .bool, .sl 3 [.int], .sl 3 [.int], .bool, .sl 3 [.int], .sl 3 [.int]] (revL p l l.length)), DA.one (DC.sl 104 [.int, .bool, .sl 3 [.int], .sl 3 [.int], .bool, .sl 3 [.int], .sl 3 [.int]] (revL p l l.length))]
      refine ⟨(revL p l l.length), by
        rfl, by
        first | trivial | exact ⟨hp1, by omega, by omega⟩ | exact gp.2 | exact hs | exact ⟨gp.ok, hst⟩ | exact ⟨hl1, c4, by have := z1.1; omega⟩ | exact ⟨by omega, by omega, hqh⟩ | (refine ⟨?_, ?_⟩ <;> omega), ?_⟩
      refine ⟨fun c32 => ?_, fun c32 => ?_⟩
      · -- c32t: (!true) = true
        replace c32 : (!true) = true := c32
        try simp only [Bool.and_eq_true, Bool.or_eq_true, Bool.and_eq_false_iff, Bool.or_eq_false_iff, decide_eq_true_eq, decide_eq_false_iff_not, Bool.not_eq_true', Bool.not_eq_false', bne_iff_ne, ne_eq, beq_iff_eq, Bool.not_eq_true, Bool.not_eq_false, Int.not_lt, Int.not_le, gt_iff_lt, ge_iff_le, beq_eq_false_iff_ne, bne_eq_false_iff_eq] at c32
        -- l33: Value.bool false = Value.bool true
        show Value.bool false = Value.bool true
        first | rfl | contradiction | (exfalso; omega)
      · -- c32f: (!true) = false
        replace c32 : (!true) = false := c32
        try simp only [Bool.and_eq_true, Bool.or_eq_true, Bool.and_eq_false_iff, Bool.or_eq_false_iff, decide_eq_true_eq, decide_eq_false_iff_not, Bool.not_eq_true', Bool.not_eq_false', bne_iff_ne, ne_eq, beq_iff_eq, Bool.not_eq_true, Bool.not_eq_false, Int.not_lt, Int.not_le, gt_iff_lt, ge_iff_le, beq_eq_false_iff_ne, bne_eq_false_iff_eq] at c32
        -- w34: toPlacement [DA.agg [DC.im (Value.int .i64 p.h), DC.im (Value.bool p.pt.x.neg), DC.sl 3 [.int] p.pt.x.num, DC.sl 3 [.int] p.pt.x.den, DC.im (Value.bool p.pt.y.neg), DC.sl 3 [.int] p.pt.y.num, DC.sl 3 [.int] p.pt.y.den]]
        refine ⟨p, by
          rfl, by
          show szRow [.int p.h, .bool p.pt.x.neg, .sl p.pt.x.num, .sl p.pt.x.den, .bool p.pt.y.neg, .sl p.pt.y.num, .sl p.pt.y.den] ≤ 1048576
          first | trivial | exact ⟨hp1, by omega, by omega⟩ | exact gp.2 | exact hs | exact ⟨gp.ok, hst⟩ | exact ⟨hl1, c4, by have := z1.1; omega⟩ | exact ⟨by omega, by omega, hqh⟩ | (refine ⟨?_, ?_⟩ <;> omega), ?_⟩
        -- w37: eqPlacement [DA.agg [DC.im (Value.int .i64 p.h), DC.im (Value.bool p.pt.x.neg), DC.sl 3 [.int] p.pt.x.num, DC.sl 3 [.int] p.pt.x.den, DC.im (Value.bool p.pt.y.neg), DC.sl 3 [.int] p.pt.y.num, DC.sl 3 [.int] p.pt.y.den], DA.agg [DC.im (Value.int .i64 p.h), DC.im (Value.bool p.pt.x.neg), DC.sl 3 [.int] p.pt.x.num
        refine ⟨p, by
          rfl, by
          first | trivial | exact ⟨hp1, by omega, by omega⟩ | exact gp.2 | exact hs | exact ⟨gp.ok, hst⟩ | exact ⟨hl1, c4, by have := z1.1; omega⟩ | exact ⟨by omega, by omega, hqh⟩ | (refine ⟨?_, ?_⟩ <;> omega), ?_⟩
        refine ⟨fun c40 => ?_, fun c40 => ?_⟩
        · -- c40t: (!true) = true
          replace c40 : (!true) = true := c40
          try simp only [Bool.and_eq_true, Bool.or_eq_true, Bool.and_eq_false_iff, Bool.or_eq_false_iff, decide_eq_true_eq, decide_eq_false_iff_not, Bool.not_eq_true', Bool.not_eq_false', bne_iff_ne, ne_eq, beq_iff_eq, Bool.not_eq_true, Bool.not_eq_false, Int.not_lt, Int.not_le, gt_iff_lt, ge_iff_le, beq_eq_false_iff_ne, bne_eq_false_iff_eq] at c40
          -- l41: Value.bool false = Value.bool true
          show Value.bool false = Value.bool true
          first | rfl | contradiction | (exfalso; omega)
        · -- c40f: (!true) = false
          replace c40 : (!true) = false := c40
          try simp only [Bool.and_eq_true, Bool.or_eq_true, Bool.and_eq_false_iff, Bool.or_eq_false_iff, decide_eq_true_eq, decide_eq_false_iff_not, Bool.not_eq_true', Bool.not_eq_false', bne_iff_ne, ne_eq, beq_iff_eq, Bool.not_eq_true, Bool.not_eq_false, Int.not_lt, Int.not_le, gt_iff_lt, ge_iff_le, beq_eq_false_iff_ne, bne_eq_false_iff_eq] at c40
          -- w42: toStepS [DA.one (DC.sl 102 [.int, .bool, .sl 3 [.int], .sl 3 [.int], .bool, .sl 3 [.int], .sl 3 [.int]] l)]
          refine ⟨l, by
            rfl, by
            show l.length + szRows l ≤ 1048576
            first | trivial | exact ⟨hp1, by omega, by omega⟩ | exact gp.2 | exact hs | exact ⟨gp.ok, hst⟩ | exact ⟨hl1, c4, by have := z1.1; omega⟩ | exact ⟨by omega, by omega, hqh⟩ | (refine ⟨?_, ?_⟩ <;> omega), ?_⟩
          -- w45: eqStepS [DA.one (DC.sl 104 [.int, .bool, .sl 3 [.int], .sl 3 [.int], .bool, .sl 3 [.int], .sl 3 [.int]] l), DA.one (DC.sl 104 [.int, .bool, .sl 3 [.int], .sl 3 [.int], .bool, .sl 3 [.int], .sl 3 [.int]] l)]
          refine ⟨l, by
            rfl, by
            first | trivial | exact ⟨hp1, by omega, by omega⟩ | exact gp.2 | exact hs | exact ⟨gp.ok, hst⟩ | exact ⟨hl1, c4, by have := z1.1; omega⟩ | exact ⟨by omega, by omega, hqh⟩ | (refine ⟨?_, ?_⟩ <;> omega), ?_⟩
          refine ⟨fun c48 => ?_, fun c48 => ?_⟩
          · -- c48t: (!true) = true
            replace c48 : (!true) = true := c48
            try simp only [Bool.and_eq_true, Bool.or_eq_true, Bool.and_eq_false_iff, Bool.or_eq_false_iff, decide_eq_true_eq, decide_eq_false_iff_not, Bool.not_eq_true', Bool.not_eq_false', bne_iff_ne, ne_eq, beq_iff_eq, Bool.not_eq_true, Bool.not_eq_false, Int.not_lt, Int.not_le, gt_iff_lt, ge_iff_le, beq_eq_false_iff_ne, bne_eq_false_iff_eq] at c48
            -- l49: Value.bool false = Value.bool true
            show Value.bool false = Value.bool true
            first | rfl | contradiction | (exfalso; omega)
          · -- c48f: (!true) = false
            replace c48 : (!true) = false := c48
            try simp only [Bool.and_eq_true, Bool.or_eq_true, Bool.and_eq_false_iff, Bool.or_eq_false_iff, decide_eq_true_eq, decide_eq_false_iff_not, Bool.not_eq_true', Bool.not_eq_false', bne_iff_ne, ne_eq, beq_iff_eq, Bool.not_eq_true, Bool.not_eq_false, Int.not_lt, Int.not_le, gt_iff_lt, ge_iff_le, beq_eq_false_iff_ne, bne_eq_false_iff_eq] at c48
            -- w50: markPlacement [DA.agg [DC.im (Value.int .i64 p.h), DC.im (Value.bool p.pt.x.neg), DC.sl 3 [.int] p.pt.x.num, DC.sl 3 [.int] p.pt.x.den, DC.im (Value.bool p.pt.y.neg), DC.sl 3 [.int] p.pt.y.num, DC.sl 3 [.int] p.pt.y.den], DA.one (DC.im (Value.int .i64 (1 : Int)))]
            refine ⟨(p, (1 : Int)), by
              rfl, by
              show 0 ≤ (1 : Int) ∧ (1 : Int) + (cntV [.int p.h, .bool p.pt.x.neg, .sl p.pt.x.num, .sl p.pt.x.den, .bool p.pt.y.neg, .sl p.pt.y.num, .sl p.pt.y.den] : Int) ≤ 4611686018427387904
              first | trivial | exact ⟨hp1, by omega, by omega⟩ | exact gp.2 | exact hs | exact ⟨gp.ok, hst⟩ | exact ⟨hl1, c4, by have := z1.1; omega⟩ | exact ⟨by omega, by omega, hqh⟩ | (refine ⟨?_, ?_⟩ <;> omega), ?_⟩
            -- w53: markStepS [DA.one (DC.sl 104 [.int, .bool, .sl 3 [.int], .sl 3 [.int], .bool, .sl 3 [.int], .sl 3 [.int]] l), DA.one (DC.im (Value.int .i64 ((1 : Int) + (cntV [.int p.h, .bool p.pt.x.neg, .sl p.pt.x.num, .sl p.pt.x.den, .bool p.pt.y.neg, .sl p.pt.y.num, .sl p.pt.y.den] : Int))))]
            refine ⟨(l, ((1 : Int) + (cntV [.int p.h, .bool p.pt.x.neg, .sl p.pt.x.num, .sl p.pt.x.den, .bool p.pt.y.neg, .sl p.pt.y.num, .sl p.pt.y.den] : Int))), by
              rfl, by
              show 0 ≤ ((1 : Int) + (cntV [.int p.h, .bool p.pt.x.neg, .sl p.pt.x.num, .sl p.pt.x.den, .bool p.pt.y.neg, .sl p.pt.y.num, .sl p.pt.y.den] : Int)) ∧ ((1 : Int) + (cntV [.int p.h, .bool p.pt.x.neg, .sl p.pt.x.num, .sl p.pt.x.den, .bool p.pt.y.neg, .sl p.pt.y.num, .sl p.pt.y.den] : Int)) + (cntRows l : Int) ≤ 4611686018427387904
              first | trivial | exact ⟨hp1, by omega, by omega⟩ | exact gp.2 | exact hs | exact ⟨gp.ok, hst⟩ | exact ⟨hl1, c4, by have := z1.1; omega⟩ | exact ⟨by omega, by omega, hqh⟩ | (refine ⟨?_, ?_⟩ <;> omega), ?_⟩
            refine ⟨fun c56 => ?_, fun c56 => ?_⟩
            · -- c56t: (!(decide ((((1 : Int) + (cntV [.int p.h, .bool p.pt.x.neg, .sl p.pt.x.num, .sl p.pt.x.den, .bool p.pt.y.neg, .sl p.pt.y.num, .sl p.pt.y.den] : Int)) + (cntRows l : Int)) < (0 : Int)))) = true
              replace c56 : (!(decide ((((1 : Int) + (cntV [.int p.h, .bool p.pt.x.neg, .sl p.pt.x.num, .sl p.pt.x.den, .bool p.pt.y.neg, .sl p.pt.y.num, .sl p.pt.y.den] : Int)) + (cntRows l : Int)) < (0 : Int)))) = true := c56
              try simp only [Bool.and_eq_true, Bool.or_eq_true, Bool.and_eq_false_iff, Bool.or_eq_false_iff, decide_eq_true_eq, decide_eq_false_iff_not, Bool.not_eq_true', Bool.not_eq_false', bne_iff_ne, ne_eq, beq_iff_eq, Bool.not_eq_true, Bool.not_eq_false, Int.not_lt, Int.not_le, gt_iff_lt, ge_iff_le, beq_eq_false_iff_ne, bne_eq_false_iff_eq] at c56
              -- w57: eqStepS [DA.one (DC.sl 104 [.int, .bool, .sl 3 [.int], .sl 3 [.int], .bool, .sl 3 [.int], .sl 3 [.int]] (revL p l l.length)), DA.one (DC.sl 104 [.int, .bool, .sl 3 [.int], .sl 3 [.int], .bool, .sl 3 [.int], .sl 3 [.int]] (revL p l l.length))]
              refine ⟨(revL p l l.length), by
                rfl, by
                first | trivial | exact ⟨hp1, by omega, by omega⟩ | exact gp.2 | exact hs | exact ⟨gp.ok, hst⟩ | exact ⟨hl1, c4, by have := z1.1; omega⟩ | exact ⟨by omega, by omega, hqh⟩ | (refine ⟨?_, ?_⟩ <;> omega), ?_⟩
              refine ⟨fun c60 => ?_, fun c60 => ?_⟩
              · -- c60t: (!true) = true
                replace c60 : (!true) = true := c60
                try simp only [Bool.and_eq_true, Bool.or_eq_true, Bool.and_eq_false_iff, Bool.or_eq_false_iff, decide_eq_true_eq, decide_eq_false_iff_not, Bool.not_eq_true', Bool.not_eq_false', bne_iff_ne, ne_eq, beq_iff_eq, Bool.not_eq_true, Bool.not_eq_false, Int.not_lt, Int.not_le, gt_iff_lt, ge_iff_le, beq_eq_false_iff_ne, bne_eq_false_iff_eq] at c60
                -- l61: Value.bool false = Value.bool true
                show Value.bool false = Value.bool true
                first | rfl | contradiction | (exfalso; omega)
              · -- c60f: (!true) = false
                replace c60 : (!true) = false := c60
                try simp only [Bool.and_eq_true, Bool.or_eq_true, Bool.and_eq_false_iff, Bool.or_eq_false_iff, decide_eq_true_eq, decide_eq_false_iff_not, Bool.not_eq_true', Bool.not_eq_false', bne_iff_ne, ne_eq, beq_iff_eq, Bool.not_eq_true, Bool.not_eq_false, Int.not_lt, Int.not_le, gt_iff_lt, ge_iff_le, beq_eq_false_iff_ne, bne_eq_false_iff_eq] at c60
                -- w62: markStepS [DA.one (DC.sl 104 [.int, .bool, .sl 3 [.int], .sl 3 [.int], .bool, .sl 3 [.int], .sl 3 [.int]] (revL p l l.length)), DA.one (DC.im (Value.int .i64 (1 : Int)))]
                refine ⟨((revL p l l.length), (1 : Int)), by
                  rfl, by
                  show 0 ≤ (1 : Int) ∧ (1 : Int) + (cntRows (revL p l l.length) : Int) ≤ 4611686018427387904
                  first | trivial | exact ⟨hp1, by omega, by omega⟩ | exact gp.2 | exact hs | exact ⟨gp.ok, hst⟩ | exact ⟨hl1, c4, by have := z1.1; omega⟩ | exact ⟨by omega, by omega, hqh⟩ | (refine ⟨?_, ?_⟩ <;> omega), ?_⟩
                -- w65: heldStepS [DA.one (DC.sl 104 [.int, .bool, .sl 3 [.int], .sl 3 [.int], .bool, .sl 3 [.int], .sl 3 [.int]] (mkRows (1 : Int) (revL p l l.length))), DA.one (DC.im (Value.int .i64 (1 : Int)))]
                refine ⟨((revL p l l.length), (1 : Int)), by
                  rfl, by
                  show 0 ≤ (1 : Int) ∧ (1 : Int) + (cntRows (revL p l l.length) : Int) ≤ 4611686018427387904 ∧ Dat.has (.sl 104 [.int, .bool, .sl 3 [.int], .sl 3 [.int], .bool, .sl 3 [.int], .sl 3 [.int]]) (.sl (revL p l l.length))
                  first | trivial | exact ⟨hp1, by omega, by omega⟩ | exact gp.2 | exact hs | exact ⟨gp.ok, hst⟩ | exact ⟨hl1, c4, by have := z1.1; omega⟩ | exact ⟨by omega, by omega, hqh⟩ | (refine ⟨?_, ?_⟩ <;> omega), ?_⟩
                refine ⟨fun c68 => ?_, fun c68 => ?_⟩
                · -- c68t: (decide (((1 : Int) + (cntRows (revL p l l.length) : Int)) < (0 : Int))) = true
                  replace c68 : (decide (((1 : Int) + (cntRows (revL p l l.length) : Int)) < (0 : Int))) = true := c68
                  try simp only [Bool.and_eq_true, Bool.or_eq_true, Bool.and_eq_false_iff, Bool.or_eq_false_iff, decide_eq_true_eq, decide_eq_false_iff_not, Bool.not_eq_true', Bool.not_eq_false', bne_iff_ne, ne_eq, beq_iff_eq, Bool.not_eq_true, Bool.not_eq_false, Int.not_lt, Int.not_le, gt_iff_lt, ge_iff_le, beq_eq_false_iff_ne, bne_eq_false_iff_eq] at c68
                  -- l69: Value.bool false = Value.bool true
                  show Value.bool false = Value.bool true
                  first | rfl | contradiction | (exfalso; omega)
                · -- c68f: (decide (((1 : Int) + (cntRows (revL p l l.length) : Int)) < (0 : Int))) = false
                  replace c68 : (decide (((1 : Int) + (cntRows (revL p l l.length) : Int)) < (0 : Int))) = false := c68
                  try simp only [Bool.and_eq_true, Bool.or_eq_true, Bool.and_eq_false_iff, Bool.or_eq_false_iff, decide_eq_true_eq, decide_eq_false_iff_not, Bool.not_eq_true', Bool.not_eq_false', bne_iff_ne, ne_eq, beq_iff_eq, Bool.not_eq_true, Bool.not_eq_false, Int.not_lt, Int.not_le, gt_iff_lt, ge_iff_le, beq_eq_false_iff_ne, bne_eq_false_iff_eq] at c68
                  refine ⟨fun c70 => ?_, fun c70 => ?_⟩
                  · -- c70t: (((1 : Int) + (cntRows (revL p l l.length) : Int)) != ((1 : Int) + (cntRows (revL p l l.length) : Int))) = true
                    replace c70 : (((1 : Int) + (cntRows (revL p l l.length) : Int)) != ((1 : Int) + (cntRows (revL p l l.length) : Int))) = true := c70
                    try simp only [Bool.and_eq_true, Bool.or_eq_true, Bool.and_eq_false_iff, Bool.or_eq_false_iff, decide_eq_true_eq, decide_eq_false_iff_not, Bool.not_eq_true', Bool.not_eq_false', bne_iff_ne, ne_eq, beq_iff_eq, Bool.not_eq_true, Bool.not_eq_false, Int.not_lt, Int.not_le, gt_iff_lt, ge_iff_le, beq_eq_false_iff_ne, bne_eq_false_iff_eq] at c70
                    -- l71: Value.bool false = Value.bool true
                    show Value.bool false = Value.bool true
                    first | rfl | contradiction | (exfalso; omega)
                  · -- c70f: (((1 : Int) + (cntRows (revL p l l.length) : Int)) != ((1 : Int) + (cntRows (revL p l l.length) : Int))) = false
                    replace c70 : (((1 : Int) + (cntRows (revL p l l.length) : Int)) != ((1 : Int) + (cntRows (revL p l l.length) : Int))) = false := c70
                    try simp only [Bool.and_eq_true, Bool.or_eq_true, Bool.and_eq_false_iff, Bool.or_eq_false_iff, decide_eq_true_eq, decide_eq_false_iff_not, Bool.not_eq_true', Bool.not_eq_false', bne_iff_ne, ne_eq, beq_iff_eq, Bool.not_eq_true, Bool.not_eq_false, Int.not_lt, Int.not_le, gt_iff_lt, ge_iff_le, beq_eq_false_iff_ne, bne_eq_false_iff_eq] at c70
                    -- w72: toPlacement [DA.agg [DC.im (Value.int .i64 p.h), DC.im (Value.bool p.pt.x.neg), DC.sl 3 [.int] p.pt.x.num, DC.sl 3 [.int] p.pt.x.den, DC.im (Value.bool p.pt.y.neg), DC.sl 3 [.int] p.pt.y.num, DC.sl 3 [.int] p.pt.y.den]]
                    refine ⟨p, by
                      rfl, by
                      show szRow [.int p.h, .bool p.pt.x.neg, .sl p.pt.x.num, .sl p.pt.x.den, .bool p.pt.y.neg, .sl p.pt.y.num, .sl p.pt.y.den] ≤ 1048576
                      first | trivial | exact ⟨hp1, by omega, by omega⟩ | exact gp.2 | exact hs | exact ⟨gp.ok, hst⟩ | exact ⟨hl1, c4, by have := z1.1; omega⟩ | exact ⟨by omega, by omega, hqh⟩ | (refine ⟨?_, ?_⟩ <;> omega), ?_⟩
                    -- w75: toStepS [DA.one (DC.sl 102 [.int, .bool, .sl 3 [.int], .sl 3 [.int], .bool, .sl 3 [.int], .sl 3 [.int]] l)]
                    refine ⟨l, by
                      rfl, by
                      show l.length + szRows l ≤ 1048576
                      first | trivial | exact ⟨hp1, by omega, by omega⟩ | exact gp.2 | exact hs | exact ⟨gp.ok, hst⟩ | exact ⟨hl1, c4, by have := z1.1; omega⟩ | exact ⟨by omega, by omega, hqh⟩ | (refine ⟨?_, ?_⟩ <;> omega), ?_⟩
                    -- w78: iReverseMotion [DA.agg [DC.im (Value.int .i64 p.h), DC.im (Value.bool p.pt.x.neg), DC.sl 3 [.int] p.pt.x.num, DC.sl 3 [.int] p.pt.x.den, DC.im (Value.bool p.pt.y.neg), DC.sl 3 [.int] p.pt.y.num, DC.sl 3 [.int] p.pt.y.den], DA.one (DC.sl 104 [.int, .bool, .sl 3 [.int], .sl 3 [.int], .bool, .sl 3 [.int], .sl 3 [.int
                    refine ⟨(p, l), by
                      rfl, by
                      show p.ok ∧ stepsOk l
                      first | trivial | exact ⟨hp1, by omega, by omega⟩ | exact gp.2 | exact hs | exact ⟨gp.ok, hst⟩ | exact ⟨hl1, c4, by have := z1.1; omega⟩ | exact ⟨by omega, by omega, hqh⟩ | (refine ⟨?_, ?_⟩ <;> omega), ?_⟩
                    -- w81: eqStepS [DA.one (DC.sl 104 [.int, .bool, .sl 3 [.int], .sl 3 [.int], .bool, .sl 3 [.int], .sl 3 [.int]] (revL p l l.length)), DA.one (DC.sl 104 [.int, .bool, .sl 3 [.int], .sl 3 [.int], .bool, .sl 3 [.int], .sl 3 [.int]] (revL p l l.length))]
                    refine ⟨(revL p l l.length), by
                      rfl, by
                      first | trivial | exact ⟨hp1, by omega, by omega⟩ | exact gp.2 | exact hs | exact ⟨gp.ok, hst⟩ | exact ⟨hl1, c4, by have := z1.1; omega⟩ | exact ⟨by omega, by omega, hqh⟩ | (refine ⟨?_, ?_⟩ <;> omega), ?_⟩
                    refine ⟨fun c84 => ?_, fun c84 => ?_⟩
                    · -- c84t: (!true) = true
                      replace c84 : (!true) = true := c84
                      try simp only [Bool.and_eq_true, Bool.or_eq_true, Bool.and_eq_false_iff, Bool.or_eq_false_iff, decide_eq_true_eq, decide_eq_false_iff_not, Bool.not_eq_true', Bool.not_eq_false', bne_iff_ne, ne_eq, beq_iff_eq, Bool.not_eq_true, Bool.not_eq_false, Int.not_lt, Int.not_le, gt_iff_lt, ge_iff_le, beq_eq_false_iff_ne, bne_eq_false_iff_eq] at c84
                      -- l85: Value.bool false = Value.bool true
                      show Value.bool false = Value.bool true
                      first | rfl | contradiction | (exfalso; omega)
                    · -- c84f: (!true) = false
                      replace c84 : (!true) = false := c84
                      try simp only [Bool.and_eq_true, Bool.or_eq_true, Bool.and_eq_false_iff, Bool.or_eq_false_iff, decide_eq_true_eq, decide_eq_false_iff_not, Bool.not_eq_true', Bool.not_eq_false', bne_iff_ne, ne_eq, beq_iff_eq, Bool.not_eq_true, Bool.not_eq_false, Int.not_lt, Int.not_le, gt_iff_lt, ge_iff_le, beq_eq_false_iff_ne, bne_eq_false_iff_eq] at c84
                      -- w86: heldStepS [DA.one (DC.sl 104 [.int, .bool, .sl 3 [.int], .sl 3 [.int], .bool, .sl 3 [.int], .sl 3 [.int]] (mkRows (1 : Int) (revL p l l.length))), DA.one (DC.im (Value.int .i64 (1 : Int)))]
                      refine ⟨((revL p l l.length), (1 : Int)), by
                        rfl, by
                        show 0 ≤ (1 : Int) ∧ (1 : Int) + (cntRows (revL p l l.length) : Int) ≤ 4611686018427387904 ∧ Dat.has (.sl 104 [.int, .bool, .sl 3 [.int], .sl 3 [.int], .bool, .sl 3 [.int], .sl 3 [.int]]) (.sl (revL p l l.length))
                        first | trivial | exact ⟨hp1, by omega, by omega⟩ | exact gp.2 | exact hs | exact ⟨gp.ok, hst⟩ | exact ⟨hl1, c4, by have := z1.1; omega⟩ | exact ⟨by omega, by omega, hqh⟩ | (refine ⟨?_, ?_⟩ <;> omega), ?_⟩
                      refine ⟨fun c89 => ?_, fun c89 => ?_⟩
                      · -- c89t: (decide (((1 : Int) + (cntRows (revL p l l.length) : Int)) < (0 : Int))) = true
                        replace c89 : (decide (((1 : Int) + (cntRows (revL p l l.length) : Int)) < (0 : Int))) = true := c89
                        try simp only [Bool.and_eq_true, Bool.or_eq_true, Bool.and_eq_false_iff, Bool.or_eq_false_iff, decide_eq_true_eq, decide_eq_false_iff_not, Bool.not_eq_true', Bool.not_eq_false', bne_iff_ne, ne_eq, beq_iff_eq, Bool.not_eq_true, Bool.not_eq_false, Int.not_lt, Int.not_le, gt_iff_lt, ge_iff_le, beq_eq_false_iff_ne, bne_eq_false_iff_eq] at c89
                        -- l90: Value.bool false = Value.bool true
                        show Value.bool false = Value.bool true
                        first | rfl | contradiction | (exfalso; omega)
                      · -- c89f: (decide (((1 : Int) + (cntRows (revL p l l.length) : Int)) < (0 : Int))) = false
                        replace c89 : (decide (((1 : Int) + (cntRows (revL p l l.length) : Int)) < (0 : Int))) = false := c89
                        try simp only [Bool.and_eq_true, Bool.or_eq_true, Bool.and_eq_false_iff, Bool.or_eq_false_iff, decide_eq_true_eq, decide_eq_false_iff_not, Bool.not_eq_true', Bool.not_eq_false', bne_iff_ne, ne_eq, beq_iff_eq, Bool.not_eq_true, Bool.not_eq_false, Int.not_lt, Int.not_le, gt_iff_lt, ge_iff_le, beq_eq_false_iff_ne, bne_eq_false_iff_eq] at c89
                        refine ⟨fun c91 => ?_, fun c91 => ?_⟩
                        · -- c91t: (((1 : Int) + (cntRows (revL p l l.length) : Int)) != ((1 : Int) + (cntRows (revL p l l.length) : Int))) = true
                          replace c91 : (((1 : Int) + (cntRows (revL p l l.length) : Int)) != ((1 : Int) + (cntRows (revL p l l.length) : Int))) = true := c91
                          try simp only [Bool.and_eq_true, Bool.or_eq_true, Bool.and_eq_false_iff, Bool.or_eq_false_iff, decide_eq_true_eq, decide_eq_false_iff_not, Bool.not_eq_true', Bool.not_eq_false', bne_iff_ne, ne_eq, beq_iff_eq, Bool.not_eq_true, Bool.not_eq_false, Int.not_lt, Int.not_le, gt_iff_lt, ge_iff_le, beq_eq_false_iff_ne, bne_eq_false_iff_eq] at c91
                          -- l92: Value.bool false = Value.bool true
                          show Value.bool false = Value.bool true
                          first | rfl | contradiction | (exfalso; omega)
                        · -- c91f: (((1 : Int) + (cntRows (revL p l l.length) : Int)) != ((1 : Int) + (cntRows (revL p l l.length) : Int))) = false
                          replace c91 : (((1 : Int) + (cntRows (revL p l l.length) : Int)) != ((1 : Int) + (cntRows (revL p l l.length) : Int))) = false := c91
                          try simp only [Bool.and_eq_true, Bool.or_eq_true, Bool.and_eq_false_iff, Bool.or_eq_false_iff, decide_eq_true_eq, decide_eq_false_iff_not, Bool.not_eq_true', Bool.not_eq_false', bne_iff_ne, ne_eq, beq_iff_eq, Bool.not_eq_true, Bool.not_eq_false, Int.not_lt, Int.not_le, gt_iff_lt, ge_iff_le, beq_eq_false_iff_ne, bne_eq_false_iff_eq] at c91
                          -- l93: Value.bool true = Value.bool true
                          show Value.bool true = Value.bool true
                          first | rfl | contradiction | (exfalso; omega)
            · -- c56f: (!(decide ((((1 : Int) + (cntV [.int p.h, .bool p.pt.x.neg, .sl p.pt.x.num, .sl p.pt.x.den, .bool p.pt.y.neg, .sl p.pt.y.num, .sl p.pt.y.den] : Int)) + (cntRows l : Int)) < (0 : Int)))) = false
              replace c56 : (!(decide ((((1 : Int) + (cntV [.int p.h, .bool p.pt.x.neg, .sl p.pt.x.num, .sl p.pt.x.den, .bool p.pt.y.neg, .sl p.pt.y.num, .sl p.pt.y.den] : Int)) + (cntRows l : Int)) < (0 : Int)))) = false := c56
              try simp only [Bool.and_eq_true, Bool.or_eq_true, Bool.and_eq_false_iff, Bool.or_eq_false_iff, decide_eq_true_eq, decide_eq_false_iff_not, Bool.not_eq_true', Bool.not_eq_false', bne_iff_ne, ne_eq, beq_iff_eq, Bool.not_eq_true, Bool.not_eq_false, Int.not_lt, Int.not_le, gt_iff_lt, ge_iff_le, beq_eq_false_iff_ne, bne_eq_false_iff_eq] at c56
              -- l94: Value.bool false = Value.bool true
              show Value.bool false = Value.bool true
              first | rfl | contradiction | (exfalso; omega)
end Go.Proofs.Ytemgpfojmdncjaa
