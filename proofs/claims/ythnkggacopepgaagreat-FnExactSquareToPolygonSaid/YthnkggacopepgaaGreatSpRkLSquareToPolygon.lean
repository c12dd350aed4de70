import Derived.Test.YthnkggacopepgaaGreatSpRkL2
import Derived.Test.YthnkggacopepgaaGreatSpRkH
namespace Go.Proofs.YthnkggacopepgaaGreat
set_option linter.unusedVariables false
set_option linter.unusedSimpArgs false
open Go.RowKit
def lawSquareToPolygon_con : Con := { ι := (List V2) × PtD, pre := fun i => Dat.has (.sl 61 [.int, .int]) (.sl (vecsD i.1)) ∧ hasRow [.bool, .sl 3 [.int], .sl 3 [.int], .bool, .sl 3 [.int], .sl 3 [.int]] (ptD i.2), args := fun i => [.one (.sl 54 [.int, .int] (vecsD i.1)), .agg [.im (.bool i.2.x.neg), .sl 3 [.int] i.2.x.num, .sl 3 [.int] i.2.x.den, .im (.bool i.2.y.neg), .sl 3 [.int] i.2.y.num, .sl 3 [.int] i.2.y.den]], res := fun i => ⟨false, [none], [.im (Value.bool true)]⟩ }
set_option maxRecDepth 100000 in
set_option maxHeartbeats 4000000 in
theorem lawSquareToPolygon_ok : lawSquareToPolygon_con.Ok Tryz.prog 6 := by
  refine fn_ok (X := ⟨tt, [(14, szVecS_con), (15, szPoint_con), (17, toVecS_con), (18, toPoint_con), (26, sSqPoly_con), (27, iSqPoly_con), (28, eqRat_con), (20, eqVecS_con), (21, eqPoint_con), (29, markVecS_con), (30, markPoint_con), (31, markRat_con), (32, heldRat_con)], [], 92⟩) mixed tt_ok (CTok.cons szVecS_ok (CTok.cons szPoint_ok (CTok.cons toVecS_ok (CTok.cons toPoint_ok (CTok.cons sSqPoly_ok (CTok.cons iSqPoly_ok (CTok.cons eqRat_ok (CTok.cons eqVecS_ok (CTok.cons eqPoint_ok (CTok.cons markVecS_ok (CTok.cons markPoint_ok (CTok.cons markRat_ok (CTok.cons heldRat_ok (CTok.nil _)))))))))))))) Tryz.func6 (by decide) rfl rfl rfl (fun _ => Nat.le_of_ble_eq_true rfl) (fun _ => Nat.le_of_ble_eq_true rfl) (fun _ => []) ?_
  rintro ⟨l, p⟩ hpre
  have hpre : Dat.has (.sl 61 [.int, .int]) (.sl (vecsD l)) ∧ hasRow [.bool, .sl 3 [.int], .sl 3 [.int], .bool, .sl 3 [.int], .sl 3 [.int]] (ptD p) := hpre
  refine by_nf (q := ∃ i1 : (List (List Dat)) × Int, [DA.one (DC.sl 54 [.int, .int] (vecsD l)), DA.one (cI (1048576 : Int))] = szVecS_con.args i1 ∧ szVecS_con.pre i1 ∧ (((decide ((szR (i1.1.length + szRows i1.1) i1.2) < (0 : Int))) = true → ((Value.bool true = Value.bool true))) ∧ ((decide ((szR (i1.1.length + szRows i1.1) i1.2) < (0 : Int))) = false → (∃ i2 : PtD × Int, [DA.agg [cB p.x.neg, cS p.x.num, cS p.x.den, cB p.y.neg, cS p.y.num, cS p.y.den], DA.one (cI (szR (i1.1.length + szRows i1.1) i1.2))] = szPoint_con.args i2 ∧ szPoint_con.pre i2 ∧ (((decide ((szR (szRow [.bool i2.1.x.neg, .sl i2.1.x.num, .sl i2.1.x.den, .bool i2.1.y.neg, .sl i2.1.y.num, .sl i2.1.y.den]) i2.2) < (0 : Int))) = true → ((Value.bool true = Value.bool true))) ∧ ((decide ((szR (szRow [.bool i2.1.x.neg, .sl i2.1.x.num, .sl i2.1.x.den, .bool i2.1.y.neg, .sl i2.1.y.num, .sl i2.1.y.den]) i2.2) < (0 : Int))) = false → (∃ i3 : (List (List Dat)), [DA.one (DC.sl 54 [.int, .int] (vecsD l))] = toVecS_con.args i3 ∧ toVecS_con.pre i3 ∧ (∃ i4 : PtD, [DA.agg [cB p.x.neg, cS p.x.num, cS p.x.den, cB p.y.neg, cS p.y.num, cS p.y.den]] = toPoint_con.args i4 ∧ toPoint_con.pre i4 ∧ (∃ i5 : (List V2) × PtD, [DA.one (DC.sl 61 [.int, .int] i3), DA.agg [cB i4.x.neg, cS i4.x.num, cS i4.x.den, cB i4.y.neg, cS i4.y.num, cS i4.y.den]] = sSqPoly_con.args i5 ∧ sSqPoly_con.pre i5 ∧ (∃ i6 : (List (List Dat)), [DA.one (DC.sl 54 [.int, .int] (vecsD l))] = toVecS_con.args i6 ∧ toVecS_con.pre i6 ∧ (∃ i7 : PtD, [DA.agg [cB p.x.neg, cS p.x.num, cS p.x.den, cB p.y.neg, cS p.y.num, cS p.y.den]] = toPoint_con.args i7 ∧ toPoint_con.pre i7 ∧ (∃ i8 : (List V2) × PtD, [DA.one (DC.sl 61 [.int, .int] i6), DA.agg [cB i7.x.neg, cS i7.x.num, cS i7.x.den, cB i7.y.neg, cS i7.y.num, cS i7.y.den]] = iSqPoly_con.args i8 ∧ iSqPoly_con.pre i8 ∧ (∃ i9 : RatD, [dF (spR i8.1 i8.2), dF (spR i5.1 i5.2)] = eqRat_con.args i9 ∧ eqRat_con.pre i9 ∧ (((!true) = true → ((Value.bool false = Value.bool true))) ∧ ((!true) = false → (∃ i10 : (List (List Dat)), [DA.one (DC.sl 54 [.int, .int] (vecsD l))] = toVecS_con.args i10 ∧ toVecS_con.pre i10 ∧ (∃ i11 : (List (List Dat)), [DA.one (DC.sl 61 [.int, .int] i6), DA.one (DC.sl 61 [.int, .int] i10)] = eqVecS_con.args i11 ∧ eqVecS_con.pre i11 ∧ (((!true) = true → ((Value.bool false = Value.bool true))) ∧ ((!true) = false → (∃ i12 : PtD, [DA.agg [cB p.x.neg, cS p.x.num, cS p.x.den, cB p.y.neg, cS p.y.num, cS p.y.den]] = toPoint_con.args i12 ∧ toPoint_con.pre i12 ∧ (∃ i13 : PtD, [DA.agg [cB i7.x.neg, cS i7.x.num, cS i7.x.den, cB i7.y.neg, cS i7.y.num, cS i7.y.den], DA.agg [cB i12.x.neg, cS i12.x.num, cS i12.x.den, cB i12.y.neg, cS i12.y.num, cS i12.y.den]] = eqPoint_con.args i13 ∧ eqPoint_con.pre i13 ∧ (((!true) = true → ((Value.bool false = Value.bool true))) ∧ ((!true) = false → (∃ i14 : (List (List Dat)) × Int, [DA.one (DC.sl 61 [.int, .int] i6), DA.one (cI (1 : Int))] = markVecS_con.args i14 ∧ markVecS_con.pre i14 ∧ (∃ i15 : PtD × Int, [DA.agg [cB i7.x.neg, cS i7.x.num, cS i7.x.den, cB i7.y.neg, cS i7.y.num, cS i7.y.den], DA.one (cI (i14.2 + (cntRows i14.1 : Int)))] = markPoint_con.args i15 ∧ markPoint_con.pre i15 ∧ (((!(decide ((i15.2 + (cntV [.bool i15.1.x.neg, .sl i15.1.x.num, .sl i15.1.x.den, .bool i15.1.y.neg, .sl i15.1.y.num, .sl i15.1.y.den] : Int)) < (0 : Int)))) = true → (∃ i16 : RatD, [dF (spR i8.1 i8.2), dF (spR i5.1 i5.2)] = eqRat_con.args i16 ∧ eqRat_con.pre i16 ∧ (((!true) = true → ((Value.bool false = Value.bool true))) ∧ ((!true) = false → (∃ i17 : RatD × Int, [dF (spR i8.1 i8.2), DA.one (cI (1 : Int))] = markRat_con.args i17 ∧ markRat_con.pre i17 ∧ (∃ i18 : RatD × Int, [DA.agg [cB (decide ((spR i8.1 i8.2).z < 0)), cS (mkRows (i17.2 + ((0 : Nat) : Int)) i17.1.num), cS (mkRows (i17.2 + ((0 : Nat) : Int) + (cntRows i17.1.num : Int)) i17.1.den)], DA.one (cI (1 : Int))] = heldRat_con.args i18 ∧ heldRat_con.pre i18 ∧ (((decide ((i18.2 + (cntV [.bool i18.1.neg, .sl i18.1.num, .sl i18.1.den] : Int)) < (0 : Int))) = true → ((Value.bool false = Value.bool true))) ∧ ((decide ((i18.2 + (cntV [.bool i18.1.neg, .sl i18.1.num, .sl i18.1.den] : Int)) < (0 : Int))) = false → ((((i18.2 + (cntV [.bool i18.1.neg, .sl i18.1.num, .sl i18.1.den] : Int)) != (i17.2 + (cntV [.bool i17.1.neg, .sl i17.1.num, .sl i17.1.den] : Int))) = true → ((Value.bool false = Value.bool true))) ∧ (((i18.2 + (cntV [.bool i18.1.neg, .sl i18.1.num, .sl i18.1.den] : Int)) != (i17.2 + (cntV [.bool i17.1.neg, .sl i17.1.num, .sl i17.1.den] : Int))) = false → (∃ i19 : (List (List Dat)), [DA.one (DC.sl 54 [.int, .int] (vecsD l))] = toVecS_con.args i19 ∧ toVecS_con.pre i19 ∧ (∃ i20 : PtD, [DA.agg [cB p.x.neg, cS p.x.num, cS p.x.den, cB p.y.neg, cS p.y.num, cS p.y.den]] = toPoint_con.args i20 ∧ toPoint_con.pre i20 ∧ (∃ i21 : (List V2) × PtD, [DA.one (DC.sl 61 [.int, .int] i19), DA.agg [cB i20.x.neg, cS i20.x.num, cS i20.x.den, cB i20.y.neg, cS i20.y.num, cS i20.y.den]] = iSqPoly_con.args i21 ∧ iSqPoly_con.pre i21 ∧ (∃ i22 : RatD, [dF (spR i21.1 i21.2), dF (spR i5.1 i5.2)] = eqRat_con.args i22 ∧ eqRat_con.pre i22 ∧ (((!true) = true → ((Value.bool false = Value.bool true))) ∧ ((!true) = false → (∃ i23 : RatD × Int, [DA.agg [cB (decide ((spR i8.1 i8.2).z < 0)), cS (mkRows (i17.2 + ((0 : Nat) : Int)) i17.1.num), cS (mkRows (i17.2 + ((0 : Nat) : Int) + (cntRows i17.1.num : Int)) i17.1.den)], DA.one (cI (1 : Int))] = heldRat_con.args i23 ∧ heldRat_con.pre i23 ∧ (((decide ((i23.2 + (cntV [.bool i23.1.neg, .sl i23.1.num, .sl i23.1.den] : Int)) < (0 : Int))) = true → ((Value.bool false = Value.bool true))) ∧ ((decide ((i23.2 + (cntV [.bool i23.1.neg, .sl i23.1.num, .sl i23.1.den] : Int)) < (0 : Int))) = false → ((((i23.2 + (cntV [.bool i23.1.neg, .sl i23.1.num, .sl i23.1.den] : Int)) != (i17.2 + (cntV [.bool i17.1.neg, .sl i17.1.num, .sl i17.1.den] : Int))) = true → ((Value.bool false = Value.bool true))) ∧ (((i23.2 + (cntV [.bool i23.1.neg, .sl i23.1.num, .sl i23.1.den] : Int)) != (i17.2 + (cntV [.bool i17.1.neg, .sl i17.1.num, .sl i17.1.den] : Int))) = false → ((Value.bool true = Value.bool true))))))))))))))))))))))) ∧ ((!(decide ((i15.2 + (cntV [.bool i15.1.x.neg, .sl i15.1.x.num, .sl i15.1.x.den, .bool i15.1.y.neg, .sl i15.1.y.num, .sl i15.1.y.den] : Int)) < (0 : Int)))) = false → ((Value.bool false = Value.bool true))))))))))))))))))))))))))))) (by kernel_rfl) ?_
  have hz0 := vecs_rows0 hpre.1
  have hp_p : hasRow [.bool, .sl 3 [.int], .sl 3 [.int], .bool, .sl 3 [.int], .sl 3 [.int]] [.bool p.x.neg, .sl p.x.num, .sl p.x.den, .bool p.y.neg, .sl p.y.num, .sl p.y.den] := hpre.2
  have hh_p := pt_has hpre.2
  refine ⟨((vecsD l), (1048576 : Int)), by
    rfl, by
    show Dat.has (.sl 61 [.int, .int]) (.sl (vecsD l)) ∧ 0 ≤ (1048576 : Int) ∧ (1048576 : Int) ≤ 1048576
    exact ⟨hpre.1, by omega, by omega⟩, ?_⟩
  refine ⟨fun c4 => ?_, fun c4 => ?_⟩
  · skip
    replace c4 : (decide ((szR ((vecsD l).length + szRows (vecsD l)) (1048576 : Int)) < (0 : Int))) = true := c4
    try simp only [nrm] at c4
    exact rfl
  · skip
    replace c4 : (decide ((szR ((vecsD l).length + szRows (vecsD l)) (1048576 : Int)) < (0 : Int))) = false := c4
    try simp only [nrm] at c4
    have z1 := szR_ge c4
    have hs : (vecsD l).length + szRows (vecsD l) ≤ 1048576 := by have := z1.2; omega
    refine ⟨(p, (szR ((vecsD l).length + szRows (vecsD l)) (1048576 : Int))), by
      rfl, by
      show hasRow [.bool, .sl 3 [.int], .sl 3 [.int], .bool, .sl 3 [.int], .sl 3 [.int]] [.bool p.x.neg, .sl p.x.num, .sl p.x.den, .bool p.y.neg, .sl p.y.num, .sl p.y.den] ∧ 0 ≤ (szR ((vecsD l).length + szRows (vecsD l)) (1048576 : Int)) ∧ (szR ((vecsD l).length + szRows (vecsD l)) (1048576 : Int)) ≤ 1048576
      exact ⟨hp_p, c4, by have := z1.1; omega⟩, ?_⟩
    refine ⟨fun c9 => ?_, fun c9 => ?_⟩
    · skip
      replace c9 : (decide ((szR (szRow [.bool p.x.neg, .sl p.x.num, .sl p.x.den, .bool p.y.neg, .sl p.y.num, .sl p.y.den]) (szR ((vecsD l).length + szRows (vecsD l)) (1048576 : Int))) < (0 : Int))) = true := c9
      try simp only [nrm] at c9
      exact rfl
    · skip
      replace c9 : (decide ((szR (szRow [.bool p.x.neg, .sl p.x.num, .sl p.x.den, .bool p.y.neg, .sl p.y.num, .sl p.y.den]) (szR ((vecsD l).length + szRows (vecsD l)) (1048576 : Int))) < (0 : Int))) = false := c9
      try simp only [nrm] at c9
      have z2 := szR_ge c9
      have gs_p : szRow [.bool p.x.neg, .sl p.x.num, .sl p.x.den, .bool p.y.neg, .sl p.y.num, .sl p.y.den] ≤ 1048576 := by have := z1.1; have := z1.1; have := z2.2; omega
      have hcl := cntRows_small hpre.1 hs (by simp [KRow, Ty.K])
      have hrh := frD_has (spR l p)
      have hc_p : (cntV [.bool p.x.neg, .sl p.x.num, .sl p.x.den, .bool p.y.neg, .sl p.y.num, .sl p.y.den] : Int) ≤ 2000000000 := cntV_small hp_p gs_p (by simp [KRow, Ty.K])
      have hcr : (cntV [.bool (frD (spR l p)).neg, .sl (frD (spR l p)).num, .sl (frD (spR l p)).den] : Int) ≤ 2000000000 := fr_cnt (spR l p)
      refine ⟨(vecsD l), by
        rfl, by
        show (vecsD l).length + szRows (vecsD l) ≤ 1048576
        trivial, ?_⟩
      refine ⟨p, by
        rfl, by
        show szRow [.bool p.x.neg, .sl p.x.num, .sl p.x.den, .bool p.y.neg, .sl p.y.num, .sl p.y.den] ≤ 1048576
        trivial, ?_⟩
      refine ⟨(l, p), by
        rfl, by
        show p.has
        trivial, ?_⟩
      refine ⟨(vecsD l), by
        rfl, by
        show (vecsD l).length + szRows (vecsD l) ≤ 1048576
        trivial, ?_⟩
      refine ⟨p, by
        rfl, by
        show szRow [.bool p.x.neg, .sl p.x.num, .sl p.x.den, .bool p.y.neg, .sl p.y.num, .sl p.y.den] ≤ 1048576
        trivial, ?_⟩
      refine ⟨(l, p), by
        rfl, by
        show p.has
        trivial, ?_⟩
      refine ⟨(frD (spR l p)), by
        rfl, by
        trivial, ?_⟩
      refine ⟨fun c32 => ?_, fun c32 => ?_⟩
      · skip
        try simp only [nrm] at c32
        contradiction
      · skip
        try simp only [nrm] at c32
        refine ⟨(vecsD l), by
          rfl, by
          show (vecsD l).length + szRows (vecsD l) ≤ 1048576
          trivial, ?_⟩
        refine ⟨(vecsD l), by
          rfl, by
          trivial, ?_⟩
        refine ⟨fun c40 => ?_, fun c40 => ?_⟩
        · skip
          try simp only [nrm] at c40
          contradiction
        · skip
          try simp only [nrm] at c40
          refine ⟨p, by
            rfl, by
            show szRow [.bool p.x.neg, .sl p.x.num, .sl p.x.den, .bool p.y.neg, .sl p.y.num, .sl p.y.den] ≤ 1048576
            trivial, ?_⟩
          refine ⟨p, by
            rfl, by
            trivial, ?_⟩
          refine ⟨fun c48 => ?_, fun c48 => ?_⟩
          · skip
            try simp only [nrm] at c48
            contradiction
          · skip
            try simp only [nrm] at c48
            refine ⟨((vecsD l), (1 : Int)), by
              rfl, by
              show 0 ≤ (1 : Int) ∧ (1 : Int) + (cntRows (vecsD l) : Int) ≤ 4611686018427387904
              refine ⟨?_, ?_⟩ <;> omega, ?_⟩
            refine ⟨(p, ((1 : Int) + (cntRows (vecsD l) : Int))), by
              rfl, by
              show 0 ≤ ((1 : Int) + (cntRows (vecsD l) : Int)) ∧ ((1 : Int) + (cntRows (vecsD l) : Int)) + (cntV [.bool p.x.neg, .sl p.x.num, .sl p.x.den, .bool p.y.neg, .sl p.y.num, .sl p.y.den] : Int) ≤ 4611686018427387904
              refine ⟨?_, ?_⟩ <;> omega, ?_⟩
            refine ⟨fun c56 => ?_, fun c56 => ?_⟩
            · skip
              replace c56 : (!(decide ((((1 : Int) + (cntRows (vecsD l) : Int)) + (cntV [.bool p.x.neg, .sl p.x.num, .sl p.x.den, .bool p.y.neg, .sl p.y.num, .sl p.y.den] : Int)) < (0 : Int)))) = true := c56
              try simp only [nrm] at c56
              refine ⟨(frD (spR l p)), by
                rfl, by
                trivial, ?_⟩
              refine ⟨fun c60 => ?_, fun c60 => ?_⟩
              · skip
                try simp only [nrm] at c60
                contradiction
              · skip
                try simp only [nrm] at c60
                refine ⟨((frD (spR l p)), (1 : Int)), by
                  rfl, by
                  show 0 ≤ (1 : Int) ∧ (1 : Int) + (cntV [.bool (frD (spR l p)).neg, .sl (frD (spR l p)).num, .sl (frD (spR l p)).den] : Int) ≤ 4611686018427387904
                  refine ⟨?_, ?_⟩ <;> omega, ?_⟩
                refine ⟨((frD (spR l p)), (1 : Int)), by
                  rfl, by
                  show 0 ≤ (1 : Int) ∧ (1 : Int) + (cntV [.bool (frD (spR l p)).neg, .sl (frD (spR l p)).num, .sl (frD (spR l p)).den] : Int) ≤ 4611686018427387904 ∧ hasRow [.bool, .sl 3 [.int], .sl 3 [.int]] [.bool (frD (spR l p)).neg, .sl (frD (spR l p)).num, .sl (frD (spR l p)).den]
                  refine ⟨?_, ?_, hrh⟩ <;> omega, ?_⟩
                refine ⟨fun c68 => ?_, fun c68 => ?_⟩
                · skip
                  replace c68 : (decide (((1 : Int) + (cntV [.bool (frD (spR l p)).neg, .sl (frD (spR l p)).num, .sl (frD (spR l p)).den] : Int)) < (0 : Int))) = true := c68
                  try simp only [nrm] at c68
                  contradiction
                · skip
                  replace c68 : (decide (((1 : Int) + (cntV [.bool (frD (spR l p)).neg, .sl (frD (spR l p)).num, .sl (frD (spR l p)).den] : Int)) < (0 : Int))) = false := c68
                  try simp only [nrm] at c68
                  refine ⟨fun c70 => ?_, fun c70 => ?_⟩
                  · skip
                    replace c70 : (((1 : Int) + (cntV [.bool (frD (spR l p)).neg, .sl (frD (spR l p)).num, .sl (frD (spR l p)).den] : Int)) != ((1 : Int) + (cntV [.bool (frD (spR l p)).neg, .sl (frD (spR l p)).num, .sl (frD (spR l p)).den] : Int))) = true := c70
                    try simp only [nrm] at c70
                    contradiction
                  · skip
                    replace c70 : (((1 : Int) + (cntV [.bool (frD (spR l p)).neg, .sl (frD (spR l p)).num, .sl (frD (spR l p)).den] : Int)) != ((1 : Int) + (cntV [.bool (frD (spR l p)).neg, .sl (frD (spR l p)).num, .sl (frD (spR l p)).den] : Int))) = false := c70
                    try simp only [nrm] at c70
                    refine ⟨(vecsD l), by
                      rfl, by
                      show (vecsD l).length + szRows (vecsD l) ≤ 1048576
                      trivial, ?_⟩
                    refine ⟨p, by
                      rfl, by
                      show szRow [.bool p.x.neg, .sl p.x.num, .sl p.x.den, .bool p.y.neg, .sl p.y.num, .sl p.y.den] ≤ 1048576
                      trivial, ?_⟩
                    refine ⟨(l, p), by
                      rfl, by
                      show p.has
                      trivial, ?_⟩
                    refine ⟨(frD (spR l p)), by
                      rfl, by
                      trivial, ?_⟩
                    refine ⟨fun c84 => ?_, fun c84 => ?_⟩
                    · skip
                      try simp only [nrm] at c84
                      contradiction
                    · skip
                      try simp only [nrm] at c84
                      refine ⟨((frD (spR l p)), (1 : Int)), by
                        rfl, by
                        show 0 ≤ (1 : Int) ∧ (1 : Int) + (cntV [.bool (frD (spR l p)).neg, .sl (frD (spR l p)).num, .sl (frD (spR l p)).den] : Int) ≤ 4611686018427387904 ∧ hasRow [.bool, .sl 3 [.int], .sl 3 [.int]] [.bool (frD (spR l p)).neg, .sl (frD (spR l p)).num, .sl (frD (spR l p)).den]
                        refine ⟨?_, ?_, hrh⟩ <;> omega, ?_⟩
                      refine ⟨fun c89 => ?_, fun c89 => ?_⟩
                      · skip
                        replace c89 : (decide (((1 : Int) + (cntV [.bool (frD (spR l p)).neg, .sl (frD (spR l p)).num, .sl (frD (spR l p)).den] : Int)) < (0 : Int))) = true := c89
                        try simp only [nrm] at c89
                        contradiction
                      · skip
                        replace c89 : (decide (((1 : Int) + (cntV [.bool (frD (spR l p)).neg, .sl (frD (spR l p)).num, .sl (frD (spR l p)).den] : Int)) < (0 : Int))) = false := c89
                        try simp only [nrm] at c89
                        refine ⟨fun c91 => ?_, fun c91 => ?_⟩
                        · skip
                          replace c91 : (((1 : Int) + (cntV [.bool (frD (spR l p)).neg, .sl (frD (spR l p)).num, .sl (frD (spR l p)).den] : Int)) != ((1 : Int) + (cntV [.bool (frD (spR l p)).neg, .sl (frD (spR l p)).num, .sl (frD (spR l p)).den] : Int))) = true := c91
                          try simp only [nrm] at c91
                          contradiction
                        · skip
                          replace c91 : (((1 : Int) + (cntV [.bool (frD (spR l p)).neg, .sl (frD (spR l p)).num, .sl (frD (spR l p)).den] : Int)) != ((1 : Int) + (cntV [.bool (frD (spR l p)).neg, .sl (frD (spR l p)).num, .sl (frD (spR l p)).den] : Int))) = false := c91
                          try simp only [nrm] at c91
                          exact rfl
            · skip
              replace c56 : (!(decide ((((1 : Int) + (cntRows (vecsD l) : Int)) + (cntV [.bool p.x.neg, .sl p.x.num, .sl p.x.den, .bool p.y.neg, .sl p.y.num, .sl p.y.den] : Int)) < (0 : Int)))) = false := c56
              try simp only [nrm] at c56
              contradiction
end Go.Proofs.YthnkggacopepgaaGreat
