import Derived.Test.YthnkggacopepgaaGreatDtRkL2
import Derived.Test.YthnkggacopepgaaGreatDtRkH
namespace Go.Proofs.YthnkggacopepgaaGreat
set_option linter.unusedVariables false
set_option linter.unusedSimpArgs false
open Go.RowKit
def lawDiscTouches_con : Con := { ι := (List V2) × PtD × Int, pre := fun i => Dat.has (.sl 61 [.int, .int]) (.sl (vecsD i.1)) ∧ hasRow [.bool, .sl 3 [.int], .sl 3 [.int], .bool, .sl 3 [.int], .sl 3 [.int]] (ptD i.2.1) ∧ i.2.2 ≤ 9223372036854775807, args := fun i => [.one (.sl 54 [.int, .int] (vecsD i.1)), .agg [.im (.bool i.2.1.x.neg), .sl 3 [.int] i.2.1.x.num, .sl 3 [.int] i.2.1.x.den, .im (.bool i.2.1.y.neg), .sl 3 [.int] i.2.1.y.num, .sl 3 [.int] i.2.1.y.den], .one (.im (.int .i64 i.2.2))], res := fun i => ⟨false, [none], [.im (Value.bool true)]⟩ }
set_option maxRecDepth 100000 in
set_option maxHeartbeats 4000000 in
theorem lawDiscTouches_ok : lawDiscTouches_con.Ok Tryz.prog 5 := by
  refine fn_ok (X := ⟨tt, [(14, szVecS_con), (15, szPoint_con), (17, toVecS_con), (18, toPoint_con), (24, sDisc_con), (25, iDisc_con), (20, eqVecS_con), (21, eqPoint_con)], [], 49⟩) mixed tt_ok (CTok.cons szVecS_ok (CTok.cons szPoint_ok (CTok.cons toVecS_ok (CTok.cons toPoint_ok (CTok.cons sDisc_ok (CTok.cons iDisc_ok (CTok.cons eqVecS_ok (CTok.cons eqPoint_ok (CTok.nil _))))))))) Tryz.func5 (by decide) rfl rfl rfl (fun _ => Nat.le_of_ble_eq_true rfl) (fun _ => Nat.le_of_ble_eq_true rfl) (fun _ => []) ?_
  rintro ⟨l, p, n⟩ hpre
  have hpre : Dat.has (.sl 61 [.int, .int]) (.sl (vecsD l)) ∧ hasRow [.bool, .sl 3 [.int], .sl 3 [.int], .bool, .sl 3 [.int], .sl 3 [.int]] (ptD p) ∧ n ≤ 9223372036854775807 := hpre
  refine by_nf (q := ∃ i1 : (List (List Dat)) × Int, [DA.one (DC.sl 54 [.int, .int] (vecsD l)), DA.one (cI (1048576 : Int))] = szVecS_con.args i1 ∧ szVecS_con.pre i1 ∧ (((decide ((szR (i1.1.length + szRows i1.1) i1.2) < (0 : Int))) = true → ((Value.bool true = Value.bool true))) ∧ ((decide ((szR (i1.1.length + szRows i1.1) i1.2) < (0 : Int))) = false → (∃ i2 : PtD × Int, [DA.agg [cB p.x.neg, cS p.x.num, cS p.x.den, cB p.y.neg, cS p.y.num, cS p.y.den], DA.one (cI (szR (i1.1.length + szRows i1.1) i1.2))] = szPoint_con.args i2 ∧ szPoint_con.pre i2 ∧ (((decide ((szR (szRow [.bool i2.1.x.neg, .sl i2.1.x.num, .sl i2.1.x.den, .bool i2.1.y.neg, .sl i2.1.y.num, .sl i2.1.y.den]) i2.2) < (0 : Int))) = true → ((Value.bool true = Value.bool true))) ∧ ((decide ((szR (szRow [.bool i2.1.x.neg, .sl i2.1.x.num, .sl i2.1.x.den, .bool i2.1.y.neg, .sl i2.1.y.num, .sl i2.1.y.den]) i2.2) < (0 : Int))) = false → (∃ i3 : (List (List Dat)), [DA.one (DC.sl 54 [.int, .int] (vecsD l))] = toVecS_con.args i3 ∧ toVecS_con.pre i3 ∧ (∃ i4 : PtD, [DA.agg [cB p.x.neg, cS p.x.num, cS p.x.den, cB p.y.neg, cS p.y.num, cS p.y.den]] = toPoint_con.args i4 ∧ toPoint_con.pre i4 ∧ (∃ i5 : (List V2) × PtD × Int, [DA.one (DC.sl 61 [.int, .int] i3), DA.agg [cB i4.x.neg, cS i4.x.num, cS i4.x.den, cB i4.y.neg, cS i4.y.num, cS i4.y.den], DA.one (cI n)] = sDisc_con.args i5 ∧ sDisc_con.pre i5 ∧ (∃ i6 : (List (List Dat)), [DA.one (DC.sl 54 [.int, .int] (vecsD l))] = toVecS_con.args i6 ∧ toVecS_con.pre i6 ∧ (∃ i7 : PtD, [DA.agg [cB p.x.neg, cS p.x.num, cS p.x.den, cB p.y.neg, cS p.y.num, cS p.y.den]] = toPoint_con.args i7 ∧ toPoint_con.pre i7 ∧ (∃ i8 : (List V2) × PtD × Int, [DA.one (DC.sl 61 [.int, .int] i6), DA.agg [cB i7.x.neg, cS i7.x.num, cS i7.x.den, cB i7.y.neg, cS i7.y.num, cS i7.y.den], DA.one (cI n)] = iDisc_con.args i8 ∧ iDisc_con.pre i8 ∧ ((((dtB i8.1 i8.2.1 i8.2.2) != (dtB i5.1 i5.2.1 i5.2.2)) = true → ((Value.bool false = Value.bool true))) ∧ (((dtB i8.1 i8.2.1 i8.2.2) != (dtB i5.1 i5.2.1 i5.2.2)) = false → (∃ i9 : (List (List Dat)), [DA.one (DC.sl 54 [.int, .int] (vecsD l))] = toVecS_con.args i9 ∧ toVecS_con.pre i9 ∧ (∃ i10 : (List (List Dat)), [DA.one (DC.sl 61 [.int, .int] i6), DA.one (DC.sl 61 [.int, .int] i9)] = eqVecS_con.args i10 ∧ eqVecS_con.pre i10 ∧ (((!true) = true → ((Value.bool false = Value.bool true))) ∧ ((!true) = false → (∃ i11 : PtD, [DA.agg [cB p.x.neg, cS p.x.num, cS p.x.den, cB p.y.neg, cS p.y.num, cS p.y.den]] = toPoint_con.args i11 ∧ toPoint_con.pre i11 ∧ (∃ i12 : PtD, [DA.agg [cB i7.x.neg, cS i7.x.num, cS i7.x.den, cB i7.y.neg, cS i7.y.num, cS i7.y.den], DA.agg [cB i11.x.neg, cS i11.x.num, cS i11.x.den, cB i11.y.neg, cS i11.y.num, cS i11.y.den]] = eqPoint_con.args i12 ∧ eqPoint_con.pre i12 ∧ (((!true) = true → ((Value.bool false = Value.bool true))) ∧ ((!true) = false → ((Value.bool true = Value.bool true)))))))))))))))))))))))) (by kernel_rfl) ?_
  have hz0 := vecs_rows0 hpre.1
  have hp_p : hasRow [.bool, .sl 3 [.int], .sl 3 [.int], .bool, .sl 3 [.int], .sl 3 [.int]] [.bool p.x.neg, .sl p.x.num, .sl p.x.den, .bool p.y.neg, .sl p.y.num, .sl p.y.den] := hpre.2.1
  have hh_p := pt_has hpre.2.1
  refine ⟨((vecsD l), (1048576 : Int)), by
    rfl, by
    show Dat.has (.sl 61 [.int, .int]) (.sl (vecsD l)) ∧ 0 ≤ (1048576 : Int) ∧ (1048576 : Int) ≤ 1048576
    exact ⟨hpre.1, by omega, by omega⟩, ?_⟩
  refine ⟨fun c4 => ?_, fun c4 => ?_⟩
  · skip
    replace c4 : (decide ((szR ((vecsD l).length + szRows (vecsD l)) (1048576 : Int)) < (0 : Int))) = true := c4
    try simp only [nrm] at c4
    exact rfl
  · skip
    replace c4 : (decide ((szR ((vecsD l).length + szRows (vecsD l)) (1048576 : Int)) < (0 : Int))) = false := c4
    try simp only [nrm] at c4
    have z1 := szR_ge c4
    have hs : (vecsD l).length + szRows (vecsD l) ≤ 1048576 := by have := z1.2; omega
    refine ⟨(p, (szR ((vecsD l).length + szRows (vecsD l)) (1048576 : Int))), by
      rfl, by
      show hasRow [.bool, .sl 3 [.int], .sl 3 [.int], .bool, .sl 3 [.int], .sl 3 [.int]] [.bool p.x.neg, .sl p.x.num, .sl p.x.den, .bool p.y.neg, .sl p.y.num, .sl p.y.den] ∧ 0 ≤ (szR ((vecsD l).length + szRows (vecsD l)) (1048576 : Int)) ∧ (szR ((vecsD l).length + szRows (vecsD l)) (1048576 : Int)) ≤ 1048576
      exact ⟨hp_p, c4, by have := z1.1; omega⟩, ?_⟩
    refine ⟨fun c9 => ?_, fun c9 => ?_⟩
    · skip
      replace c9 : (decide ((szR (szRow [.bool p.x.neg, .sl p.x.num, .sl p.x.den, .bool p.y.neg, .sl p.y.num, .sl p.y.den]) (szR ((vecsD l).length + szRows (vecsD l)) (1048576 : Int))) < (0 : Int))) = true := c9
      try simp only [nrm] at c9
      exact rfl
    · skip
      replace c9 : (decide ((szR (szRow [.bool p.x.neg, .sl p.x.num, .sl p.x.den, .bool p.y.neg, .sl p.y.num, .sl p.y.den]) (szR ((vecsD l).length + szRows (vecsD l)) (1048576 : Int))) < (0 : Int))) = false := c9
      try simp only [nrm] at c9
      have z2 := szR_ge c9
      have gs_p : szRow [.bool p.x.neg, .sl p.x.num, .sl p.x.den, .bool p.y.neg, .sl p.y.num, .sl p.y.den] ≤ 1048576 := by have := z1.1; have := z1.1; have := z2.2; omega
      refine ⟨(vecsD l), by
        rfl, by
        show (vecsD l).length + szRows (vecsD l) ≤ 1048576
        trivial, ?_⟩
      refine ⟨p, by
        rfl, by
        show szRow [.bool p.x.neg, .sl p.x.num, .sl p.x.den, .bool p.y.neg, .sl p.y.num, .sl p.y.den] ≤ 1048576
        trivial, ?_⟩
      refine ⟨(l, p, n), by
        rfl, by
        show p.has ∧ n ≤ 9223372036854775807
        exact ⟨hh_p, hpre.2.2⟩, ?_⟩
      refine ⟨(vecsD l), by
        rfl, by
        show (vecsD l).length + szRows (vecsD l) ≤ 1048576
        trivial, ?_⟩
      refine ⟨p, by
        rfl, by
        show szRow [.bool p.x.neg, .sl p.x.num, .sl p.x.den, .bool p.y.neg, .sl p.y.num, .sl p.y.den] ≤ 1048576
        trivial, ?_⟩
      refine ⟨(l, p, n), by
        rfl, by
        show p.has ∧ n ≤ 9223372036854775807
        exact ⟨hh_p, hpre.2.2⟩, ?_⟩
      refine ⟨fun c29 => ?_, fun c29 => ?_⟩
      · skip
        replace c29 : ((dtB l p n) != (dtB l p n)) = true := c29
        try simp only [nrm] at c29
        contradiction
      · skip
        replace c29 : ((dtB l p n) != (dtB l p n)) = false := c29
        try simp only [nrm] at c29
        refine ⟨(vecsD l), by
          rfl, by
          show (vecsD l).length + szRows (vecsD l) ≤ 1048576
          trivial, ?_⟩
        refine ⟨(vecsD l), by
          rfl, by
          trivial, ?_⟩
        refine ⟨fun c37 => ?_, fun c37 => ?_⟩
        · skip
          try simp only [nrm] at c37
          contradiction
        · skip
          try simp only [nrm] at c37
          refine ⟨p, by
            rfl, by
            show szRow [.bool p.x.neg, .sl p.x.num, .sl p.x.den, .bool p.y.neg, .sl p.y.num, .sl p.y.den] ≤ 1048576
            trivial, ?_⟩
          refine ⟨p, by
            rfl, by
            trivial, ?_⟩
          refine ⟨fun c45 => ?_, fun c45 => ?_⟩
          · skip
            try simp only [nrm] at c45
            contradiction
          · skip
            try simp only [nrm] at c45
            exact rfl
end Go.Proofs.YthnkggacopepgaaGreat
