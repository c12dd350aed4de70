import Derived.Test.YthnkggacopepgaaGreatSmRkL2
import Derived.Test.YthnkggacopepgaaGreatSmRkG
namespace Go.Proofs.YthnkggacopepgaaGreat
set_option linter.unusedVariables false
set_option linter.unusedSimpArgs false
open Go.RowKit
def lawSegmentMeets_con : Con := { ι := (List V2) × PtD × PtD, pre := fun i => Dat.has (.sl 61 [.int, .int]) (.sl (vecsD i.1)) ∧ hasRow [.bool, .sl 3 [.int], .sl 3 [.int], .bool, .sl 3 [.int], .sl 3 [.int]] (ptD i.2.1) ∧ hasRow [.bool, .sl 3 [.int], .sl 3 [.int], .bool, .sl 3 [.int], .sl 3 [.int]] (ptD i.2.2), args := fun i => [.one (.sl 54 [.int, .int] (vecsD i.1)), .agg [.im (.bool i.2.1.x.neg), .sl 3 [.int] i.2.1.x.num, .sl 3 [.int] i.2.1.x.den, .im (.bool i.2.1.y.neg), .sl 3 [.int] i.2.1.y.num, .sl 3 [.int] i.2.1.y.den], .agg [.im (.bool i.2.2.x.neg), .sl 3 [.int] i.2.2.x.num, .sl 3 [.int] i.2.2.x.den, .im (.bool i.2.2.y.neg), .sl 3 [.int] i.2.2.y.num, .sl 3 [.int] i.2.2.y.den]], res := fun i => ⟨false, [none], [.im (Value.bool true)]⟩ }
set_option maxRecDepth 100000 in
set_option maxHeartbeats 4000000 in
theorem lawSegmentMeets_ok : lawSegmentMeets_con.Ok Tryz.prog 4 := by
  refine fn_ok (X := ⟨tt, [(14, szVecS_con), (15, szPoint_con), (17, toVecS_con), (18, toPoint_con), (22, sSegMeets_con), (23, iSegMeets_con), (20, eqVecS_con), (21, eqPoint_con)], [], 63⟩) mixed tt_ok (CTok.cons szVecS_ok (CTok.cons szPoint_ok (CTok.cons toVecS_ok (CTok.cons toPoint_ok (CTok.cons sSegMeets_ok (CTok.cons iSegMeets_ok (CTok.cons eqVecS_ok (CTok.cons eqPoint_ok (CTok.nil _))))))))) Tryz.func4 (by decide) rfl rfl rfl (fun _ => Nat.le_of_ble_eq_true rfl) (fun _ => Nat.le_of_ble_eq_true rfl) (fun _ => []) ?_
  rintro ⟨l, p, q⟩ hpre
  have hpre : Dat.has (.sl 61 [.int, .int]) (.sl (vecsD l)) ∧ hasRow [.bool, .sl 3 [.int], .sl 3 [.int], .bool, .sl 3 [.int], .sl 3 [.int]] (ptD p) ∧ hasRow [.bool, .sl 3 [.int], .sl 3 [.int], .bool, .sl 3 [.int], .sl 3 [.int]] (ptD q) := hpre
  refine by_nf (q := ∃ i1 : (List (List Dat)) × Int, [DA.one (DC.sl 54 [.int, .int] (vecsD l)), DA.one (cI (1048576 : Int))] = szVecS_con.args i1 ∧ szVecS_con.pre i1 ∧ (((decide ((szR (i1.1.length + szRows i1.1) i1.2) < (0 : Int))) = true → ((Value.bool true = Value.bool true))) ∧ ((decide ((szR (i1.1.length + szRows i1.1) i1.2) < (0 : Int))) = false → (∃ i2 : PtD × Int, [DA.agg [cB p.x.neg, cS p.x.num, cS p.x.den, cB p.y.neg, cS p.y.num, cS p.y.den], DA.one (cI (szR (i1.1.length + szRows i1.1) i1.2))] = szPoint_con.args i2 ∧ szPoint_con.pre i2 ∧ (((decide ((szR (szRow [.bool i2.1.x.neg, .sl i2.1.x.num, .sl i2.1.x.den, .bool i2.1.y.neg, .sl i2.1.y.num, .sl i2.1.y.den]) i2.2) < (0 : Int))) = true → ((Value.bool true = Value.bool true))) ∧ ((decide ((szR (szRow [.bool i2.1.x.neg, .sl i2.1.x.num, .sl i2.1.x.den, .bool i2.1.y.neg, .sl i2.1.y.num, .sl i2.1.y.den]) i2.2) < (0 : Int))) = false → (∃ i3 : PtD × Int, [DA.agg [cB q.x.neg, cS q.x.num, cS q.x.den, cB q.y.neg, cS q.y.num, cS q.y.den], DA.one (cI (szR (szRow [.bool i2.1.x.neg, .sl i2.1.x.num, .sl i2.1.x.den, .bool i2.1.y.neg, .sl i2.1.y.num, .sl i2.1.y.den]) i2.2))] = szPoint_con.args i3 ∧ szPoint_con.pre i3 ∧ (((decide ((szR (szRow [.bool i3.1.x.neg, .sl i3.1.x.num, .sl i3.1.x.den, .bool i3.1.y.neg, .sl i3.1.y.num, .sl i3.1.y.den]) i3.2) < (0 : Int))) = true → ((Value.bool true = Value.bool true))) ∧ ((decide ((szR (szRow [.bool i3.1.x.neg, .sl i3.1.x.num, .sl i3.1.x.den, .bool i3.1.y.neg, .sl i3.1.y.num, .sl i3.1.y.den]) i3.2) < (0 : Int))) = false → (∃ i4 : (List (List Dat)), [DA.one (DC.sl 54 [.int, .int] (vecsD l))] = toVecS_con.args i4 ∧ toVecS_con.pre i4 ∧ (∃ i5 : PtD, [DA.agg [cB p.x.neg, cS p.x.num, cS p.x.den, cB p.y.neg, cS p.y.num, cS p.y.den]] = toPoint_con.args i5 ∧ toPoint_con.pre i5 ∧ (∃ i6 : PtD, [DA.agg [cB q.x.neg, cS q.x.num, cS q.x.den, cB q.y.neg, cS q.y.num, cS q.y.den]] = toPoint_con.args i6 ∧ toPoint_con.pre i6 ∧ (∃ i7 : (List V2) × PtD × PtD, [DA.one (DC.sl 61 [.int, .int] i4), DA.agg [cB i5.x.neg, cS i5.x.num, cS i5.x.den, cB i5.y.neg, cS i5.y.num, cS i5.y.den], DA.agg [cB i6.x.neg, cS i6.x.num, cS i6.x.den, cB i6.y.neg, cS i6.y.num, cS i6.y.den]] = sSegMeets_con.args i7 ∧ sSegMeets_con.pre i7 ∧ (∃ i8 : (List (List Dat)), [DA.one (DC.sl 54 [.int, .int] (vecsD l))] = toVecS_con.args i8 ∧ toVecS_con.pre i8 ∧ (∃ i9 : PtD, [DA.agg [cB p.x.neg, cS p.x.num, cS p.x.den, cB p.y.neg, cS p.y.num, cS p.y.den]] = toPoint_con.args i9 ∧ toPoint_con.pre i9 ∧ (∃ i10 : PtD, [DA.agg [cB q.x.neg, cS q.x.num, cS q.x.den, cB q.y.neg, cS q.y.num, cS q.y.den]] = toPoint_con.args i10 ∧ toPoint_con.pre i10 ∧ (∃ i11 : (List V2) × PtD × PtD, [DA.one (DC.sl 61 [.int, .int] i8), DA.agg [cB i9.x.neg, cS i9.x.num, cS i9.x.den, cB i9.y.neg, cS i9.y.num, cS i9.y.den], DA.agg [cB i10.x.neg, cS i10.x.num, cS i10.x.den, cB i10.y.neg, cS i10.y.num, cS i10.y.den]] = iSegMeets_con.args i11 ∧ iSegMeets_con.pre i11 ∧ ((((smZ i11.1 i11.2.1 i11.2.2) != (smZ i7.1 i7.2.1 i7.2.2)) = true → ((Value.bool false = Value.bool true))) ∧ (((smZ i11.1 i11.2.1 i11.2.2) != (smZ i7.1 i7.2.1 i7.2.2)) = false → (∃ i12 : (List (List Dat)), [DA.one (DC.sl 54 [.int, .int] (vecsD l))] = toVecS_con.args i12 ∧ toVecS_con.pre i12 ∧ (∃ i13 : (List (List Dat)), [DA.one (DC.sl 61 [.int, .int] i8), DA.one (DC.sl 61 [.int, .int] i12)] = eqVecS_con.args i13 ∧ eqVecS_con.pre i13 ∧ (((!true) = true → ((Value.bool false = Value.bool true))) ∧ ((!true) = false → (∃ i14 : PtD, [DA.agg [cB p.x.neg, cS p.x.num, cS p.x.den, cB p.y.neg, cS p.y.num, cS p.y.den]] = toPoint_con.args i14 ∧ toPoint_con.pre i14 ∧ (∃ i15 : PtD, [DA.agg [cB i9.x.neg, cS i9.x.num, cS i9.x.den, cB i9.y.neg, cS i9.y.num, cS i9.y.den], DA.agg [cB i14.x.neg, cS i14.x.num, cS i14.x.den, cB i14.y.neg, cS i14.y.num, cS i14.y.den]] = eqPoint_con.args i15 ∧ eqPoint_con.pre i15 ∧ (((!true) = true → ((Value.bool false = Value.bool true))) ∧ ((!true) = false → (∃ i16 : PtD, [DA.agg [cB q.x.neg, cS q.x.num, cS q.x.den, cB q.y.neg, cS q.y.num, cS q.y.den]] = toPoint_con.args i16 ∧ toPoint_con.pre i16 ∧ (∃ i17 : PtD, [DA.agg [cB i10.x.neg, cS i10.x.num, cS i10.x.den, cB i10.y.neg, cS i10.y.num, cS i10.y.den], DA.agg [cB i16.x.neg, cS i16.x.num, cS i16.x.den, cB i16.y.neg, cS i16.y.num, cS i16.y.den]] = eqPoint_con.args i17 ∧ eqPoint_con.pre i17 ∧ (((!true) = true → ((Value.bool false = Value.bool true))) ∧ ((!true) = false → ((Value.bool true = Value.bool true))))))))))))))))))))))))))))))))) (by kernel_rfl) ?_
  have hz0 := vecs_rows0 hpre.1
  have hp_p : hasRow [.bool, .sl 3 [.int], .sl 3 [.int], .bool, .sl 3 [.int], .sl 3 [.int]] [.bool p.x.neg, .sl p.x.num, .sl p.x.den, .bool p.y.neg, .sl p.y.num, .sl p.y.den] := hpre.2.1
  have hh_p := pt_has hpre.2.1
  have hp_q : hasRow [.bool, .sl 3 [.int], .sl 3 [.int], .bool, .sl 3 [.int], .sl 3 [.int]] [.bool q.x.neg, .sl q.x.num, .sl q.x.den, .bool q.y.neg, .sl q.y.num, .sl q.y.den] := hpre.2.2
  have hh_q := pt_has hpre.2.2
  refine ⟨((vecsD l), (1048576 : Int)), by
    rfl, by
    show Dat.has (.sl 61 [.int, .int]) (.sl (vecsD l)) ∧ 0 ≤ (1048576 : Int) ∧ (1048576 : Int) ≤ 1048576
    exact ⟨hpre.1, by omega, by omega⟩, ?_⟩
  refine ⟨fun c4 => ?_, fun c4 => ?_⟩
  · skip
    replace c4 : (decide ((szR ((vecsD l).length + szRows (vecsD l)) (1048576 : Int)) < (0 : Int))) = true := c4
    try simp only [nrm] at c4
    exact rfl
  · skip
    replace c4 : (decide ((szR ((vecsD l).length + szRows (vecsD l)) (1048576 : Int)) < (0 : Int))) = false := c4
    try simp only [nrm] at c4
    have z1 := szR_ge c4
    have hs : (vecsD l).length + szRows (vecsD l) ≤ 1048576 := by have := z1.2; omega
    refine ⟨(p, (szR ((vecsD l).length + szRows (vecsD l)) (1048576 : Int))), by
      rfl, by
      show hasRow [.bool, .sl 3 [.int], .sl 3 [.int], .bool, .sl 3 [.int], .sl 3 [.int]] [.bool p.x.neg, .sl p.x.num, .sl p.x.den, .bool p.y.neg, .sl p.y.num, .sl p.y.den] ∧ 0 ≤ (szR ((vecsD l).length + szRows (vecsD l)) (1048576 : Int)) ∧ (szR ((vecsD l).length + szRows (vecsD l)) (1048576 : Int)) ≤ 1048576
      exact ⟨hp_p, c4, by have := z1.1; omega⟩, ?_⟩
    refine ⟨fun c9 => ?_, fun c9 => ?_⟩
    · skip
      replace c9 : (decide ((szR (szRow [.bool p.x.neg, .sl p.x.num, .sl p.x.den, .bool p.y.neg, .sl p.y.num, .sl p.y.den]) (szR ((vecsD l).length + szRows (vecsD l)) (1048576 : Int))) < (0 : Int))) = true := c9
      try simp only [nrm] at c9
      exact rfl
    · skip
      replace c9 : (decide ((szR (szRow [.bool p.x.neg, .sl p.x.num, .sl p.x.den, .bool p.y.neg, .sl p.y.num, .sl p.y.den]) (szR ((vecsD l).length + szRows (vecsD l)) (1048576 : Int))) < (0 : Int))) = false := c9
      try simp only [nrm] at c9
      have z2 := szR_ge c9
      have gs_p : szRow [.bool p.x.neg, .sl p.x.num, .sl p.x.den, .bool p.y.neg, .sl p.y.num, .sl p.y.den] ≤ 1048576 := by have := z1.1; have := z1.1; have := z2.2; omega
      refine ⟨(q, (szR (szRow [.bool p.x.neg, .sl p.x.num, .sl p.x.den, .bool p.y.neg, .sl p.y.num, .sl p.y.den]) (szR ((vecsD l).length + szRows (vecsD l)) (1048576 : Int)))), by
        rfl, by
        show hasRow [.bool, .sl 3 [.int], .sl 3 [.int], .bool, .sl 3 [.int], .sl 3 [.int]] [.bool q.x.neg, .sl q.x.num, .sl q.x.den, .bool q.y.neg, .sl q.y.num, .sl q.y.den] ∧ 0 ≤ (szR (szRow [.bool p.x.neg, .sl p.x.num, .sl p.x.den, .bool p.y.neg, .sl p.y.num, .sl p.y.den]) (szR ((vecsD l).length + szRows (vecsD l)) (1048576 : Int))) ∧ (szR (szRow [.bool p.x.neg, .sl p.x.num, .sl p.x.den, .bool p.y.neg, .sl p.y.num, .sl p.y.den]) (szR ((vecsD l).length + szRows (vecsD l)) (1048576 : Int))) ≤ 1048576
        exact ⟨hp_q, c9, by have := z1.1; have := z2.1; omega⟩, ?_⟩
      refine ⟨fun c14 => ?_, fun c14 => ?_⟩
      · skip
        replace c14 : (decide ((szR (szRow [.bool q.x.neg, .sl q.x.num, .sl q.x.den, .bool q.y.neg, .sl q.y.num, .sl q.y.den]) (szR (szRow [.bool p.x.neg, .sl p.x.num, .sl p.x.den, .bool p.y.neg, .sl p.y.num, .sl p.y.den]) (szR ((vecsD l).length + szRows (vecsD l)) (1048576 : Int)))) < (0 : Int))) = true := c14
        try simp only [nrm] at c14
        exact rfl
      · skip
        replace c14 : (decide ((szR (szRow [.bool q.x.neg, .sl q.x.num, .sl q.x.den, .bool q.y.neg, .sl q.y.num, .sl q.y.den]) (szR (szRow [.bool p.x.neg, .sl p.x.num, .sl p.x.den, .bool p.y.neg, .sl p.y.num, .sl p.y.den]) (szR ((vecsD l).length + szRows (vecsD l)) (1048576 : Int)))) < (0 : Int))) = false := c14
        try simp only [nrm] at c14
        have z3 := szR_ge c14
        have gs_q : szRow [.bool q.x.neg, .sl q.x.num, .sl q.x.den, .bool q.y.neg, .sl q.y.num, .sl q.y.den] ≤ 1048576 := by have := z1.1; have := z2.1; have := z3.2; omega
        refine ⟨(vecsD l), by
          rfl, by
          show (vecsD l).length + szRows (vecsD l) ≤ 1048576
          trivial, ?_⟩
        refine ⟨p, by
          rfl, by
          show szRow [.bool p.x.neg, .sl p.x.num, .sl p.x.den, .bool p.y.neg, .sl p.y.num, .sl p.y.den] ≤ 1048576
          trivial, ?_⟩
        refine ⟨q, by
          rfl, by
          show szRow [.bool q.x.neg, .sl q.x.num, .sl q.x.den, .bool q.y.neg, .sl q.y.num, .sl q.y.den] ≤ 1048576
          trivial, ?_⟩
        refine ⟨(l, p, q), by
          rfl, by
          show p.has ∧ q.has
          trivial, ?_⟩
        refine ⟨(vecsD l), by
          rfl, by
          show (vecsD l).length + szRows (vecsD l) ≤ 1048576
          trivial, ?_⟩
        refine ⟨p, by
          rfl, by
          show szRow [.bool p.x.neg, .sl p.x.num, .sl p.x.den, .bool p.y.neg, .sl p.y.num, .sl p.y.den] ≤ 1048576
          trivial, ?_⟩
        refine ⟨q, by
          rfl, by
          show szRow [.bool q.x.neg, .sl q.x.num, .sl q.x.den, .bool q.y.neg, .sl q.y.num, .sl q.y.den] ≤ 1048576
          trivial, ?_⟩
        refine ⟨(l, p, q), by
          rfl, by
          show p.has ∧ q.has
          trivial, ?_⟩
        refine ⟨fun c40 => ?_, fun c40 => ?_⟩
        · skip
          replace c40 : ((smZ l p q) != (smZ l p q)) = true := c40
          try simp only [nrm] at c40
          contradiction
        · skip
          replace c40 : ((smZ l p q) != (smZ l p q)) = false := c40
          try simp only [nrm] at c40
          refine ⟨(vecsD l), by
            rfl, by
            show (vecsD l).length + szRows (vecsD l) ≤ 1048576
            trivial, ?_⟩
          refine ⟨(vecsD l), by
            rfl, by
            trivial, ?_⟩
          refine ⟨fun c48 => ?_, fun c48 => ?_⟩
          · skip
            try simp only [nrm] at c48
            contradiction
          · skip
            try simp only [nrm] at c48
            refine ⟨p, by
              rfl, by
              show szRow [.bool p.x.neg, .sl p.x.num, .sl p.x.den, .bool p.y.neg, .sl p.y.num, .sl p.y.den] ≤ 1048576
              trivial, ?_⟩
            refine ⟨p, by
              rfl, by
              trivial, ?_⟩
            refine ⟨fun c56 => ?_, fun c56 => ?_⟩
            · skip
              try simp only [nrm] at c56
              contradiction
            · skip
              try simp only [nrm] at c56
              refine ⟨q, by
                rfl, by
                show szRow [.bool q.x.neg, .sl q.x.num, .sl q.x.den, .bool q.y.neg, .sl q.y.num, .sl q.y.den] ≤ 1048576
                trivial, ?_⟩
              refine ⟨q, by
                rfl, by
                trivial, ?_⟩
              refine ⟨fun c64 => ?_, fun c64 => ?_⟩
              · skip
                try simp only [nrm] at c64
                contradiction
              · skip
                try simp only [nrm] at c64
                exact rfl
end Go.Proofs.YthnkggacopepgaaGreat
