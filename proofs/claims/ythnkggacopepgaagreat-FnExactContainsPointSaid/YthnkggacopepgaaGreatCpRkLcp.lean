import Derived.Test.YthnkggacopepgaaGreatCpRkL2
namespace Go.Proofs.YthnkggacopepgaaGreat
set_option linter.unusedVariables false
set_option linter.unusedSimpArgs false
open Go.RowKit
def lawCP_con : Con := { ι := (List V2) × PtD, pre := fun i => Dat.has (.sl 61 [.int, .int]) (.sl (vecsD i.1)) ∧ hasRow [.bool, .sl 3 [.int], .sl 3 [.int], .bool, .sl 3 [.int], .sl 3 [.int]] (ptD i.2), args := fun i => [.one (.sl 54 [.int, .int] (vecsD i.1)), .agg [.im (.bool i.2.x.neg), .sl 3 [.int] i.2.x.num, .sl 3 [.int] i.2.x.den, .im (.bool i.2.y.neg), .sl 3 [.int] i.2.y.num, .sl 3 [.int] i.2.y.den]], res := fun i => ⟨false, [none], [.im (Value.bool true)]⟩ }
set_option maxRecDepth 100000 in
set_option maxHeartbeats 4000000 in
theorem lawCP_ok : lawCP_con.Ok Tryz.prog 3 := by
  refine fn_ok (X := ⟨tt, [(14, szVecS_con), (15, szPoint_con), (17, toVecS_con), (18, toPoint_con), (16, sContains_con), (19, iContains_con), (20, eqVecS_con), (21, eqPoint_con)], [], 45⟩) mixed tt_ok (CTok.cons szVecS_ok (CTok.cons szPoint_ok (CTok.cons toVecS_ok (CTok.cons toPoint_ok (CTok.cons sContains_ok (CTok.cons iContains_ok (CTok.cons eqVecS_ok (CTok.cons eqPoint_ok (CTok.nil _))))))))) Tryz.func3 (by decide) rfl rfl rfl (fun _ => Nat.le_of_ble_eq_true rfl) (fun _ => Nat.le_of_ble_eq_true rfl) (fun _ => []) ?_
  rintro ⟨l, p⟩ hpre
  have hpre : Dat.has (.sl 61 [.int, .int]) (.sl (vecsD l)) ∧ hasRow [.bool, .sl 3 [.int], .sl 3 [.int], .bool, .sl 3 [.int], .sl 3 [.int]] (ptD p) := hpre
  refine by_nf (q := ∃ i1 : (List (List Dat)) × Int, [DA.one (DC.sl 54 [.int, .int] (vecsD l)), DA.one (DC.im (Value.int .i64 (1048576 : Int)))] = szVecS_con.args i1 ∧ szVecS_con.pre i1 ∧ (((decide ((szR (i1.1.length + szRows i1.1) i1.2) < (0 : Int))) = true → ((Value.bool true = Value.bool true))) ∧ ((decide ((szR (i1.1.length + szRows i1.1) i1.2) < (0 : Int))) = false → (∃ i2 : PtD × Int, [DA.agg [DC.im (Value.bool p.x.neg), DC.sl 3 [.int] p.x.num, DC.sl 3 [.int] p.x.den, DC.im (Value.bool p.y.neg), DC.sl 3 [.int] p.y.num, DC.sl 3 [.int] p.y.den], DA.one (DC.im (Value.int .i64 (szR (i1.1.length + szRows i1.1) i1.2)))] = szPoint_con.args i2 ∧ szPoint_con.pre i2 ∧ (((decide ((szR (szRow [.bool i2.1.x.neg, .sl i2.1.x.num, .sl i2.1.x.den, .bool i2.1.y.neg, .sl i2.1.y.num, .sl i2.1.y.den]) i2.2) < (0 : Int))) = true → ((Value.bool true = Value.bool true))) ∧ ((decide ((szR (szRow [.bool i2.1.x.neg, .sl i2.1.x.num, .sl i2.1.x.den, .bool i2.1.y.neg, .sl i2.1.y.num, .sl i2.1.y.den]) i2.2) < (0 : Int))) = false → (∃ i3 : (List (List Dat)), [DA.one (DC.sl 54 [.int, .int] (vecsD l))] = toVecS_con.args i3 ∧ toVecS_con.pre i3 ∧ (∃ i4 : PtD, [DA.agg [DC.im (Value.bool p.x.neg), DC.sl 3 [.int] p.x.num, DC.sl 3 [.int] p.x.den, DC.im (Value.bool p.y.neg), DC.sl 3 [.int] p.y.num, DC.sl 3 [.int] p.y.den]] = toPoint_con.args i4 ∧ toPoint_con.pre i4 ∧ (∃ i5 : (List V2) × PtD, [DA.one (DC.sl 61 [.int, .int] i3), DA.agg [DC.im (Value.bool i4.x.neg), DC.sl 3 [.int] i4.x.num, DC.sl 3 [.int] i4.x.den, DC.im (Value.bool i4.y.neg), DC.sl 3 [.int] i4.y.num, DC.sl 3 [.int] i4.y.den]] = sContains_con.args i5 ∧ sContains_con.pre i5 ∧ (∃ i6 : (List (List Dat)), [DA.one (DC.sl 54 [.int, .int] (vecsD l))] = toVecS_con.args i6 ∧ toVecS_con.pre i6 ∧ (∃ i7 : PtD, [DA.agg [DC.im (Value.bool p.x.neg), DC.sl 3 [.int] p.x.num, DC.sl 3 [.int] p.x.den, DC.im (Value.bool p.y.neg), DC.sl 3 [.int] p.y.num, DC.sl 3 [.int] p.y.den]] = toPoint_con.args i7 ∧ toPoint_con.pre i7 ∧ (∃ i8 : (List V2) × PtD, [DA.one (DC.sl 61 [.int, .int] i6), DA.agg [DC.im (Value.bool i7.x.neg), DC.sl 3 [.int] i7.x.num, DC.sl 3 [.int] i7.x.den, DC.im (Value.bool i7.y.neg), DC.sl 3 [.int] i7.y.num, DC.sl 3 [.int] i7.y.den]] = iContains_con.args i8 ∧ iContains_con.pre i8 ∧ ((((cpZ i8.1 i8.2) != (cpZ i5.1 i5.2)) = true → ((Value.bool false = Value.bool true))) ∧ (((cpZ i8.1 i8.2) != (cpZ i5.1 i5.2)) = false → (∃ i9 : (List (List Dat)), [DA.one (DC.sl 54 [.int, .int] (vecsD l))] = toVecS_con.args i9 ∧ toVecS_con.pre i9 ∧ (∃ i10 : (List (List Dat)), [DA.one (DC.sl 61 [.int, .int] i6), DA.one (DC.sl 61 [.int, .int] i9)] = eqVecS_con.args i10 ∧ eqVecS_con.pre i10 ∧ (((!true) = true → ((Value.bool false = Value.bool true))) ∧ ((!true) = false → (∃ i11 : PtD, [DA.agg [DC.im (Value.bool p.x.neg), DC.sl 3 [.int] p.x.num, DC.sl 3 [.int] p.x.den, DC.im (Value.bool p.y.neg), DC.sl 3 [.int] p.y.num, DC.sl 3 [.int] p.y.den]] = toPoint_con.args i11 ∧ toPoint_con.pre i11 ∧ (∃ i12 : PtD, [DA.agg [DC.im (Value.bool i7.x.neg), DC.sl 3 [.int] i7.x.num, DC.sl 3 [.int] i7.x.den, DC.im (Value.bool i7.y.neg), DC.sl 3 [.int] i7.y.num, DC.sl 3 [.int] i7.y.den], DA.agg [DC.im (Value.bool i11.x.neg), DC.sl 3 [.int] i11.x.num, DC.sl 3 [.int] i11.x.den, DC.im (Value.bool i11.y.neg), DC.sl 3 [.int] i11.y.num, DC.sl 3 [.int] i11.y.den]] = eqPoint_con.args i12 ∧ eqPoint_con.pre i12 ∧ (((!true) = true → ((Value.bool false = Value.bool true))) ∧ ((!true) = false → ((Value.bool true = Value.bool true)))))))))))))))))))))))) (by kernel_rfl) ?_
  have hp1 : hasRow [.bool, .sl 3 [.int], .sl 3 [.int], .bool, .sl 3 [.int], .sl 3 [.int]] [.bool p.x.neg, .sl p.x.num, .sl p.x.den, .bool p.y.neg, .sl p.y.num, .sl p.y.den] := hpre.2
  have hpt := pt_has hpre.2
  have hz0 := vecs_rows0 hpre.1
  refine ⟨((vecsD l), (1048576 : Int)), by
    rfl, by
    show Dat.has (.sl 61 [.int, .int]) (.sl (vecsD l)) ∧ 0 ≤ (1048576 : Int) ∧ (1048576 : Int) ≤ 1048576
    first | trivial | exact hs | exact gs | exact hpt | exact ⟨hpre.1, by omega, by omega⟩ | exact ⟨hp1, c4, by have := z1.1; omega⟩, ?_⟩
  refine ⟨fun c4 => ?_, fun c4 => ?_⟩
  · skip
    replace c4 : (decide ((szR ((vecsD l).length + szRows (vecsD l)) (1048576 : Int)) < (0 : Int))) = true := c4
    try simp only [nrm] at c4
    rfl
  · skip
    replace c4 : (decide ((szR ((vecsD l).length + szRows (vecsD l)) (1048576 : Int)) < (0 : Int))) = false := c4
    try simp only [nrm] at c4
    have z1 := szR_ge c4
    refine ⟨(p, (szR ((vecsD l).length + szRows (vecsD l)) (1048576 : Int))), by
      rfl, by
      show hasRow [.bool, .sl 3 [.int], .sl 3 [.int], .bool, .sl 3 [.int], .sl 3 [.int]] [.bool p.x.neg, .sl p.x.num, .sl p.x.den, .bool p.y.neg, .sl p.y.num, .sl p.y.den] ∧ 0 ≤ (szR ((vecsD l).length + szRows (vecsD l)) (1048576 : Int)) ∧ (szR ((vecsD l).length + szRows (vecsD l)) (1048576 : Int)) ≤ 1048576
      first | trivial | exact hs | exact gs | exact hpt | exact ⟨hpre.1, by omega, by omega⟩ | exact ⟨hp1, c4, by have := z1.1; omega⟩, ?_⟩
    refine ⟨fun c9 => ?_, fun c9 => ?_⟩
    · skip
      replace c9 : (decide ((szR (szRow [.bool p.x.neg, .sl p.x.num, .sl p.x.den, .bool p.y.neg, .sl p.y.num, .sl p.y.den]) (szR ((vecsD l).length + szRows (vecsD l)) (1048576 : Int))) < (0 : Int))) = true := c9
      try simp only [nrm] at c9
      rfl
    · skip
      replace c9 : (decide ((szR (szRow [.bool p.x.neg, .sl p.x.num, .sl p.x.den, .bool p.y.neg, .sl p.y.num, .sl p.y.den]) (szR ((vecsD l).length + szRows (vecsD l)) (1048576 : Int))) < (0 : Int))) = false := c9
      try simp only [nrm] at c9
      have z2 := szR_ge c9
      have hs : (vecsD l).length + szRows (vecsD l) ≤ 1048576 := by have := z1.2; omega
      have gs : szRow [.bool p.x.neg, .sl p.x.num, .sl p.x.den, .bool p.y.neg, .sl p.y.num, .sl p.y.den] ≤ 1048576 := by have := z1.1; have := z2.2; omega
      refine ⟨(vecsD l), by
        rfl, by
        show (vecsD l).length + szRows (vecsD l) ≤ 1048576
        first | trivial | exact hs | exact gs | exact hpt | exact ⟨hpre.1, by omega, by omega⟩ | exact ⟨hp1, c4, by have := z1.1; omega⟩, ?_⟩
      refine ⟨p, by
        rfl, by
        show szRow [.bool p.x.neg, .sl p.x.num, .sl p.x.den, .bool p.y.neg, .sl p.y.num, .sl p.y.den] ≤ 1048576
        first | trivial | exact hs | exact gs | exact hpt | exact ⟨hpre.1, by omega, by omega⟩ | exact ⟨hp1, c4, by have := z1.1; omega⟩, ?_⟩
      refine ⟨(l, p), by
        rfl, by
        show p.has
        first | trivial | exact hs | exact gs | exact hpt | exact ⟨hpre.1, by omega, by omega⟩ | exact ⟨hp1, c4, by have := z1.1; omega⟩, ?_⟩
      refine ⟨(vecsD l), by
        rfl, by
        show (vecsD l).length + szRows (vecsD l) ≤ 1048576
        first | trivial | exact hs | exact gs | exact hpt | exact ⟨hpre.1, by omega, by omega⟩ | exact ⟨hp1, c4, by have := z1.1; omega⟩, ?_⟩
      refine ⟨p, by
        rfl, by
        show szRow [.bool p.x.neg, .sl p.x.num, .sl p.x.den, .bool p.y.neg, .sl p.y.num, .sl p.y.den] ≤ 1048576
        first | trivial | exact hs | exact gs | exact hpt | exact ⟨hpre.1, by omega, by omega⟩ | exact ⟨hp1, c4, by have := z1.1; omega⟩, ?_⟩
      refine ⟨(l, p), by
        rfl, by
        show p.has
        first | trivial | exact hs | exact gs | exact hpt | exact ⟨hpre.1, by omega, by omega⟩ | exact ⟨hp1, c4, by have := z1.1; omega⟩, ?_⟩
      refine ⟨fun c29 => ?_, fun c29 => ?_⟩
      · skip
        replace c29 : ((cpZ l p) != (cpZ l p)) = true := c29
        try simp only [nrm] at c29
        show Value.bool false = Value.bool true
        first | rfl | contradiction | (exfalso; omega) | simp_all
      · skip
        replace c29 : ((cpZ l p) != (cpZ l p)) = false := c29
        try simp only [nrm] at c29
        refine ⟨(vecsD l), by
          rfl, by
          show (vecsD l).length + szRows (vecsD l) ≤ 1048576
          first | trivial | exact hs | exact gs | exact hpt | exact ⟨hpre.1, by omega, by omega⟩ | exact ⟨hp1, c4, by have := z1.1; omega⟩, ?_⟩
        refine ⟨(vecsD l), by
          rfl, by
          first | trivial | exact hs | exact gs | exact hpt | exact ⟨hpre.1, by omega, by omega⟩ | exact ⟨hp1, c4, by have := z1.1; omega⟩, ?_⟩
        refine ⟨fun c37 => ?_, fun c37 => ?_⟩
        · skip
          try simp only [nrm] at c37
          show Value.bool false = Value.bool true
          first | rfl | contradiction | (exfalso; omega) | simp_all
        · skip
          try simp only [nrm] at c37
          refine ⟨p, by
            rfl, by
            show szRow [.bool p.x.neg, .sl p.x.num, .sl p.x.den, .bool p.y.neg, .sl p.y.num, .sl p.y.den] ≤ 1048576
            first | trivial | exact hs | exact gs | exact hpt | exact ⟨hpre.1, by omega, by omega⟩ | exact ⟨hp1, c4, by have := z1.1; omega⟩, ?_⟩
          refine ⟨p, by
            rfl, by
            first | trivial | exact hs | exact gs | exact hpt | exact ⟨hpre.1, by omega, by omega⟩ | exact ⟨hp1, c4, by have := z1.1; omega⟩, ?_⟩
          refine ⟨fun c45 => ?_, fun c45 => ?_⟩
          · skip
            try simp only [nrm] at c45
            show Value.bool false = Value.bool true
            first | rfl | contradiction | (exfalso; omega) | simp_all
          · skip
            try simp only [nrm] at c45
            rfl
end Go.Proofs.YthnkggacopepgaaGreat
