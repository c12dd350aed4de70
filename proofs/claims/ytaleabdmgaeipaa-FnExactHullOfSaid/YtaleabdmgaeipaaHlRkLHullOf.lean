import Derived.Test.YtaleabdmgaeipaaHlRkHu
import Derived.Test.YtaleabdmgaeipaaHlTyG
namespace Go.Proofs.Ytaleabdmgaeipaa
set_option linter.unusedVariables false
set_option linter.unusedSimpArgs false
open Go.RowKit
def szVecS_con : Con := { ι := (List (List Dat)) × Int, pre := fun i => Dat.has (.sl 40 [.int, .int]) (.sl i.1) ∧ 0 ≤ i.2 ∧ i.2 ≤ 1048576, args := fun i => [.one (.sl 33 [.int, .int] i.1), .one (.im (.int .i64 i.2))], res := fun i => ⟨false, [none], [.im (Value.int .i64 (szR (i.1.length + szRows i.1) i.2))]⟩ }
set_option maxRecDepth 100000 in
theorem szVecS_ok : szVecS_con.Ok Try.prog 7 := by
  refine fn_ok (X := ⟨tt, [], [], 12⟩) mixed tt_ok (CTok.nil _) Try.func7 (by decide) rfl rfl rfl (fun _ => Nat.le_of_ble_eq_true rfl) (fun _ => Nat.le_of_ble_eq_true rfl) (fun _ => []) ?_
  rintro ⟨l, n⟩ hpre
  have hpre : Dat.has (.sl 40 [.int, .int]) (.sl l) ∧ 0 ≤ n ∧ n ≤ 1048576 := hpre
  refine by_nf (q := ((decide ((IntKind.i64.wrap (n - ((l.length : Nat) : Int))) < (0 : Int))) = true → ((Value.int .i64 (-1 : Int) = Value.int .i64 (szR (l.length + szRows l) n)))) ∧ ((decide ((IntKind.i64.wrap (n - ((l.length : Nat) : Int))) < (0 : Int))) = false → ((Value.int .i64 (IntKind.i64.wrap (n - ((l.length : Nat) : Int))) = Value.int .i64 (szR (l.length + szRows l) n))))) (by kernel_rfl) ?_
  obtain ⟨hh, h0, h1⟩ := hpre
  have hz := has_leaf (by decide) hh
  simp only [Dat.has] at hh
  obtain ⟨hl, -⟩ := hh
  have hw : IntKind.i64.wrap (n - (l.length : Int)) = n - l.length := wrap64 (by omega) (by omega)
  refine ⟨fun c1 => ?_, fun c1 => ?_⟩
  · skip
    try simp only [nrm] at c1
    refine vint ?_; try rw [hw] at *; grind [szR]
  · skip
    try simp only [nrm] at c1
    refine vint ?_; try rw [hw] at *; grind [szR]
def eqVecS_con : Con := { ι := (List (List Dat)), pre := fun i => True, args := fun i => [.one (.sl 40 [.int, .int] i), .one (.sl 40 [.int, .int] i)], res := fun i => ⟨false, [none], [.im (Value.bool true)]⟩ }
theorem eqVecS_ok : eqVecS_con.Ok Try.prog 11 := eqO_ok (.sl 40 [.int, .int]) ⟨_, Try.func11, by decide, rfl⟩ (fun _ => rfl) (fun _ => rfl) (fun d v u w h h' => by obtain ⟨l, _, _, rfl, _⟩ := Rd.sl_inv h; exact eqVecS_c l v u w h h')
def toVecS_con : Con := { ι := (List (List Dat)), pre := fun i => i.length + szRows i ≤ 1048576, args := fun i => [.one (.sl 33 [.int, .int] i)], res := fun i => ⟨false, [none], [.own 40 [.int, .int] i]⟩ }
theorem toVecS_ok : toVecS_con.Ok Try.prog 9 := toO_ok 40 [.int, .int] ⟨_, Try.func9, by decide, rfl⟩ (fun _ => rfl) (fun _ => rfl) (fun _ => rfl) (fun _ h => h) (fun ls h v w => toVecS_c ls h v w)
def markVecS_con : Con := { ι := (List (List Dat)) × Int, pre := fun i => 0 ≤ i.2 ∧ i.2 + (cntRows i.1 : Int) ≤ 4611686018427387904, args := fun i => [.one (.sl 40 [.int, .int] i.1), .one (.im (.int .i64 i.2))], mu := [0], new := fun i => [mkRows i.2 i.1], res := fun i => ⟨false, [none], [.im (Value.int .i64 (i.2 + (cntRows i.1 : Int)))]⟩ }
theorem markVecS_ok : markVecS_con.Ok Try.prog 12 := markO_ok 40 [.int, .int] ⟨_, Try.func12, by decide, rfl⟩ (fun _ => rfl) (fun _ h => h) (fun ls k h0 h1 bs hn v w => markVecS_c ls k h0 h1 bs hn v w)
def heldVecS_con : Con := { ι := (List (List Dat)) × Int, pre := fun i => 0 ≤ i.2 ∧ i.2 + (cntRows i.1 : Int) ≤ 4611686018427387904 ∧ Dat.has (.sl 40 [.int, .int]) (.sl i.1), args := fun i => [.one (.sl 40 [.int, .int] (mkRows i.2 i.1)), .one (.im (.int .i64 i.2))], res := fun i => ⟨false, [none], [.im (Value.int .i64 (i.2 + (cntRows i.1 : Int)))]⟩ }
theorem heldVecS_ok : heldVecS_con.Ok Try.prog 13 := heldO_ok (.sl 40 [.int, .int]) ⟨_, Try.func13, by decide, rfl⟩ (fun _ => rfl) (fun _ => rfl) (fun i => i.1) (fun _ => rfl) (fun _ => rfl) (fun _ h => h) (fun ls k h0 h1 w0 v0 hr v w h => heldVecS_c ls k h0 h1 w0 v0 hr v w h)
theorem vecs_rows0 {l : List V2} (h : Dat.has (.sl 40 [.int, .int]) (.sl (vecsD l))) : szRows (vecsD l) = 0 := has_leaf (by decide) h
theorem hul_len (s : List V2) (h : s.all isVec = true) : (hulL s).length ≤ 2 * s.length := by
  unfold hulL
  split
  · omega
  · have h1 := (chain_vec h).2
    have h2 := (chain_vec (rev_all h)).2
    rw [List.length_reverse] at h2
    rw [List.length_append]; omega
theorem hullV_len (l : List V2) : (hullV l).length ≤ 128 := by
  unfold hullV
  split
  · next h =>
    have h1 := hul_len _ (srtU_vec h.2 (Nat.le_refl l.length))
    have h2 := srtU_len l l.length
    omega
  · simp
theorem few_has {l : List V2} (h : l.length ≤ 1000) : Dat.has (.sl 40 [.int, .int]) (.sl (vecsD l)) ∧ (cntRows (vecsD l) : Int) ≤ 2000000000 := by
  have h1 : Dat.has (.sl 40 [.int, .int]) (.sl (vecsD l)) := vecsD_has (by omega)
  refine ⟨h1, cntRows_small h1 ?_ (by simp [KRow, Ty.K])⟩
  rw [vecs_rows0 h1, vecsD_length]; omega
def lawHullOf_con : Con := { ι := (List V2), pre := fun i => Dat.has (.sl 40 [.int, .int]) (.sl (vecsD i)), args := fun i => [.one (.sl 33 [.int, .int] (vecsD i))], res := fun i => ⟨false, [none], [.im (Value.bool true)]⟩ }
set_option maxRecDepth 100000 in
set_option maxHeartbeats 4000000 in
theorem lawHullOf_ok : lawHullOf_con.Ok Try.prog 3 := by
  refine fn_ok (X := ⟨tt, [(7, szVecS_con), (9, toVecS_con), (8, sHull_con), (10, iHull_con), (11, eqVecS_con), (12, markVecS_con), (13, heldVecS_con)], [], 69⟩) mixed tt_ok (CTok.cons szVecS_ok (CTok.cons toVecS_ok (CTok.cons sHull_ok (CTok.cons iHull_ok (CTok.cons eqVecS_ok (CTok.cons markVecS_ok (CTok.cons heldVecS_ok (CTok.nil _)))))))) Try.func3 (by decide) rfl rfl rfl (fun _ => Nat.le_of_ble_eq_true rfl) (fun _ => Nat.le_of_ble_eq_true rfl) (fun _ => []) ?_
  intro (l : List V2) hpre
  have hpre : Dat.has (.sl 40 [.int, .int]) (.sl (vecsD l)) := hpre
  refine by_nf (q := ∃ i1 : (List (List Dat)) × Int, [DA.one (DC.sl 33 [.int, .int] (vecsD l)), DA.one (cI (1048576 : Int))] = szVecS_con.args i1 ∧ szVecS_con.pre i1 ∧ (((decide ((szR (i1.1.length + szRows i1.1) i1.2) < (0 : Int))) = true → ((Value.bool true = Value.bool true))) ∧ ((decide ((szR (i1.1.length + szRows i1.1) i1.2) < (0 : Int))) = false → (∃ i2 : (List (List Dat)), [DA.one (DC.sl 33 [.int, .int] (vecsD l))] = toVecS_con.args i2 ∧ toVecS_con.pre i2 ∧ (∃ i3 : (List V2), [DA.one (DC.sl 40 [.int, .int] i2)] = sHull_con.args i3 ∧ sHull_con.pre i3 ∧ (∃ i4 : (List (List Dat)), [DA.one (DC.sl 33 [.int, .int] (vecsD l))] = toVecS_con.args i4 ∧ toVecS_con.pre i4 ∧ (∃ i5 : (List V2), [DA.one (DC.sl 40 [.int, .int] i4)] = iHull_con.args i5 ∧ iHull_con.pre i5 ∧ (∃ i6 : (List (List Dat)), [DA.one (DC.sl 40 [.int, .int] (vecsD (hullV i5))), DA.one (DC.sl 40 [.int, .int] (vecsD (hullV i3)))] = eqVecS_con.args i6 ∧ eqVecS_con.pre i6 ∧ (((!true) = true → ((Value.bool false = Value.bool true))) ∧ ((!true) = false → (∃ i7 : (List (List Dat)), [DA.one (DC.sl 33 [.int, .int] (vecsD l))] = toVecS_con.args i7 ∧ toVecS_con.pre i7 ∧ (∃ i8 : (List (List Dat)), [DA.one (DC.sl 40 [.int, .int] i4), DA.one (DC.sl 40 [.int, .int] i7)] = eqVecS_con.args i8 ∧ eqVecS_con.pre i8 ∧ (((!true) = true → ((Value.bool false = Value.bool true))) ∧ ((!true) = false → (∃ i9 : (List (List Dat)) × Int, [DA.one (DC.sl 40 [.int, .int] i4), DA.one (cI (1 : Int))] = markVecS_con.args i9 ∧ markVecS_con.pre i9 ∧ (((!(decide ((i9.2 + (cntRows i9.1 : Int)) < (0 : Int)))) = true → (∃ i10 : (List (List Dat)), [DA.one (DC.sl 40 [.int, .int] (vecsD (hullV i5))), DA.one (DC.sl 40 [.int, .int] (vecsD (hullV i3)))] = eqVecS_con.args i10 ∧ eqVecS_con.pre i10 ∧ (((!true) = true → ((Value.bool false = Value.bool true))) ∧ ((!true) = false → (∃ i11 : (List (List Dat)) × Int, [DA.one (DC.sl 40 [.int, .int] (vecsD (hullV i5))), DA.one (cI (1 : Int))] = markVecS_con.args i11 ∧ markVecS_con.pre i11 ∧ (∃ i12 : (List (List Dat)) × Int, [DA.one (DC.sl 40 [.int, .int] (mkRows i11.2 i11.1)), DA.one (cI (1 : Int))] = heldVecS_con.args i12 ∧ heldVecS_con.pre i12 ∧ (((decide ((i12.2 + (cntRows i12.1 : Int)) < (0 : Int))) = true → ((Value.bool false = Value.bool true))) ∧ ((decide ((i12.2 + (cntRows i12.1 : Int)) < (0 : Int))) = false → ((((i12.2 + (cntRows i12.1 : Int)) != (i11.2 + (cntRows i11.1 : Int))) = true → ((Value.bool false = Value.bool true))) ∧ (((i12.2 + (cntRows i12.1 : Int)) != (i11.2 + (cntRows i11.1 : Int))) = false → (∃ i13 : (List (List Dat)), [DA.one (DC.sl 33 [.int, .int] (vecsD l))] = toVecS_con.args i13 ∧ toVecS_con.pre i13 ∧ (∃ i14 : (List V2), [DA.one (DC.sl 40 [.int, .int] i13)] = iHull_con.args i14 ∧ iHull_con.pre i14 ∧ (∃ i15 : (List (List Dat)), [DA.one (DC.sl 40 [.int, .int] (vecsD (hullV i14))), DA.one (DC.sl 40 [.int, .int] (vecsD (hullV i3)))] = eqVecS_con.args i15 ∧ eqVecS_con.pre i15 ∧ (((!true) = true → ((Value.bool false = Value.bool true))) ∧ ((!true) = false → (∃ i16 : (List (List Dat)) × Int, [DA.one (DC.sl 40 [.int, .int] (mkRows i11.2 i11.1)), DA.one (cI (1 : Int))] = heldVecS_con.args i16 ∧ heldVecS_con.pre i16 ∧ (((decide ((i16.2 + (cntRows i16.1 : Int)) < (0 : Int))) = true → ((Value.bool false = Value.bool true))) ∧ ((decide ((i16.2 + (cntRows i16.1 : Int)) < (0 : Int))) = false → ((((i16.2 + (cntRows i16.1 : Int)) != (i11.2 + (cntRows i11.1 : Int))) = true → ((Value.bool false = Value.bool true))) ∧ (((i16.2 + (cntRows i16.1 : Int)) != (i11.2 + (cntRows i11.1 : Int))) = false → ((Value.bool true = Value.bool true)))))))))))))))))))))) ∧ ((!(decide ((i9.2 + (cntRows i9.1 : Int)) < (0 : Int)))) = false → ((Value.bool false = Value.bool true))))))))))))))))))) (by kernel_rfl) ?_
  have hz_l := vecs_rows0 hpre
  refine ⟨((vecsD l), (1048576 : Int)), by
    rfl, by
    show Dat.has (.sl 40 [.int, .int]) (.sl (vecsD l)) ∧ 0 ≤ (1048576 : Int) ∧ (1048576 : Int) ≤ 1048576
    first | trivial | exact ⟨hpre, by omega, by omega⟩ | exact gs_l | exact hl_l | exact ⟨by omega, by omega, hrh⟩ | (refine ⟨?_, ?_⟩ <;> omega), ?_⟩
  refine ⟨fun c4 => ?_, fun c4 => ?_⟩
  · skip
    replace c4 : (decide ((szR ((vecsD l).length + szRows (vecsD l)) (1048576 : Int)) < (0 : Int))) = true := c4
    try simp only [nrm] at c4
    exact rfl
  · skip
    replace c4 : (decide ((szR ((vecsD l).length + szRows (vecsD l)) (1048576 : Int)) < (0 : Int))) = false := c4
    try simp only [nrm] at c4
    have z1 := szR_ge c4
    have gs_l : (vecsD l).length + szRows (vecsD l) ≤ 1048576 := by have := z1.1; have := z1.2; omega
    have hr := few_has (show (hullV l).length ≤ 1000 by have := hullV_len l; omega)
    have hrh := hr.1
    have hrc := hr.2
    have hc_l := cntRows_small hpre gs_l (by simp [KRow, Ty.K])
    have hl_l : l.length ≤ 1048576 := by have := vecsD_length l; omega
    refine ⟨(vecsD l), by
      rfl, by
      show (vecsD l).length + szRows (vecsD l) ≤ 1048576
      first | trivial | exact ⟨hpre, by omega, by omega⟩ | exact gs_l | exact hl_l | exact ⟨by omega, by omega, hrh⟩ | (refine ⟨?_, ?_⟩ <;> omega), ?_⟩
    refine ⟨l, by
      rfl, by
      show l.length ≤ 1048576
      first | trivial | exact ⟨hpre, by omega, by omega⟩ | exact gs_l | exact hl_l | exact ⟨by omega, by omega, hrh⟩ | (refine ⟨?_, ?_⟩ <;> omega), ?_⟩
    refine ⟨(vecsD l), by
      rfl, by
      show (vecsD l).length + szRows (vecsD l) ≤ 1048576
      first | trivial | exact ⟨hpre, by omega, by omega⟩ | exact gs_l | exact hl_l | exact ⟨by omega, by omega, hrh⟩ | (refine ⟨?_, ?_⟩ <;> omega), ?_⟩
    refine ⟨l, by
      rfl, by
      show l.length ≤ 1048576
      first | trivial | exact ⟨hpre, by omega, by omega⟩ | exact gs_l | exact hl_l | exact ⟨by omega, by omega, hrh⟩ | (refine ⟨?_, ?_⟩ <;> omega), ?_⟩
    refine ⟨vecsD (hullV l), by
      rfl, by
      first | trivial | exact ⟨hpre, by omega, by omega⟩ | exact gs_l | exact hl_l | exact ⟨by omega, by omega, hrh⟩ | (refine ⟨?_, ?_⟩ <;> omega), ?_⟩
    refine ⟨fun c21 => ?_, fun c21 => ?_⟩
    · skip
      try simp only [nrm] at c21
      show Value.bool false = Value.bool true
      first | rfl | contradiction | (exfalso; omega) | simp_all
    · skip
      try simp only [nrm] at c21
      refine ⟨(vecsD l), by
        rfl, by
        show (vecsD l).length + szRows (vecsD l) ≤ 1048576
        first | trivial | exact ⟨hpre, by omega, by omega⟩ | exact gs_l | exact hl_l | exact ⟨by omega, by omega, hrh⟩ | (refine ⟨?_, ?_⟩ <;> omega), ?_⟩
      refine ⟨(vecsD l), by
        rfl, by
        first | trivial | exact ⟨hpre, by omega, by omega⟩ | exact gs_l | exact hl_l | exact ⟨by omega, by omega, hrh⟩ | (refine ⟨?_, ?_⟩ <;> omega), ?_⟩
      refine ⟨fun c29 => ?_, fun c29 => ?_⟩
      · skip
        try simp only [nrm] at c29
        show Value.bool false = Value.bool true
        first | rfl | contradiction | (exfalso; omega) | simp_all
      · skip
        try simp only [nrm] at c29
        refine ⟨((vecsD l), (1 : Int)), by
          rfl, by
          show 0 ≤ (1 : Int) ∧ (1 : Int) + (cntRows (vecsD l) : Int) ≤ 4611686018427387904
          first | trivial | exact ⟨hpre, by omega, by omega⟩ | exact gs_l | exact hl_l | exact ⟨by omega, by omega, hrh⟩ | (refine ⟨?_, ?_⟩ <;> omega), ?_⟩
        refine ⟨fun c34 => ?_, fun c34 => ?_⟩
        · skip
          replace c34 : (!(decide (((1 : Int) + (cntRows (vecsD l) : Int)) < (0 : Int)))) = true := c34
          try simp only [nrm] at c34
          refine ⟨vecsD (hullV l), by
            rfl, by
            first | trivial | exact ⟨hpre, by omega, by omega⟩ | exact gs_l | exact hl_l | exact ⟨by omega, by omega, hrh⟩ | (refine ⟨?_, ?_⟩ <;> omega), ?_⟩
          refine ⟨fun c38 => ?_, fun c38 => ?_⟩
          · skip
            try simp only [nrm] at c38
            show Value.bool false = Value.bool true
            first | rfl | contradiction | (exfalso; omega) | simp_all
          · skip
            try simp only [nrm] at c38
            refine ⟨(vecsD (hullV l), (1 : Int)), by
              rfl, by
              show 0 ≤ (1 : Int) ∧ (1 : Int) + (cntRows (vecsD (hullV l)) : Int) ≤ 4611686018427387904
              first | trivial | exact ⟨hpre, by omega, by omega⟩ | exact gs_l | exact hl_l | exact ⟨by omega, by omega, hrh⟩ | (refine ⟨?_, ?_⟩ <;> omega), ?_⟩
            refine ⟨((vecsD (hullV l)), (1 : Int)), by
              rfl, by
              show 0 ≤ (1 : Int) ∧ (1 : Int) + (cntRows (vecsD (hullV l)) : Int) ≤ 4611686018427387904 ∧ Dat.has (.sl 40 [.int, .int]) (.sl (vecsD (hullV l)))
              first | trivial | exact ⟨hpre, by omega, by omega⟩ | exact gs_l | exact hl_l | exact ⟨by omega, by omega, hrh⟩ | (refine ⟨?_, ?_⟩ <;> omega), ?_⟩
            refine ⟨fun c46 => ?_, fun c46 => ?_⟩
            · skip
              replace c46 : (decide (((1 : Int) + (cntRows (vecsD (hullV l)) : Int)) < (0 : Int))) = true := c46
              try simp only [nrm] at c46
              show Value.bool false = Value.bool true
              first | rfl | contradiction | (exfalso; omega) | simp_all
            · skip
              replace c46 : (decide (((1 : Int) + (cntRows (vecsD (hullV l)) : Int)) < (0 : Int))) = false := c46
              try simp only [nrm] at c46
              refine ⟨fun c48 => ?_, fun c48 => ?_⟩
              · skip
                replace c48 : (((1 : Int) + (cntRows (vecsD (hullV l)) : Int)) != ((1 : Int) + (cntRows (vecsD (hullV l)) : Int))) = true := c48
                try simp only [nrm] at c48
                show Value.bool false = Value.bool true
                first | rfl | contradiction | (exfalso; omega) | simp_all
              · skip
                replace c48 : (((1 : Int) + (cntRows (vecsD (hullV l)) : Int)) != ((1 : Int) + (cntRows (vecsD (hullV l)) : Int))) = false := c48
                try simp only [nrm] at c48
                refine ⟨(vecsD l), by
                  rfl, by
                  show (vecsD l).length + szRows (vecsD l) ≤ 1048576
                  first | trivial | exact ⟨hpre, by omega, by omega⟩ | exact gs_l | exact hl_l | exact ⟨by omega, by omega, hrh⟩ | (refine ⟨?_, ?_⟩ <;> omega), ?_⟩
                refine ⟨l, by
                  rfl, by
                  show l.length ≤ 1048576
                  first | trivial | exact ⟨hpre, by omega, by omega⟩ | exact gs_l | exact hl_l | exact ⟨by omega, by omega, hrh⟩ | (refine ⟨?_, ?_⟩ <;> omega), ?_⟩
                refine ⟨vecsD (hullV l), by
                  rfl, by
                  first | trivial | exact ⟨hpre, by omega, by omega⟩ | exact gs_l | exact hl_l | exact ⟨by omega, by omega, hrh⟩ | (refine ⟨?_, ?_⟩ <;> omega), ?_⟩
                refine ⟨fun c59 => ?_, fun c59 => ?_⟩
                · skip
                  try simp only [nrm] at c59
                  show Value.bool false = Value.bool true
                  first | rfl | contradiction | (exfalso; omega) | simp_all
                · skip
                  try simp only [nrm] at c59
                  refine ⟨((vecsD (hullV l)), (1 : Int)), by
                    rfl, by
                    show 0 ≤ (1 : Int) ∧ (1 : Int) + (cntRows (vecsD (hullV l)) : Int) ≤ 4611686018427387904 ∧ Dat.has (.sl 40 [.int, .int]) (.sl (vecsD (hullV l)))
                    first | trivial | exact ⟨hpre, by omega, by omega⟩ | exact gs_l | exact hl_l | exact ⟨by omega, by omega, hrh⟩ | (refine ⟨?_, ?_⟩ <;> omega), ?_⟩
                  refine ⟨fun c64 => ?_, fun c64 => ?_⟩
                  · skip
                    replace c64 : (decide (((1 : Int) + (cntRows (vecsD (hullV l)) : Int)) < (0 : Int))) = true := c64
                    try simp only [nrm] at c64
                    show Value.bool false = Value.bool true
                    first | rfl | contradiction | (exfalso; omega) | simp_all
                  · skip
                    replace c64 : (decide (((1 : Int) + (cntRows (vecsD (hullV l)) : Int)) < (0 : Int))) = false := c64
                    try simp only [nrm] at c64
                    refine ⟨fun c66 => ?_, fun c66 => ?_⟩
                    · skip
                      replace c66 : (((1 : Int) + (cntRows (vecsD (hullV l)) : Int)) != ((1 : Int) + (cntRows (vecsD (hullV l)) : Int))) = true := c66
                      try simp only [nrm] at c66
                      show Value.bool false = Value.bool true
                      first | rfl | contradiction | (exfalso; omega) | simp_all
                    · skip
                      replace c66 : (((1 : Int) + (cntRows (vecsD (hullV l)) : Int)) != ((1 : Int) + (cntRows (vecsD (hullV l)) : Int))) = false := c66
                      try simp only [nrm] at c66
                      exact rfl
        · skip
          replace c34 : (!(decide (((1 : Int) + (cntRows (vecsD l) : Int)) < (0 : Int)))) = false := c34
          try simp only [nrm] at c34
          show Value.bool false = Value.bool true
          first | rfl | contradiction | (exfalso; omega) | simp_all
end Go.Proofs.Ytaleabdmgaeipaa
