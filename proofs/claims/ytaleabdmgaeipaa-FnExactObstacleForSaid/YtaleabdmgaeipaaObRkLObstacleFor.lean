import Derived.Test.YtaleabdmgaeipaaObRkSu
import Derived.Test.YtaleabdmgaeipaaObTyG
namespace Go.Proofs.Ytaleabdmgaeipaa
set_option linter.unusedVariables false
set_option linter.unusedSimpArgs false
open Go.RowKit
def szVecS_con : Con := { ι := (List (List Dat)) × Int, pre := fun i => Dat.has (.sl 40 [.int, .int]) (.sl i.1) ∧ 0 ≤ i.2 ∧ i.2 ≤ 1048576, args := fun i => [.one (.sl 33 [.int, .int] i.1), .one (.im (.int .i64 i.2))], res := fun i => ⟨false, [none], [.im (Value.int .i64 (szR (i.1.length + szRows i.1) i.2))]⟩ }
set_option maxRecDepth 100000 in
theorem szVecS_ok : szVecS_con.Ok Try.prog 7 := by
  refine fn_ok (X := ⟨tt, [], [], 12⟩) mixed tt_ok (CTok.nil _) Try.func7 (by decide) rfl rfl rfl (fun _ => Nat.le_of_ble_eq_true rfl) (fun _ => Nat.le_of_ble_eq_true rfl) (fun _ => []) ?_
  rintro ⟨l, n⟩ hpre
  have hpre : Dat.has (.sl 40 [.int, .int]) (.sl l) ∧ 0 ≤ n ∧ n ≤ 1048576 := hpre
  refine by_nf (q := ((decide ((IntKind.i64.wrap (n - ((l.length : Nat) : Int))) < (0 : Int))) = true → ((Value.int .i64 (-1 : Int) = Value.int .i64 (szR (l.length + szRows l) n)))) ∧ ((decide ((IntKind.i64.wrap (n - ((l.length : Nat) : Int))) < (0 : Int))) = false → ((Value.int .i64 (IntKind.i64.wrap (n - ((l.length : Nat) : Int))) = Value.int .i64 (szR (l.length + szRows l) n))))) (by kernel_rfl) ?_
  obtain ⟨hh, h0, h1⟩ := hpre
  have hz := has_leaf (by decide) hh
  simp only [Dat.has] at hh
  obtain ⟨hl, -⟩ := hh
  have hw : IntKind.i64.wrap (n - (l.length : Int)) = n - l.length := wrap64 (by omega) (by omega)
  refine ⟨fun c1 => ?_, fun c1 => ?_⟩
  · skip
    try simp only [nrm] at c1
    refine vint ?_; try rw [hw] at *; grind [szR]
  · skip
    try simp only [nrm] at c1
    refine vint ?_; try rw [hw] at *; grind [szR]
def eqVecS_con : Con := { ι := (List (List Dat)), pre := fun i => True, args := fun i => [.one (.sl 40 [.int, .int] i), .one (.sl 40 [.int, .int] i)], res := fun i => ⟨false, [none], [.im (Value.bool true)]⟩ }
theorem eqVecS_ok : eqVecS_con.Ok Try.prog 11 := eqO_ok (.sl 40 [.int, .int]) ⟨_, Try.func11, by decide, rfl⟩ (fun _ => rfl) (fun _ => rfl) (fun d v u w h h' => by obtain ⟨l, _, _, rfl, _⟩ := Rd.sl_inv h; exact eqVecS_c l v u w h h')
def toVecS_con : Con := { ι := (List (List Dat)), pre := fun i => i.length + szRows i ≤ 1048576, args := fun i => [.one (.sl 33 [.int, .int] i)], res := fun i => ⟨false, [none], [.own 40 [.int, .int] i]⟩ }
theorem toVecS_ok : toVecS_con.Ok Try.prog 9 := toO_ok 40 [.int, .int] ⟨_, Try.func9, by decide, rfl⟩ (fun _ => rfl) (fun _ => rfl) (fun _ => rfl) (fun _ h => h) (fun ls h v w => toVecS_c ls h v w)
def markVecS_con : Con := { ι := (List (List Dat)) × Int, pre := fun i => 0 ≤ i.2 ∧ i.2 + (cntRows i.1 : Int) ≤ 4611686018427387904, args := fun i => [.one (.sl 40 [.int, .int] i.1), .one (.im (.int .i64 i.2))], mu := [0], new := fun i => [mkRows i.2 i.1], res := fun i => ⟨false, [none], [.im (Value.int .i64 (i.2 + (cntRows i.1 : Int)))]⟩ }
theorem markVecS_ok : markVecS_con.Ok Try.prog 12 := markO_ok 40 [.int, .int] ⟨_, Try.func12, by decide, rfl⟩ (fun _ => rfl) (fun _ h => h) (fun ls k h0 h1 bs hn v w => markVecS_c ls k h0 h1 bs hn v w)
def heldVecS_con : Con := { ι := (List (List Dat)) × Int, pre := fun i => 0 ≤ i.2 ∧ i.2 + (cntRows i.1 : Int) ≤ 4611686018427387904 ∧ Dat.has (.sl 40 [.int, .int]) (.sl i.1), args := fun i => [.one (.sl 40 [.int, .int] (mkRows i.2 i.1)), .one (.im (.int .i64 i.2))], res := fun i => ⟨false, [none], [.im (Value.int .i64 (i.2 + (cntRows i.1 : Int)))]⟩ }
theorem heldVecS_ok : heldVecS_con.Ok Try.prog 13 := heldO_ok (.sl 40 [.int, .int]) ⟨_, Try.func13, by decide, rfl⟩ (fun _ => rfl) (fun _ => rfl) (fun i => i.1) (fun _ => rfl) (fun _ => rfl) (fun _ h => h) (fun ls k h0 h1 w0 v0 hr v w h => heldVecS_c ls k h0 h1 w0 v0 hr v w h)
theorem vecs_rows0 {l : List V2} (h : Dat.has (.sl 40 [.int, .int]) (.sl (vecsD l))) : szRows (vecsD l) = 0 := has_leaf (by decide) h
theorem hul_len (s : List V2) (h : s.all isVec = true) : (hulL s).length ≤ 2 * s.length := by
  unfold hulL
  split
  · omega
  · have h1 := (chain_vec h).2
    have h2 := (chain_vec (rev_all h)).2
    rw [List.length_reverse] at h2
    rw [List.length_append]; omega
theorem hullV_len (l : List V2) : (hullV l).length ≤ 128 := by
  unfold hullV
  split
  · next h =>
    have h1 := hul_len _ (srtU_vec h.2 (Nat.le_refl l.length))
    have h2 := srtU_len l l.length
    omega
  · simp
theorem few_has {l : List V2} (h : l.length ≤ 1000) : Dat.has (.sl 40 [.int, .int]) (.sl (vecsD l)) ∧ (cntRows (vecsD l) : Int) ≤ 2000000000 := by
  have h1 : Dat.has (.sl 40 [.int, .int]) (.sl (vecsD l)) := vecsD_has (by omega)
  refine ⟨h1, cntRows_small h1 ?_ (by simp [KRow, Ty.K])⟩
  rw [vecs_rows0 h1, vecsD_length]; omega
theorem sumV_len (a b : List V2) : (sumV a b).length ≤ 128 := by
  unfold sumV
  split
  · exact hullV_len _
  · simp
theorem obsV_len (a b : List V2) : (obsV a b).length ≤ 128 := sumV_len _ _
def lawObstacleFor_con : Con := { ι := (List V2) × (List V2), pre := fun i => Dat.has (.sl 40 [.int, .int]) (.sl (vecsD i.1)) ∧ Dat.has (.sl 40 [.int, .int]) (.sl (vecsD i.2)), args := fun i => [.one (.sl 33 [.int, .int] (vecsD i.1)), .one (.sl 33 [.int, .int] (vecsD i.2))], res := fun i => ⟨false, [none], [.im (Value.bool true)]⟩ }
set_option maxRecDepth 100000 in
set_option maxHeartbeats 4000000 in
theorem lawObstacleFor_ok : lawObstacleFor_con.Ok Try.prog 5 := by
  refine fn_ok (X := ⟨tt, [(7, szVecS_con), (9, toVecS_con), (16, sObs_con), (17, iObs_con), (11, eqVecS_con), (12, markVecS_con), (13, heldVecS_con)], [], 92⟩) mixed tt_ok (CTok.cons szVecS_ok (CTok.cons toVecS_ok (CTok.cons sObs_ok (CTok.cons iObs_ok (CTok.cons eqVecS_ok (CTok.cons markVecS_ok (CTok.cons heldVecS_ok (CTok.nil _)))))))) Try.func5 (by decide) rfl rfl rfl (fun _ => Nat.le_of_ble_eq_true rfl) (fun _ => Nat.le_of_ble_eq_true rfl) (fun _ => []) ?_
  rintro ⟨a, b⟩ hpre
  have hpre : Dat.has (.sl 40 [.int, .int]) (.sl (vecsD a)) ∧ Dat.has (.sl 40 [.int, .int]) (.sl (vecsD b)) := hpre
  refine by_nf (q := ∃ i1 : (List (List Dat)) × Int, [DA.one (DC.sl 33 [.int, .int] (vecsD a)), DA.one (cI (1048576 : Int))] = szVecS_con.args i1 ∧ szVecS_con.pre i1 ∧ (((decide ((szR (i1.1.length + szRows i1.1) i1.2) < (0 : Int))) = true → ((Value.bool true = Value.bool true))) ∧ ((decide ((szR (i1.1.length + szRows i1.1) i1.2) < (0 : Int))) = false → (∃ i2 : (List (List Dat)) × Int, [DA.one (DC.sl 33 [.int, .int] (vecsD b)), DA.one (cI (szR (i1.1.length + szRows i1.1) i1.2))] = szVecS_con.args i2 ∧ szVecS_con.pre i2 ∧ (((decide ((szR (i2.1.length + szRows i2.1) i2.2) < (0 : Int))) = true → ((Value.bool true = Value.bool true))) ∧ ((decide ((szR (i2.1.length + szRows i2.1) i2.2) < (0 : Int))) = false → (∃ i3 : (List (List Dat)), [DA.one (DC.sl 33 [.int, .int] (vecsD a))] = toVecS_con.args i3 ∧ toVecS_con.pre i3 ∧ (∃ i4 : (List (List Dat)), [DA.one (DC.sl 33 [.int, .int] (vecsD b))] = toVecS_con.args i4 ∧ toVecS_con.pre i4 ∧ (∃ i5 : (List V2) × (List V2), [DA.one (DC.sl 40 [.int, .int] i3), DA.one (DC.sl 40 [.int, .int] i4)] = sObs_con.args i5 ∧ sObs_con.pre i5 ∧ (∃ i6 : (List (List Dat)), [DA.one (DC.sl 33 [.int, .int] (vecsD a))] = toVecS_con.args i6 ∧ toVecS_con.pre i6 ∧ (∃ i7 : (List (List Dat)), [DA.one (DC.sl 33 [.int, .int] (vecsD b))] = toVecS_con.args i7 ∧ toVecS_con.pre i7 ∧ (∃ i8 : (List V2) × (List V2), [DA.one (DC.sl 40 [.int, .int] i6), DA.one (DC.sl 40 [.int, .int] i7)] = iObs_con.args i8 ∧ iObs_con.pre i8 ∧ (∃ i9 : (List (List Dat)), [DA.one (DC.sl 40 [.int, .int] (vecsD (obsV i8.1 i8.2))), DA.one (DC.sl 40 [.int, .int] (vecsD (obsV i5.1 i5.2)))] = eqVecS_con.args i9 ∧ eqVecS_con.pre i9 ∧ (((!true) = true → ((Value.bool false = Value.bool true))) ∧ ((!true) = false → (∃ i10 : (List (List Dat)), [DA.one (DC.sl 33 [.int, .int] (vecsD a))] = toVecS_con.args i10 ∧ toVecS_con.pre i10 ∧ (∃ i11 : (List (List Dat)), [DA.one (DC.sl 40 [.int, .int] i6), DA.one (DC.sl 40 [.int, .int] i10)] = eqVecS_con.args i11 ∧ eqVecS_con.pre i11 ∧ (((!true) = true → ((Value.bool false = Value.bool true))) ∧ ((!true) = false → (∃ i12 : (List (List Dat)), [DA.one (DC.sl 33 [.int, .int] (vecsD b))] = toVecS_con.args i12 ∧ toVecS_con.pre i12 ∧ (∃ i13 : (List (List Dat)), [DA.one (DC.sl 40 [.int, .int] i7), DA.one (DC.sl 40 [.int, .int] i12)] = eqVecS_con.args i13 ∧ eqVecS_con.pre i13 ∧ (((!true) = true → ((Value.bool false = Value.bool true))) ∧ ((!true) = false → (∃ i14 : (List (List Dat)) × Int, [DA.one (DC.sl 40 [.int, .int] i6), DA.one (cI (1 : Int))] = markVecS_con.args i14 ∧ markVecS_con.pre i14 ∧ (∃ i15 : (List (List Dat)) × Int, [DA.one (DC.sl 40 [.int, .int] i7), DA.one (cI (i14.2 + (cntRows i14.1 : Int)))] = markVecS_con.args i15 ∧ markVecS_con.pre i15 ∧ (((!(decide ((i15.2 + (cntRows i15.1 : Int)) < (0 : Int)))) = true → (∃ i16 : (List (List Dat)), [DA.one (DC.sl 40 [.int, .int] (vecsD (obsV i8.1 i8.2))), DA.one (DC.sl 40 [.int, .int] (vecsD (obsV i5.1 i5.2)))] = eqVecS_con.args i16 ∧ eqVecS_con.pre i16 ∧ (((!true) = true → ((Value.bool false = Value.bool true))) ∧ ((!true) = false → (∃ i17 : (List (List Dat)) × Int, [DA.one (DC.sl 40 [.int, .int] (vecsD (obsV i8.1 i8.2))), DA.one (cI (1 : Int))] = markVecS_con.args i17 ∧ markVecS_con.pre i17 ∧ (∃ i18 : (List (List Dat)) × Int, [DA.one (DC.sl 40 [.int, .int] (mkRows i17.2 i17.1)), DA.one (cI (1 : Int))] = heldVecS_con.args i18 ∧ heldVecS_con.pre i18 ∧ (((decide ((i18.2 + (cntRows i18.1 : Int)) < (0 : Int))) = true → ((Value.bool false = Value.bool true))) ∧ ((decide ((i18.2 + (cntRows i18.1 : Int)) < (0 : Int))) = false → ((((i18.2 + (cntRows i18.1 : Int)) != (i17.2 + (cntRows i17.1 : Int))) = true → ((Value.bool false = Value.bool true))) ∧ (((i18.2 + (cntRows i18.1 : Int)) != (i17.2 + (cntRows i17.1 : Int))) = false → (∃ i19 : (List (List Dat)), [DA.one (DC.sl 33 [.int, .int] (vecsD a))] = toVecS_con.args i19 ∧ toVecS_con.pre i19 ∧ (∃ i20 : (List (List Dat)), [DA.one (DC.sl 33 [.int, .int] (vecsD b))] = toVecS_con.args i20 ∧ toVecS_con.pre i20 ∧ (∃ i21 : (List V2) × (List V2), [DA.one (DC.sl 40 [.int, .int] i19), DA.one (DC.sl 40 [.int, .int] i20)] = iObs_con.args i21 ∧ iObs_con.pre i21 ∧ (∃ i22 : (List (List Dat)), [DA.one (DC.sl 40 [.int, .int] (vecsD (obsV i21.1 i21.2))), DA.one (DC.sl 40 [.int, .int] (vecsD (obsV i5.1 i5.2)))] = eqVecS_con.args i22 ∧ eqVecS_con.pre i22 ∧ (((!true) = true → ((Value.bool false = Value.bool true))) ∧ ((!true) = false → (∃ i23 : (List (List Dat)) × Int, [DA.one (DC.sl 40 [.int, .int] (mkRows i17.2 i17.1)), DA.one (cI (1 : Int))] = heldVecS_con.args i23 ∧ heldVecS_con.pre i23 ∧ (((decide ((i23.2 + (cntRows i23.1 : Int)) < (0 : Int))) = true → ((Value.bool false = Value.bool true))) ∧ ((decide ((i23.2 + (cntRows i23.1 : Int)) < (0 : Int))) = false → ((((i23.2 + (cntRows i23.1 : Int)) != (i17.2 + (cntRows i17.1 : Int))) = true → ((Value.bool false = Value.bool true))) ∧ (((i23.2 + (cntRows i23.1 : Int)) != (i17.2 + (cntRows i17.1 : Int))) = false → ((Value.bool true = Value.bool true))))))))))))))))))))))) ∧ ((!(decide ((i15.2 + (cntRows i15.1 : Int)) < (0 : Int)))) = false → ((Value.bool false = Value.bool true))))))))))))))))))))))))))))) (by kernel_rfl) ?_
  have hz_a := vecs_rows0 hpre.1
  have hz_b := vecs_rows0 hpre.2
  refine ⟨((vecsD a), (1048576 : Int)), by
    rfl, by
    show Dat.has (.sl 40 [.int, .int]) (.sl (vecsD a)) ∧ 0 ≤ (1048576 : Int) ∧ (1048576 : Int) ≤ 1048576
    first | trivial | exact ⟨hpre.1, by omega, by omega⟩ | exact ⟨hpre.2, c4, by have := z1.1; omega⟩ | exact ⟨hl_a, hl_b⟩ | exact gs_a | exact hl_a | exact gs_b | exact hl_b | exact ⟨by omega, by omega, hrh⟩ | (refine ⟨?_, ?_⟩ <;> omega), ?_⟩
  refine ⟨fun c4 => ?_, fun c4 => ?_⟩
  · skip
    replace c4 : (decide ((szR ((vecsD a).length + szRows (vecsD a)) (1048576 : Int)) < (0 : Int))) = true := c4
    try simp only [nrm] at c4
    exact rfl
  · skip
    replace c4 : (decide ((szR ((vecsD a).length + szRows (vecsD a)) (1048576 : Int)) < (0 : Int))) = false := c4
    try simp only [nrm] at c4
    have z1 := szR_ge c4
    have gs_a : (vecsD a).length + szRows (vecsD a) ≤ 1048576 := by have := z1.1; have := z1.2; omega
    refine ⟨((vecsD b), (szR ((vecsD a).length + szRows (vecsD a)) (1048576 : Int))), by
      rfl, by
      show Dat.has (.sl 40 [.int, .int]) (.sl (vecsD b)) ∧ 0 ≤ (szR ((vecsD a).length + szRows (vecsD a)) (1048576 : Int)) ∧ (szR ((vecsD a).length + szRows (vecsD a)) (1048576 : Int)) ≤ 1048576
      first | trivial | exact ⟨hpre.1, by omega, by omega⟩ | exact ⟨hpre.2, c4, by have := z1.1; omega⟩ | exact ⟨hl_a, hl_b⟩ | exact gs_a | exact hl_a | exact gs_b | exact hl_b | exact ⟨by omega, by omega, hrh⟩ | (refine ⟨?_, ?_⟩ <;> omega), ?_⟩
    refine ⟨fun c9 => ?_, fun c9 => ?_⟩
    · skip
      replace c9 : (decide ((szR ((vecsD b).length + szRows (vecsD b)) (szR ((vecsD a).length + szRows (vecsD a)) (1048576 : Int))) < (0 : Int))) = true := c9
      try simp only [nrm] at c9
      exact rfl
    · skip
      replace c9 : (decide ((szR ((vecsD b).length + szRows (vecsD b)) (szR ((vecsD a).length + szRows (vecsD a)) (1048576 : Int))) < (0 : Int))) = false := c9
      try simp only [nrm] at c9
      have z2 := szR_ge c9
      have gs_b : (vecsD b).length + szRows (vecsD b) ≤ 1048576 := by have := z1.1; have := z2.1; have := z2.2; omega
      have hr := few_has (show (obsV a b).length ≤ 1000 by have := obsV_len a b; omega)
      have hrh := hr.1
      have hrc := hr.2
      have hc_a := cntRows_small hpre.1 gs_a (by simp [KRow, Ty.K])
      have hl_a : a.length ≤ 1048576 := by have := vecsD_length a; omega
      have hc_b := cntRows_small hpre.2 gs_b (by simp [KRow, Ty.K])
      have hl_b : b.length ≤ 1048576 := by have := vecsD_length b; omega
      refine ⟨(vecsD a), by
        rfl, by
        show (vecsD a).length + szRows (vecsD a) ≤ 1048576
        first | trivial | exact ⟨hpre.1, by omega, by omega⟩ | exact ⟨hpre.2, c4, by have := z1.1; omega⟩ | exact ⟨hl_a, hl_b⟩ | exact gs_a | exact hl_a | exact gs_b | exact hl_b | exact ⟨by omega, by omega, hrh⟩ | (refine ⟨?_, ?_⟩ <;> omega), ?_⟩
      refine ⟨(vecsD b), by
        rfl, by
        show (vecsD b).length + szRows (vecsD b) ≤ 1048576
        first | trivial | exact ⟨hpre.1, by omega, by omega⟩ | exact ⟨hpre.2, c4, by have := z1.1; omega⟩ | exact ⟨hl_a, hl_b⟩ | exact gs_a | exact hl_a | exact gs_b | exact hl_b | exact ⟨by omega, by omega, hrh⟩ | (refine ⟨?_, ?_⟩ <;> omega), ?_⟩
      refine ⟨(a, b), by
        rfl, by
        show a.length ≤ 1048576 ∧ b.length ≤ 1048576
        first | trivial | exact ⟨hpre.1, by omega, by omega⟩ | exact ⟨hpre.2, c4, by have := z1.1; omega⟩ | exact ⟨hl_a, hl_b⟩ | exact gs_a | exact hl_a | exact gs_b | exact hl_b | exact ⟨by omega, by omega, hrh⟩ | (refine ⟨?_, ?_⟩ <;> omega), ?_⟩
      refine ⟨(vecsD a), by
        rfl, by
        show (vecsD a).length + szRows (vecsD a) ≤ 1048576
        first | trivial | exact ⟨hpre.1, by omega, by omega⟩ | exact ⟨hpre.2, c4, by have := z1.1; omega⟩ | exact ⟨hl_a, hl_b⟩ | exact gs_a | exact hl_a | exact gs_b | exact hl_b | exact ⟨by omega, by omega, hrh⟩ | (refine ⟨?_, ?_⟩ <;> omega), ?_⟩
      refine ⟨(vecsD b), by
        rfl, by
        show (vecsD b).length + szRows (vecsD b) ≤ 1048576
        first | trivial | exact ⟨hpre.1, by omega, by omega⟩ | exact ⟨hpre.2, c4, by have := z1.1; omega⟩ | exact ⟨hl_a, hl_b⟩ | exact gs_a | exact hl_a | exact gs_b | exact hl_b | exact ⟨by omega, by omega, hrh⟩ | (refine ⟨?_, ?_⟩ <;> omega), ?_⟩
      refine ⟨(a, b), by
        rfl, by
        show a.length ≤ 1048576 ∧ b.length ≤ 1048576
        first | trivial | exact ⟨hpre.1, by omega, by omega⟩ | exact ⟨hpre.2, c4, by have := z1.1; omega⟩ | exact ⟨hl_a, hl_b⟩ | exact gs_a | exact hl_a | exact gs_b | exact hl_b | exact ⟨by omega, by omega, hrh⟩ | (refine ⟨?_, ?_⟩ <;> omega), ?_⟩
      refine ⟨vecsD (obsV a b), by
        rfl, by
        first | trivial | exact ⟨hpre.1, by omega, by omega⟩ | exact ⟨hpre.2, c4, by have := z1.1; omega⟩ | exact ⟨hl_a, hl_b⟩ | exact gs_a | exact hl_a | exact gs_b | exact hl_b | exact ⟨by omega, by omega, hrh⟩ | (refine ⟨?_, ?_⟩ <;> omega), ?_⟩
      refine ⟨fun c32 => ?_, fun c32 => ?_⟩
      · skip
        try simp only [nrm] at c32
        show Value.bool false = Value.bool true
        first | rfl | contradiction | (exfalso; omega) | simp_all
      · skip
        try simp only [nrm] at c32
        refine ⟨(vecsD a), by
          rfl, by
          show (vecsD a).length + szRows (vecsD a) ≤ 1048576
          first | trivial | exact ⟨hpre.1, by omega, by omega⟩ | exact ⟨hpre.2, c4, by have := z1.1; omega⟩ | exact ⟨hl_a, hl_b⟩ | exact gs_a | exact hl_a | exact gs_b | exact hl_b | exact ⟨by omega, by omega, hrh⟩ | (refine ⟨?_, ?_⟩ <;> omega), ?_⟩
        refine ⟨(vecsD a), by
          rfl, by
          first | trivial | exact ⟨hpre.1, by omega, by omega⟩ | exact ⟨hpre.2, c4, by have := z1.1; omega⟩ | exact ⟨hl_a, hl_b⟩ | exact gs_a | exact hl_a | exact gs_b | exact hl_b | exact ⟨by omega, by omega, hrh⟩ | (refine ⟨?_, ?_⟩ <;> omega), ?_⟩
        refine ⟨fun c40 => ?_, fun c40 => ?_⟩
        · skip
          try simp only [nrm] at c40
          show Value.bool false = Value.bool true
          first | rfl | contradiction | (exfalso; omega) | simp_all
        · skip
          try simp only [nrm] at c40
          refine ⟨(vecsD b), by
            rfl, by
            show (vecsD b).length + szRows (vecsD b) ≤ 1048576
            first | trivial | exact ⟨hpre.1, by omega, by omega⟩ | exact ⟨hpre.2, c4, by have := z1.1; omega⟩ | exact ⟨hl_a, hl_b⟩ | exact gs_a | exact hl_a | exact gs_b | exact hl_b | exact ⟨by omega, by omega, hrh⟩ | (refine ⟨?_, ?_⟩ <;> omega), ?_⟩
          refine ⟨(vecsD b), by
            rfl, by
            first | trivial | exact ⟨hpre.1, by omega, by omega⟩ | exact ⟨hpre.2, c4, by have := z1.1; omega⟩ | exact ⟨hl_a, hl_b⟩ | exact gs_a | exact hl_a | exact gs_b | exact hl_b | exact ⟨by omega, by omega, hrh⟩ | (refine ⟨?_, ?_⟩ <;> omega), ?_⟩
          refine ⟨fun c48 => ?_, fun c48 => ?_⟩
          · skip
            try simp only [nrm] at c48
            show Value.bool false = Value.bool true
            first | rfl | contradiction | (exfalso; omega) | simp_all
          · skip
            try simp only [nrm] at c48
            refine ⟨((vecsD a), (1 : Int)), by
              rfl, by
              show 0 ≤ (1 : Int) ∧ (1 : Int) + (cntRows (vecsD a) : Int) ≤ 4611686018427387904
              first | trivial | exact ⟨hpre.1, by omega, by omega⟩ | exact ⟨hpre.2, c4, by have := z1.1; omega⟩ | exact ⟨hl_a, hl_b⟩ | exact gs_a | exact hl_a | exact gs_b | exact hl_b | exact ⟨by omega, by omega, hrh⟩ | (refine ⟨?_, ?_⟩ <;> omega), ?_⟩
            refine ⟨((vecsD b), ((1 : Int) + (cntRows (vecsD a) : Int))), by
              rfl, by
              show 0 ≤ ((1 : Int) + (cntRows (vecsD a) : Int)) ∧ ((1 : Int) + (cntRows (vecsD a) : Int)) + (cntRows (vecsD b) : Int) ≤ 4611686018427387904
              first | trivial | exact ⟨hpre.1, by omega, by omega⟩ | exact ⟨hpre.2, c4, by have := z1.1; omega⟩ | exact ⟨hl_a, hl_b⟩ | exact gs_a | exact hl_a | exact gs_b | exact hl_b | exact ⟨by omega, by omega, hrh⟩ | (refine ⟨?_, ?_⟩ <;> omega), ?_⟩
            refine ⟨fun c56 => ?_, fun c56 => ?_⟩
            · skip
              replace c56 : (!(decide ((((1 : Int) + (cntRows (vecsD a) : Int)) + (cntRows (vecsD b) : Int)) < (0 : Int)))) = true := c56
              try simp only [nrm] at c56
              refine ⟨vecsD (obsV a b), by
                rfl, by
                first | trivial | exact ⟨hpre.1, by omega, by omega⟩ | exact ⟨hpre.2, c4, by have := z1.1; omega⟩ | exact ⟨hl_a, hl_b⟩ | exact gs_a | exact hl_a | exact gs_b | exact hl_b | exact ⟨by omega, by omega, hrh⟩ | (refine ⟨?_, ?_⟩ <;> omega), ?_⟩
              refine ⟨fun c60 => ?_, fun c60 => ?_⟩
              · skip
                try simp only [nrm] at c60
                show Value.bool false = Value.bool true
                first | rfl | contradiction | (exfalso; omega) | simp_all
              · skip
                try simp only [nrm] at c60
                refine ⟨(vecsD (obsV a b), (1 : Int)), by
                  rfl, by
                  show 0 ≤ (1 : Int) ∧ (1 : Int) + (cntRows (vecsD (obsV a b)) : Int) ≤ 4611686018427387904
                  first | trivial | exact ⟨hpre.1, by omega, by omega⟩ | exact ⟨hpre.2, c4, by have := z1.1; omega⟩ | exact ⟨hl_a, hl_b⟩ | exact gs_a | exact hl_a | exact gs_b | exact hl_b | exact ⟨by omega, by omega, hrh⟩ | (refine ⟨?_, ?_⟩ <;> omega), ?_⟩
                refine ⟨((vecsD (obsV a b)), (1 : Int)), by
                  rfl, by
                  show 0 ≤ (1 : Int) ∧ (1 : Int) + (cntRows (vecsD (obsV a b)) : Int) ≤ 4611686018427387904 ∧ Dat.has (.sl 40 [.int, .int]) (.sl (vecsD (obsV a b)))
                  first | trivial | exact ⟨hpre.1, by omega, by omega⟩ | exact ⟨hpre.2, c4, by have := z1.1; omega⟩ | exact ⟨hl_a, hl_b⟩ | exact gs_a | exact hl_a | exact gs_b | exact hl_b | exact ⟨by omega, by omega, hrh⟩ | (refine ⟨?_, ?_⟩ <;> omega), ?_⟩
                refine ⟨fun c68 => ?_, fun c68 => ?_⟩
                · skip
                  replace c68 : (decide (((1 : Int) + (cntRows (vecsD (obsV a b)) : Int)) < (0 : Int))) = true := c68
                  try simp only [nrm] at c68
                  show Value.bool false = Value.bool true
                  first | rfl | contradiction | (exfalso; omega) | simp_all
                · skip
                  replace c68 : (decide (((1 : Int) + (cntRows (vecsD (obsV a b)) : Int)) < (0 : Int))) = false := c68
                  try simp only [nrm] at c68
                  refine ⟨fun c70 => ?_, fun c70 => ?_⟩
                  · skip
                    replace c70 : (((1 : Int) + (cntRows (vecsD (obsV a b)) : Int)) != ((1 : Int) + (cntRows (vecsD (obsV a b)) : Int))) = true := c70
                    try simp only [nrm] at c70
                    show Value.bool false = Value.bool true
                    first | rfl | contradiction | (exfalso; omega) | simp_all
                  · skip
                    replace c70 : (((1 : Int) + (cntRows (vecsD (obsV a b)) : Int)) != ((1 : Int) + (cntRows (vecsD (obsV a b)) : Int))) = false := c70
                    try simp only [nrm] at c70
                    refine ⟨(vecsD a), by
                      rfl, by
                      show (vecsD a).length + szRows (vecsD a) ≤ 1048576
                      first | trivial | exact ⟨hpre.1, by omega, by omega⟩ | exact ⟨hpre.2, c4, by have := z1.1; omega⟩ | exact ⟨hl_a, hl_b⟩ | exact gs_a | exact hl_a | exact gs_b | exact hl_b | exact ⟨by omega, by omega, hrh⟩ | (refine ⟨?_, ?_⟩ <;> omega), ?_⟩
                    refine ⟨(vecsD b), by
                      rfl, by
                      show (vecsD b).length + szRows (vecsD b) ≤ 1048576
                      first | trivial | exact ⟨hpre.1, by omega, by omega⟩ | exact ⟨hpre.2, c4, by have := z1.1; omega⟩ | exact ⟨hl_a, hl_b⟩ | exact gs_a | exact hl_a | exact gs_b | exact hl_b | exact ⟨by omega, by omega, hrh⟩ | (refine ⟨?_, ?_⟩ <;> omega), ?_⟩
                    refine ⟨(a, b), by
                      rfl, by
                      show a.length ≤ 1048576 ∧ b.length ≤ 1048576
                      first | trivial | exact ⟨hpre.1, by omega, by omega⟩ | exact ⟨hpre.2, c4, by have := z1.1; omega⟩ | exact ⟨hl_a, hl_b⟩ | exact gs_a | exact hl_a | exact gs_b | exact hl_b | exact ⟨by omega, by omega, hrh⟩ | (refine ⟨?_, ?_⟩ <;> omega), ?_⟩
                    refine ⟨vecsD (obsV a b), by
                      rfl, by
                      first | trivial | exact ⟨hpre.1, by omega, by omega⟩ | exact ⟨hpre.2, c4, by have := z1.1; omega⟩ | exact ⟨hl_a, hl_b⟩ | exact gs_a | exact hl_a | exact gs_b | exact hl_b | exact ⟨by omega, by omega, hrh⟩ | (refine ⟨?_, ?_⟩ <;> omega), ?_⟩
                    refine ⟨fun c84 => ?_, fun c84 => ?_⟩
                    · skip
                      try simp only [nrm] at c84
                      show Value.bool false = Value.bool true
                      first | rfl | contradiction | (exfalso; omega) | simp_all
                    · skip
                      try simp only [nrm] at c84
                      refine ⟨((vecsD (obsV a b)), (1 : Int)), by
                        rfl, by
                        show 0 ≤ (1 : Int) ∧ (1 : Int) + (cntRows (vecsD (obsV a b)) : Int) ≤ 4611686018427387904 ∧ Dat.has (.sl 40 [.int, .int]) (.sl (vecsD (obsV a b)))
                        first | trivial | exact ⟨hpre.1, by omega, by omega⟩ | exact ⟨hpre.2, c4, by have := z1.1; omega⟩ | exact ⟨hl_a, hl_b⟩ | exact gs_a | exact hl_a | exact gs_b | exact hl_b | exact ⟨by omega, by omega, hrh⟩ | (refine ⟨?_, ?_⟩ <;> omega), ?_⟩
                      refine ⟨fun c89 => ?_, fun c89 => ?_⟩
                      · skip
                        replace c89 : (decide (((1 : Int) + (cntRows (vecsD (obsV a b)) : Int)) < (0 : Int))) = true := c89
                        try simp only [nrm] at c89
                        show Value.bool false = Value.bool true
                        first | rfl | contradiction | (exfalso; omega) | simp_all
                      · skip
                        replace c89 : (decide (((1 : Int) + (cntRows (vecsD (obsV a b)) : Int)) < (0 : Int))) = false := c89
                        try simp only [nrm] at c89
                        refine ⟨fun c91 => ?_, fun c91 => ?_⟩
                        · skip
                          replace c91 : (((1 : Int) + (cntRows (vecsD (obsV a b)) : Int)) != ((1 : Int) + (cntRows (vecsD (obsV a b)) : Int))) = true := c91
                          try simp only [nrm] at c91
                          show Value.bool false = Value.bool true
                          first | rfl | contradiction | (exfalso; omega) | simp_all
                        · skip
                          replace c91 : (((1 : Int) + (cntRows (vecsD (obsV a b)) : Int)) != ((1 : Int) + (cntRows (vecsD (obsV a b)) : Int))) = false := c91
                          try simp only [nrm] at c91
                          exact rfl
            · skip
              replace c56 : (!(decide ((((1 : Int) + (cntRows (vecsD a) : Int)) + (cntRows (vecsD b) : Int)) < (0 : Int)))) = false := c56
              try simp only [nrm] at c56
              show Value.bool false = Value.bool true
              first | rfl | contradiction | (exfalso; omega) | simp_all
end Go.Proofs.Ytaleabdmgaeipaa
