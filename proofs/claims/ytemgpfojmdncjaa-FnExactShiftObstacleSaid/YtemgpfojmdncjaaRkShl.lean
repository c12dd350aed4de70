/-
  The law ShiftObstacle, walked.
-/
import Derived.Test.YtemgpfojmdncjaaRkSi
namespace Go.Proofs.Ytemgpfojmdncjaa
set_option linter.unusedVariables false
set_option linter.unusedSimpArgs false
open Go.RowKit
def toVec_con : Con := { ι := (Int × Int), pre := fun i => szRow [.int i.1, .int i.2] ≤ 1048576, args := fun i => [.agg [.im (.int .i64 i.1), .im (.int .i64 i.2)]], res := fun i => ⟨false, [some 2], [.im (Value.int .i64 i.1), .im (Value.int .i64 i.2)]⟩ }
theorem toVec_ok : toVec_con.Ok Try.prog 36 := toA_ok (out := fun p => [.im (.int .i64 p.1), .im (.int .i64 p.2)]) [.int, .int] ⟨_, Try.func36, by decide, rfl⟩ (fun _ => rfl) (fun _ => rfl) (fun _ => rfl) (fun _ => rfl) (fun _ => rfl) (fun _ => rfl) (fun _ => rfl) (fun _ => Nat.le_of_ble_eq_true rfl) (fun _ h => h) (fun ds h vs w => toVec_c ds h vs w)
theorem ints2 {ds : List Dat} (h : hasRow [.int, .int] ds) : ∃ a b : Int, ds = [.int a, .int b] := by
  obtain ⟨_, _, rfl, q0, h1⟩ := h.cons
  obtain ⟨a, rfl⟩ := Dat.has_int q0
  obtain ⟨_, _, rfl, q1, h2⟩ := h1.cons
  obtain ⟨b, rfl⟩ := Dat.has_int q1
  obtain rfl := hasRow.nil h2
  exact ⟨a, b, rfl⟩
theorem szA_set : ∀ (l : List (List V2)) (k : Nat) (x : List V2), x.length ≤ (l.getD k []).length → szRows (areasD (l.set k x)) ≤ szRows (areasD l)
  | [], k, x, _ => by simp
  | y :: l, 0, x, h => by
    simp only [List.getD_cons_zero] at h
    simp only [List.set_cons_zero, areasD, List.map_cons, szRows, szRow, Dat.sz, vecsD_length, szRows_vecs]
    omega
  | y :: l, k + 1, x, h => by
    have := szA_set l k x (by simpa using h)
    simp only [areasD, List.set_cons_succ, List.map_cons, szRows] at this ⊢
    omega
theorem shOb_sz {s : Scn} {k dx dy : Int} (h : szRow (scnD s) ≤ 1048576) : szRow (scnD (shOb s k dx dy)) ≤ 1048576 := by
  cases hb : shOk s k dx dy with
  | false => rw [shOb_no hb]; exact h
  | true =>
    rw [shOb_yes hb]
    have := szA_set s.obst k.toNat (mvPoly (s.obst.getD k.toNat []) dx dy) (mvPoly_len _ _ _)
    simp only [scnD, szRow, Dat.sz, vecsD_length, areasD_length, mvOb, withOb, List.length_set] at h ⊢
    omega
def lawShift_con : Con := { ι := Scn × Int × Int × Int, pre := fun i => hasRow [.int, .int, .int, .int, .sl 31 [.int, .int], .sl 36 [.sl 31 [.int, .int]], .sl 31 [.int, .int]] (scnD i.1), args := fun i => [.agg [.im (.int .i64 i.1.low.1), .im (.int .i64 i.1.low.2), .im (.int .i64 i.1.high.1), .im (.int .i64 i.1.high.2), .sl 25 [.int, .int] (vecsD i.1.robot), .sl 26 [.sl 25 [.int, .int]] (areasD i.1.obst), .sl 25 [.int, .int] (vecsD i.1.tables)], .one (.im (.int .i64 i.2.1)), .agg [.im (.int .i64 i.2.2.1), .im (.int .i64 i.2.2.2)]], res := fun i => ⟨false, [none], [.im (Value.bool true)]⟩ }
set_option maxRecDepth 100000 in
set_option maxHeartbeats 4000000 in
theorem lawShift_ok : lawShift_con.Ok Try.prog 7 := by
  refine fn_ok (X := ⟨tt, [(14, szScene_con), (16, toScene_con), (36, toVec_con), (35, sShiftObstacle_con), (37, iShiftObstacle_con), (19, eqScene_con), (33, markScene_con), (34, heldScene_con)], [], 109⟩) mixed tt_ok (CTok.cons szScene_ok (CTok.cons toScene_ok (CTok.cons toVec_ok (CTok.cons sShiftObstacle_ok (CTok.cons iShiftObstacle_ok (CTok.cons eqScene_ok (CTok.cons markScene_ok (CTok.cons heldScene_ok (CTok.nil _))))))))) Try.func7 (by decide) rfl rfl rfl (fun _ => Nat.le_of_ble_eq_true rfl) (fun _ => Nat.le_of_ble_eq_true rfl) (fun _ => []) ?_
  rintro ⟨s, k, dx, dy⟩ hpre
  have hpre : hasRow [.int, .int, .int, .int, .sl 31 [.int, .int], .sl 36 [.sl 31 [.int, .int]], .sl 31 [.int, .int]] (scnD s) := hpre
  refine by_nf (q := ∃ i1 : Scn × Int, [DA.agg [DC.im (Value.int .i64 s.low.1), DC.im (Value.int .i64 s.low.2), DC.im (Value.int .i64 s.high.1), DC.im (Value.int .i64 s.high.2), DC.sl 25 [.int, .int] (vecsD s.robot), DC.sl 26 [.sl 25 [.int, .int]] (areasD s.obst), DC.sl 25 [.int, .int] (vecsD s.tables)], DA.one (DC.im (Value.int .i64 (1048576 : Int)))] = szScene_con.args i1 ∧ szScene_con.pre i1 ∧ (((decide ((szR (szRow [.int i1.1.low.1, .int i1.1.low.2, .int i1.1.high.1, .int i1.1.high.2, .sl (vecsD i1.1.robot), .sl (areasD i1.1.obst), .sl (vecsD i1.1.tables)]) i1.2) < (0 : Int))) = true → ((Value.bool true = Value.bool true))) ∧ ((decide ((szR (szRow [.int i1.1.low.1, .int i1.1.low.2, .int i1.1.high.1, .int i1.1.high.2, .sl (vecsD i1.1.robot), .sl (areasD i1.1.obst), .sl (vecsD i1.1.tables)]) i1.2) < (0 : Int))) = false → (∃ i2 : Scn, [DA.agg [DC.im (Value.int .i64 s.low.1), DC.im (Value.int .i64 s.low.2), DC.im (Value.int .i64 s.high.1), DC.im (Value.int .i64 s.high.2), DC.sl 25 [.int, .int] (vecsD s.robot), DC.sl 26 [.sl 25 [.int, .int]] (areasD s.obst), DC.sl 25 [.int, .int] (vecsD s.tables)]] = toScene_con.args i2 ∧ toScene_con.pre i2 ∧ (∃ i3 : (Int × Int), [DA.agg [DC.im (Value.int .i64 dx), DC.im (Value.int .i64 dy)]] = toVec_con.args i3 ∧ toVec_con.pre i3 ∧ (∃ i4 : Scn × Int × Int × Int, [DA.agg [DC.im (Value.int .i64 i2.low.1), DC.im (Value.int .i64 i2.low.2), DC.im (Value.int .i64 i2.high.1), DC.im (Value.int .i64 i2.high.2), DC.sl 31 [.int, .int] (vecsD i2.robot), DC.sl 36 [.sl 31 [.int, .int]] (areasD i2.obst), DC.sl 31 [.int, .int] (vecsD i2.tables)], DA.one (DC.im (Value.int .i64 k)), DA.agg [DC.im (Value.int .i64 i3.1), DC.im (Value.int .i64 i3.2)]] = sShiftObstacle_con.args i4 ∧ sShiftObstacle_con.pre i4 ∧ (∃ i5 : Scn, [DA.agg [DC.im (Value.int .i64 s.low.1), DC.im (Value.int .i64 s.low.2), DC.im (Value.int .i64 s.high.1), DC.im (Value.int .i64 s.high.2), DC.sl 25 [.int, .int] (vecsD s.robot), DC.sl 26 [.sl 25 [.int, .int]] (areasD s.obst), DC.sl 25 [.int, .int] (vecsD s.tables)]] = toScene_con.args i5 ∧ toScene_con.pre i5 ∧ (∃ i6 : (Int × Int), [DA.agg [DC.im (Value.int .i64 dx), DC.im (Value.int .i64 dy)]] = toVec_con.args i6 ∧ toVec_con.pre i6 ∧ (∃ i7 : Scn × Int × Int × Int, [DA.agg [DC.im (Value.int .i64 i5.low.1), DC.im (Value.int .i64 i5.low.2), DC.im (Value.int .i64 i5.high.1), DC.im (Value.int .i64 i5.high.2), DC.sl 31 [.int, .int] (vecsD i5.robot), DC.sl 36 [.sl 31 [.int, .int]] (areasD i5.obst), DC.sl 31 [.int, .int] (vecsD i5.tables)], DA.one (DC.im (Value.int .i64 k)), DA.agg [DC.im (Value.int .i64 i6.1), DC.im (Value.int .i64 i6.2)]] = iShiftObstacle_con.args i7 ∧ iShiftObstacle_con.pre i7 ∧ (∃ i8 : Scn, [DA.agg [DC.im (Value.int .i64 ((shOb i7.1 i7.2.1 i7.2.2.1 i7.2.2.2).low.1)), DC.im (Value.int .i64 ((shOb i7.1 i7.2.1 i7.2.2.1 i7.2.2.2).low.2)), DC.im (Value.int .i64 ((shOb i7.1 i7.2.1 i7.2.2.1 i7.2.2.2).high.1)), DC.im (Value.int .i64 ((shOb i7.1 i7.2.1 i7.2.2.1 i7.2.2.2).high.2)), DC.sl 31 [.int, .int] (vecsD (shOb i7.1 i7.2.1 i7.2.2.1 i7.2.2.2).robot), DC.sl 36 [.sl 31 [.int, .int]] (areasD (shOb i7.1 i7.2.1 i7.2.2.1 i7.2.2.2).obst), DC.sl 31 [.int, .int] (vecsD (shOb i7.1 i7.2.1 i7.2.2.1 i7.2.2.2).tables)], DA.agg [DC.im (Value.int .i64 ((shOb i4.1 i4.2.1 i4.2.2.1 i4.2.2.2).low.1)), DC.im (Value.int .i64 ((shOb i4.1 i4.2.1 i4.2.2.1 i4.2.2.2).low.2)), DC.im (Value.int .i64 ((shOb i4.1 i4.2.1 i4.2.2.1 i4.2.2.2).high.1)), DC.im (Value.int .i64 ((shOb i4.1 i4.2.1 i4.2.2.1 i4.2.2.2).high.2)), DC.sl 31 [.int, .int] (vecsD (shOb i4.1 i4.2.1 i4.2.2.1 i4.2.2.2).robot), DC.sl 36 [.sl 31 [.int, .int]] (areasD (shOb i4.1 i4.2.1 i4.2.2.1 i4.2.2.2).obst), DC.sl 31 [.int, .int] (vecsD (shOb i4.1 i4.2.1 i4.2.2.1 i4.2.2.2).tables)]] = eqScene_con.args i8 ∧ eqScene_con.pre i8 ∧ (((!(!true)) = true → ((((shOk i7.1 i7.2.1 i7.2.2.1 i7.2.2.2) != (shOk i4.1 i4.2.1 i4.2.2.1 i4.2.2.2)) = true → ((Value.bool false = Value.bool true))) ∧ (((shOk i7.1 i7.2.1 i7.2.2.1 i7.2.2.2) != (shOk i4.1 i4.2.1 i4.2.2.1 i4.2.2.2)) = false → (∃ i9 : Scn, [DA.agg [DC.im (Value.int .i64 s.low.1), DC.im (Value.int .i64 s.low.2), DC.im (Value.int .i64 s.high.1), DC.im (Value.int .i64 s.high.2), DC.sl 25 [.int, .int] (vecsD s.robot), DC.sl 26 [.sl 25 [.int, .int]] (areasD s.obst), DC.sl 25 [.int, .int] (vecsD s.tables)]] = toScene_con.args i9 ∧ toScene_con.pre i9 ∧ (∃ i10 : Scn, [DA.agg [DC.im (Value.int .i64 i5.low.1), DC.im (Value.int .i64 i5.low.2), DC.im (Value.int .i64 i5.high.1), DC.im (Value.int .i64 i5.high.2), DC.sl 31 [.int, .int] (vecsD i5.robot), DC.sl 36 [.sl 31 [.int, .int]] (areasD i5.obst), DC.sl 31 [.int, .int] (vecsD i5.tables)], DA.agg [DC.im (Value.int .i64 i9.low.1), DC.im (Value.int .i64 i9.low.2), DC.im (Value.int .i64 i9.high.1), DC.im (Value.int .i64 i9.high.2), DC.sl 31 [.int, .int] (vecsD i9.robot), DC.sl 36 [.sl 31 [.int, .int]] (areasD i9.obst), DC.sl 31 [.int, .int] (vecsD i9.tables)]] = eqScene_con.args i10 ∧ eqScene_con.pre i10 ∧ (((!true) = true → ((Value.bool false = Value.bool true))) ∧ ((!true) = false → (∃ i11 : Scn × Int, [DA.agg [DC.im (Value.int .i64 i5.low.1), DC.im (Value.int .i64 i5.low.2), DC.im (Value.int .i64 i5.high.1), DC.im (Value.int .i64 i5.high.2), DC.sl 31 [.int, .int] (vecsD i5.robot), DC.sl 36 [.sl 31 [.int, .int]] (areasD i5.obst), DC.sl 31 [.int, .int] (vecsD i5.tables)], DA.one (DC.im (Value.int .i64 (1 : Int)))] = markScene_con.args i11 ∧ markScene_con.pre i11 ∧ (((!(decide ((i11.2 + (cntV [.int i11.1.low.1, .int i11.1.low.2, .int i11.1.high.1, .int i11.1.high.2, .sl (vecsD i11.1.robot), .sl (areasD i11.1.obst), .sl (vecsD i11.1.tables)] : Int)) < (0 : Int)))) = true → (∃ i12 : Scn, [DA.agg [DC.im (Value.int .i64 ((shOb i7.1 i7.2.1 i7.2.2.1 i7.2.2.2).low.1)), DC.im (Value.int .i64 ((shOb i7.1 i7.2.1 i7.2.2.1 i7.2.2.2).low.2)), DC.im (Value.int .i64 ((shOb i7.1 i7.2.1 i7.2.2.1 i7.2.2.2).high.1)), DC.im (Value.int .i64 ((shOb i7.1 i7.2.1 i7.2.2.1 i7.2.2.2).high.2)), DC.sl 31 [.int, .int] (vecsD (shOb i7.1 i7.2.1 i7.2.2.1 i7.2.2.2).robot), DC.sl 36 [.sl 31 [.int, .int]] (areasD (shOb i7.1 i7.2.1 i7.2.2.1 i7.2.2.2).obst), DC.sl 31 [.int, .int] (vecsD (shOb i7.1 i7.2.1 i7.2.2.1 i7.2.2.2).tables)], DA.agg [DC.im (Value.int .i64 ((shOb i4.1 i4.2.1 i4.2.2.1 i4.2.2.2).low.1)), DC.im (Value.int .i64 ((shOb i4.1 i4.2.1 i4.2.2.1 i4.2.2.2).low.2)), DC.im (Value.int .i64 ((shOb i4.1 i4.2.1 i4.2.2.1 i4.2.2.2).high.1)), DC.im (Value.int .i64 ((shOb i4.1 i4.2.1 i4.2.2.1 i4.2.2.2).high.2)), DC.sl 31 [.int, .int] (vecsD (shOb i4.1 i4.2.1 i4.2.2.1 i4.2.2.2).robot), DC.sl 36 [.sl 31 [.int, .int]] (areasD (shOb i4.1 i4.2.1 i4.2.2.1 i4.2.2.2).obst), DC.sl 31 [.int, .int] (vecsD (shOb i4.1 i4.2.1 i4.2.2.1 i4.2.2.2).tables)]] = eqScene_con.args i12 ∧ eqScene_con.pre i12 ∧ (((!(!true)) = true → ((((shOk i7.1 i7.2.1 i7.2.2.1 i7.2.2.2) != (shOk i4.1 i4.2.1 i4.2.2.1 i4.2.2.2)) = true → ((Value.bool false = Value.bool true))) ∧ (((shOk i7.1 i7.2.1 i7.2.2.1 i7.2.2.2) != (shOk i4.1 i4.2.1 i4.2.2.1 i4.2.2.2)) = false → (∃ i13 : Scn × Int, [DA.agg [DC.im (Value.int .i64 ((shOb i7.1 i7.2.1 i7.2.2.1 i7.2.2.2).low.1)), DC.im (Value.int .i64 ((shOb i7.1 i7.2.1 i7.2.2.1 i7.2.2.2).low.2)), DC.im (Value.int .i64 ((shOb i7.1 i7.2.1 i7.2.2.1 i7.2.2.2).high.1)), DC.im (Value.int .i64 ((shOb i7.1 i7.2.1 i7.2.2.1 i7.2.2.2).high.2)), DC.sl 31 [.int, .int] (vecsD (shOb i7.1 i7.2.1 i7.2.2.1 i7.2.2.2).robot), DC.sl 36 [.sl 31 [.int, .int]] (areasD (shOb i7.1 i7.2.1 i7.2.2.1 i7.2.2.2).obst), DC.sl 31 [.int, .int] (vecsD (shOb i7.1 i7.2.1 i7.2.2.1 i7.2.2.2).tables)], DA.one (DC.im (Value.int .i64 (1 : Int)))] = markScene_con.args i13 ∧ markScene_con.pre i13 ∧ (∃ i14 : Scn × Int, [DA.agg [DC.im (Value.int .i64 ((shOb i7.1 i7.2.1 i7.2.2.1 i7.2.2.2).low.1)), DC.im (Value.int .i64 ((shOb i7.1 i7.2.1 i7.2.2.1 i7.2.2.2).low.2)), DC.im (Value.int .i64 ((shOb i7.1 i7.2.1 i7.2.2.1 i7.2.2.2).high.1)), DC.im (Value.int .i64 ((shOb i7.1 i7.2.1 i7.2.2.1 i7.2.2.2).high.2)), DC.sl 31 [.int, .int] (mkRows (i13.2 + ((0 : Nat) : Int) + ((0 : Nat) : Int) + ((0 : Nat) : Int) + ((0 : Nat) : Int)) (vecsD i13.1.robot)), DC.sl 36 [.sl 31 [.int, .int]] (mkRows (i13.2 + ((0 : Nat) : Int) + ((0 : Nat) : Int) + ((0 : Nat) : Int) + ((0 : Nat) : Int) + (cntRows (vecsD i13.1.robot) : Int)) (areasD i13.1.obst)), DC.sl 31 [.int, .int] (mkRows (i13.2 + ((0 : Nat) : Int) + ((0 : Nat) : Int) + ((0 : Nat) : Int) + ((0 : Nat) : Int) + (cntRows (vecsD i13.1.robot) : Int) + (cntRows (areasD i13.1.obst) : Int)) (vecsD i13.1.tables))], DA.one (DC.im (Value.int .i64 (1 : Int)))] = heldScene_con.args i14 ∧ heldScene_con.pre i14 ∧ (((decide ((i14.2 + (cntV [.int i14.1.low.1, .int i14.1.low.2, .int i14.1.high.1, .int i14.1.high.2, .sl (vecsD i14.1.robot), .sl (areasD i14.1.obst), .sl (vecsD i14.1.tables)] : Int)) < (0 : Int))) = true → ((Value.bool false = Value.bool true))) ∧ ((decide ((i14.2 + (cntV [.int i14.1.low.1, .int i14.1.low.2, .int i14.1.high.1, .int i14.1.high.2, .sl (vecsD i14.1.robot), .sl (areasD i14.1.obst), .sl (vecsD i14.1.tables)] : Int)) < (0 : Int))) = false → ((((i14.2 + (cntV [.int i14.1.low.1, .int i14.1.low.2, .int i14.1.high.1, .int i14.1.high.2, .sl (vecsD i14.1.robot), .sl (areasD i14.1.obst), .sl (vecsD i14.1.tables)] : Int)) != (i13.2 + (cntV [.int i13.1.low.1, .int i13.1.low.2, .int i13.1.high.1, .int i13.1.high.2, .sl (vecsD i13.1.robot), .sl (areasD i13.1.obst), .sl (vecsD i13.1.tables)] : Int))) = true → ((Value.bool false = Value.bool true))) ∧ (((i14.2 + (cntV [.int i14.1.low.1, .int i14.1.low.2, .int i14.1.high.1, .int i14.1.high.2, .sl (vecsD i14.1.robot), .sl (areasD i14.1.obst), .sl (vecsD i14.1.tables)] : Int)) != (i13.2 + (cntV [.int i13.1.low.1, .int i13.1.low.2, .int i13.1.high.1, .int i13.1.high.2, .sl (vecsD i13.1.robot), .sl (areasD i13.1.obst), .sl (vecsD i13.1.tables)] : Int))) = false → (∃ i15 : Scn, [DA.agg [DC.im (Value.int .i64 s.low.1), DC.im (Value.int .i64 s.low.2), DC.im (Value.int .i64 s.high.1), DC.im (Value.int .i64 s.high.2), DC.sl 25 [.int, .int] (vecsD s.robot), DC.sl 26 [.sl 25 [.int, .int]] (areasD s.obst), DC.sl 25 [.int, .int] (vecsD s.tables)]] = toScene_con.args i15 ∧ toScene_con.pre i15 ∧ (∃ i16 : (Int × Int), [DA.agg [DC.im (Value.int .i64 dx), DC.im (Value.int .i64 dy)]] = toVec_con.args i16 ∧ toVec_con.pre i16 ∧ (∃ i17 : Scn × Int × Int × Int, [DA.agg [DC.im (Value.int .i64 i15.low.1), DC.im (Value.int .i64 i15.low.2), DC.im (Value.int .i64 i15.high.1), DC.im (Value.int .i64 i15.high.2), DC.sl 31 [.int, .int] (vecsD i15.robot), DC.sl 36 [.sl 31 [.int, .int]] (areasD i15.obst), DC.sl 31 [.int, .int] (vecsD i15.tables)], DA.one (DC.im (Value.int .i64 k)), DA.agg [DC.im (Value.int .i64 i16.1), DC.im (Value.int .i64 i16.2)]] = iShiftObstacle_con.args i17 ∧ iShiftObstacle_con.pre i17 ∧ (∃ i18 : Scn, [DA.agg [DC.im (Value.int .i64 ((shOb i17.1 i17.2.1 i17.2.2.1 i17.2.2.2).low.1)), DC.im (Value.int .i64 ((shOb i17.1 i17.2.1 i17.2.2.1 i17.2.2.2).low.2)), DC.im (Value.int .i64 ((shOb i17.1 i17.2.1 i17.2.2.1 i17.2.2.2).high.1)), DC.im (Value.int .i64 ((shOb i17.1 i17.2.1 i17.2.2.1 i17.2.2.2).high.2)), DC.sl 31 [.int, .int] (vecsD (shOb i17.1 i17.2.1 i17.2.2.1 i17.2.2.2).robot), DC.sl 36 [.sl 31 [.int, .int]] (areasD (shOb i17.1 i17.2.1 i17.2.2.1 i17.2.2.2).obst), DC.sl 31 [.int, .int] (vecsD (shOb i17.1 i17.2.1 i17.2.2.1 i17.2.2.2).tables)], DA.agg [DC.im (Value.int .i64 ((shOb i4.1 i4.2.1 i4.2.2.1 i4.2.2.2).low.1)), DC.im (Value.int .i64 ((shOb i4.1 i4.2.1 i4.2.2.1 i4.2.2.2).low.2)), DC.im (Value.int .i64 ((shOb i4.1 i4.2.1 i4.2.2.1 i4.2.2.2).high.1)), DC.im (Value.int .i64 ((shOb i4.1 i4.2.1 i4.2.2.1 i4.2.2.2).high.2)), DC.sl 31 [.int, .int] (vecsD (shOb i4.1 i4.2.1 i4.2.2.1 i4.2.2.2).robot), DC.sl 36 [.sl 31 [.int, .int]] (areasD (shOb i4.1 i4.2.1 i4.2.2.1 i4.2.2.2).obst), DC.sl 31 [.int, .int] (vecsD (shOb i4.1 i4.2.1 i4.2.2.1 i4.2.2.2).tables)]] = eqScene_con.args i18 ∧ eqScene_con.pre i18 ∧ (((!(!true)) = true → ((((shOk i17.1 i17.2.1 i17.2.2.1 i17.2.2.2) != (shOk i4.1 i4.2.1 i4.2.2.1 i4.2.2.2)) = true → ((Value.bool false = Value.bool true))) ∧ (((shOk i17.1 i17.2.1 i17.2.2.1 i17.2.2.2) != (shOk i4.1 i4.2.1 i4.2.2.1 i4.2.2.2)) = false → (∃ i19 : Scn × Int, [DA.agg [DC.im (Value.int .i64 ((shOb i7.1 i7.2.1 i7.2.2.1 i7.2.2.2).low.1)), DC.im (Value.int .i64 ((shOb i7.1 i7.2.1 i7.2.2.1 i7.2.2.2).low.2)), DC.im (Value.int .i64 ((shOb i7.1 i7.2.1 i7.2.2.1 i7.2.2.2).high.1)), DC.im (Value.int .i64 ((shOb i7.1 i7.2.1 i7.2.2.1 i7.2.2.2).high.2)), DC.sl 31 [.int, .int] (mkRows (i13.2 + ((0 : Nat) : Int) + ((0 : Nat) : Int) + ((0 : Nat) : Int) + ((0 : Nat) : Int)) (vecsD i13.1.robot)), DC.sl 36 [.sl 31 [.int, .int]] (mkRows (i13.2 + ((0 : Nat) : Int) + ((0 : Nat) : Int) + ((0 : Nat) : Int) + ((0 : Nat) : Int) + (cntRows (vecsD i13.1.robot) : Int)) (areasD i13.1.obst)), DC.sl 31 [.int, .int] (mkRows (i13.2 + ((0 : Nat) : Int) + ((0 : Nat) : Int) + ((0 : Nat) : Int) + ((0 : Nat) : Int) + (cntRows (vecsD i13.1.robot) : Int) + (cntRows (areasD i13.1.obst) : Int)) (vecsD i13.1.tables))], DA.one (DC.im (Value.int .i64 (1 : Int)))] = heldScene_con.args i19 ∧ heldScene_con.pre i19 ∧ (((decide ((i19.2 + (cntV [.int i19.1.low.1, .int i19.1.low.2, .int i19.1.high.1, .int i19.1.high.2, .sl (vecsD i19.1.robot), .sl (areasD i19.1.obst), .sl (vecsD i19.1.tables)] : Int)) < (0 : Int))) = true → ((Value.bool false = Value.bool true))) ∧ ((decide ((i19.2 + (cntV [.int i19.1.low.1, .int i19.1.low.2, .int i19.1.high.1, .int i19.1.high.2, .sl (vecsD i19.1.robot), .sl (areasD i19.1.obst), .sl (vecsD i19.1.tables)] : Int)) < (0 : Int))) = false → ((((i19.2 + (cntV [.int i19.1.low.1, .int i19.1.low.2, .int i19.1.high.1, .int i19.1.high.2, .sl (vecsD i19.1.robot), .sl (areasD i19.1.obst), .sl (vecsD i19.1.tables)] : Int)) != (i13.2 + (cntV [.int i13.1.low.1, .int i13.1.low.2, .int i13.1.high.1, .int i13.1.high.2, .sl (vecsD i13.1.robot), .sl (areasD i13.1.obst), .sl (vecsD i13.1.tables)] : Int))) = true → ((Value.bool false = Value.bool true))) ∧ (((i19.2 + (cntV [.int i19.1.low.1, .int i19.1.low.2, .int i19.1.high.1, .int i19.1.high.2, .sl (vecsD i19.1.robot), .sl (areasD i19.1.obst), .sl (vecsD i19.1.tables)] : Int)) != (i13.2 + (cntV [.int i13.1.low.1, .int i13.1.low.2, .int i13.1.high.1, .int i13.1.high.2, .sl (vecsD i13.1.robot), .sl (areasD i13.1.obst), .sl (vecsD i13.1.tables)] : Int))) = false → ((Value.bool true = Value.bool true)))))))))) ∧ ((!(!true)) = false → ((Value.bool false = Value.bool true))))))))))))))))) ∧ ((!(!true)) = false → ((Value.bool false = Value.bool true)))))) ∧ ((!(decide ((i11.2 + (cntV [.int i11.1.low.1, .int i11.1.low.2, .int i11.1.high.1, .int i11.1.high.2, .sl (vecsD i11.1.robot), .sl (areasD i11.1.obst), .sl (vecsD i11.1.tables)] : Int)) < (0 : Int)))) = false → ((Value.bool false = Value.bool true)))))))))))) ∧ ((!(!true)) = false → ((Value.bool false = Value.bool true)))))))))))))) (by kernel_rfl) ?_
  refine ⟨(s, (1048576 : Int)), by
    rfl, by
    show hasRow [.int, .int, .int, .int, .sl 31 [.int, .int], .sl 36 [.sl 31 [.int, .int]], .sl 31 [.int, .int]] [.int s.low.1, .int s.low.2, .int s.high.1, .int s.high.2, .sl (vecsD s.robot), .sl (areasD s.obst), .sl (vecsD s.tables)] ∧ 0 ≤ (1048576 : Int) ∧ (1048576 : Int) ≤ 1048576
    first | trivial | exact ⟨hpre, by omega, by omega⟩ | exact gs | exact hz | exact ⟨by omega, by omega, hr1⟩ | (refine ⟨?_, ?_⟩ <;> omega) | (simp [szRow, Dat.sz]; done), ?_⟩
  refine ⟨fun c4 => ?_, fun c4 => ?_⟩
  · skip
    replace c4 : (decide ((szR (szRow [.int s.low.1, .int s.low.2, .int s.high.1, .int s.high.2, .sl (vecsD s.robot), .sl (areasD s.obst), .sl (vecsD s.tables)]) (1048576 : Int)) < (0 : Int))) = true := c4
    try simp only [Bool.and_eq_true, Bool.or_eq_true, Bool.and_eq_false_iff, Bool.or_eq_false_iff, decide_eq_true_eq, decide_eq_false_iff_not, Bool.not_eq_true', Bool.not_eq_false', bne_iff_ne, ne_eq, beq_iff_eq, Bool.not_eq_true, Bool.not_eq_false, Int.not_lt, Int.not_le, gt_iff_lt, ge_iff_le, beq_eq_false_iff_ne, bne_eq_false_iff_eq] at c4
    show Value.bool true = Value.bool true
    first | rfl | contradiction | (exfalso; omega) | simp_all
  · skip
    replace c4 : (decide ((szR (szRow [.int s.low.1, .int s.low.2, .int s.high.1, .int s.high.2, .sl (vecsD s.robot), .sl (areasD s.obst), .sl (vecsD s.tables)]) (1048576 : Int)) < (0 : Int))) = false := c4
    try simp only [Bool.and_eq_true, Bool.or_eq_true, Bool.and_eq_false_iff, Bool.or_eq_false_iff, decide_eq_true_eq, decide_eq_false_iff_not, Bool.not_eq_true', Bool.not_eq_false', bne_iff_ne, ne_eq, beq_iff_eq, Bool.not_eq_true, Bool.not_eq_false, Int.not_lt, Int.not_le, gt_iff_lt, ge_iff_le, beq_eq_false_iff_ne, bne_eq_false_iff_eq] at c4
    have z1 := szR_ge c4
    have gs : szRow [.int s.low.1, .int s.low.2, .int s.high.1, .int s.high.2, .sl (vecsD s.robot), .sl (areasD s.obst), .sl (vecsD s.tables)] ≤ 1048576 := Int.ofNat_le.1 z1.2
    have hz : scnSz s := scnD_sz gs
    have gr : szRow [.int ((shOb s k dx dy).low.1), .int ((shOb s k dx dy).low.2), .int ((shOb s k dx dy).high.1), .int ((shOb s k dx dy).high.2), .sl (vecsD (shOb s k dx dy).robot), .sl (areasD (shOb s k dx dy).obst), .sl (vecsD (shOb s k dx dy).tables)] ≤ 1048576 := shOb_sz (k := k) (dx := dx) (dy := dy) gs
    have hr1 : hasRow [.int, .int, .int, .int, .sl 31 [.int, .int], .sl 36 [.sl 31 [.int, .int]], .sl 31 [.int, .int]] [.int ((shOb s k dx dy).low.1), .int ((shOb s k dx dy).low.2), .int ((shOb s k dx dy).high.1), .int ((shOb s k dx dy).high.2), .sl (vecsD (shOb s k dx dy).robot), .sl (areasD (shOb s k dx dy).obst), .sl (vecsD (shOb s k dx dy).tables)] := scnD_has (scnD_sz gr)
    have hcs : (cntV [.int s.low.1, .int s.low.2, .int s.high.1, .int s.high.2, .sl (vecsD s.robot), .sl (areasD s.obst), .sl (vecsD s.tables)] : Int) ≤ 2000000000 := cntV_small hpre gs (by simp [KRow, Ty.K])
    have hcr : (cntV [.int ((shOb s k dx dy).low.1), .int ((shOb s k dx dy).low.2), .int ((shOb s k dx dy).high.1), .int ((shOb s k dx dy).high.2), .sl (vecsD (shOb s k dx dy).robot), .sl (areasD (shOb s k dx dy).obst), .sl (vecsD (shOb s k dx dy).tables)] : Int) ≤ 2000000000 := cntV_small hr1 gr (by simp [KRow, Ty.K])
    refine ⟨s, by
      rfl, by
      show szRow [.int s.low.1, .int s.low.2, .int s.high.1, .int s.high.2, .sl (vecsD s.robot), .sl (areasD s.obst), .sl (vecsD s.tables)] ≤ 1048576
      first | trivial | exact ⟨hpre, by omega, by omega⟩ | exact gs | exact hz | exact ⟨by omega, by omega, hr1⟩ | (refine ⟨?_, ?_⟩ <;> omega) | (simp [szRow, Dat.sz]; done), ?_⟩
    refine ⟨(dx, dy), by
      rfl, by
      show szRow [.int (dx, dy).1, .int (dx, dy).2] ≤ 1048576
      first | trivial | exact ⟨hpre, by omega, by omega⟩ | exact gs | exact hz | exact ⟨by omega, by omega, hr1⟩ | (refine ⟨?_, ?_⟩ <;> omega) | (simp [szRow, Dat.sz]; done), ?_⟩
    refine ⟨(s, k, dx, dy), by
      rfl, by
      show scnSz s
      first | trivial | exact ⟨hpre, by omega, by omega⟩ | exact gs | exact hz | exact ⟨by omega, by omega, hr1⟩ | (refine ⟨?_, ?_⟩ <;> omega) | (simp [szRow, Dat.sz]; done), ?_⟩
    refine ⟨s, by
      rfl, by
      show szRow [.int s.low.1, .int s.low.2, .int s.high.1, .int s.high.2, .sl (vecsD s.robot), .sl (areasD s.obst), .sl (vecsD s.tables)] ≤ 1048576
      first | trivial | exact ⟨hpre, by omega, by omega⟩ | exact gs | exact hz | exact ⟨by omega, by omega, hr1⟩ | (refine ⟨?_, ?_⟩ <;> omega) | (simp [szRow, Dat.sz]; done), ?_⟩
    refine ⟨(dx, dy), by
      rfl, by
      show szRow [.int (dx, dy).1, .int (dx, dy).2] ≤ 1048576
      first | trivial | exact ⟨hpre, by omega, by omega⟩ | exact gs | exact hz | exact ⟨by omega, by omega, hr1⟩ | (refine ⟨?_, ?_⟩ <;> omega) | (simp [szRow, Dat.sz]; done), ?_⟩
    refine ⟨(s, k, dx, dy), by
      rfl, by
      show scnSz s
      first | trivial | exact ⟨hpre, by omega, by omega⟩ | exact gs | exact hz | exact ⟨by omega, by omega, hr1⟩ | (refine ⟨?_, ?_⟩ <;> omega) | (simp [szRow, Dat.sz]; done), ?_⟩
    refine ⟨(shOb s k dx dy), by
      rfl, by
      first | trivial | exact ⟨hpre, by omega, by omega⟩ | exact gs | exact hz | exact ⟨by omega, by omega, hr1⟩ | (refine ⟨?_, ?_⟩ <;> omega) | (simp [szRow, Dat.sz]; done), ?_⟩
    refine ⟨fun c27 => ?_, fun c27 => ?_⟩
    · skip
      replace c27 : (!(!true)) = true := c27
      try simp only [Bool.and_eq_true, Bool.or_eq_true, Bool.and_eq_false_iff, Bool.or_eq_false_iff, decide_eq_true_eq, decide_eq_false_iff_not, Bool.not_eq_true', Bool.not_eq_false', bne_iff_ne, ne_eq, beq_iff_eq, Bool.not_eq_true, Bool.not_eq_false, Int.not_lt, Int.not_le, gt_iff_lt, ge_iff_le, beq_eq_false_iff_ne, bne_eq_false_iff_eq] at c27
      refine ⟨fun c28 => ?_, fun c28 => ?_⟩
      · skip
        replace c28 : ((shOk s k dx dy) != (shOk s k dx dy)) = true := c28
        try simp only [Bool.and_eq_true, Bool.or_eq_true, Bool.and_eq_false_iff, Bool.or_eq_false_iff, decide_eq_true_eq, decide_eq_false_iff_not, Bool.not_eq_true', Bool.not_eq_false', bne_iff_ne, ne_eq, beq_iff_eq, Bool.not_eq_true, Bool.not_eq_false, Int.not_lt, Int.not_le, gt_iff_lt, ge_iff_le, beq_eq_false_iff_ne, bne_eq_false_iff_eq] at c28
        show Value.bool false = Value.bool true
        first | rfl | contradiction | (exfalso; omega) | simp_all
      · skip
        replace c28 : ((shOk s k dx dy) != (shOk s k dx dy)) = false := c28
        try simp only [Bool.and_eq_true, Bool.or_eq_true, Bool.and_eq_false_iff, Bool.or_eq_false_iff, decide_eq_true_eq, decide_eq_false_iff_not, Bool.not_eq_true', Bool.not_eq_false', bne_iff_ne, ne_eq, beq_iff_eq, Bool.not_eq_true, Bool.not_eq_false, Int.not_lt, Int.not_le, gt_iff_lt, ge_iff_le, beq_eq_false_iff_ne, bne_eq_false_iff_eq] at c28
        refine ⟨s, by
          rfl, by
          show szRow [.int s.low.1, .int s.low.2, .int s.high.1, .int s.high.2, .sl (vecsD s.robot), .sl (areasD s.obst), .sl (vecsD s.tables)] ≤ 1048576
          first | trivial | exact ⟨hpre, by omega, by omega⟩ | exact gs | exact hz | exact ⟨by omega, by omega, hr1⟩ | (refine ⟨?_, ?_⟩ <;> omega) | (simp [szRow, Dat.sz]; done), ?_⟩
        refine ⟨s, by
          rfl, by
          first | trivial | exact ⟨hpre, by omega, by omega⟩ | exact gs | exact hz | exact ⟨by omega, by omega, hr1⟩ | (refine ⟨?_, ?_⟩ <;> omega) | (simp [szRow, Dat.sz]; done), ?_⟩
        refine ⟨fun c36 => ?_, fun c36 => ?_⟩
        · skip
          replace c36 : (!true) = true := c36
          try simp only [Bool.and_eq_true, Bool.or_eq_true, Bool.and_eq_false_iff, Bool.or_eq_false_iff, decide_eq_true_eq, decide_eq_false_iff_not, Bool.not_eq_true', Bool.not_eq_false', bne_iff_ne, ne_eq, beq_iff_eq, Bool.not_eq_true, Bool.not_eq_false, Int.not_lt, Int.not_le, gt_iff_lt, ge_iff_le, beq_eq_false_iff_ne, bne_eq_false_iff_eq] at c36
          show Value.bool false = Value.bool true
          first | rfl | contradiction | (exfalso; omega) | simp_all
        · skip
          replace c36 : (!true) = false := c36
          try simp only [Bool.and_eq_true, Bool.or_eq_true, Bool.and_eq_false_iff, Bool.or_eq_false_iff, decide_eq_true_eq, decide_eq_false_iff_not, Bool.not_eq_true', Bool.not_eq_false', bne_iff_ne, ne_eq, beq_iff_eq, Bool.not_eq_true, Bool.not_eq_false, Int.not_lt, Int.not_le, gt_iff_lt, ge_iff_le, beq_eq_false_iff_ne, bne_eq_false_iff_eq] at c36
          refine ⟨(s, (1 : Int)), by
            rfl, by
            show 0 ≤ (1 : Int) ∧ (1 : Int) + (cntV [.int s.low.1, .int s.low.2, .int s.high.1, .int s.high.2, .sl (vecsD s.robot), .sl (areasD s.obst), .sl (vecsD s.tables)] : Int) ≤ 4611686018427387904
            first | trivial | exact ⟨hpre, by omega, by omega⟩ | exact gs | exact hz | exact ⟨by omega, by omega, hr1⟩ | (refine ⟨?_, ?_⟩ <;> omega) | (simp [szRow, Dat.sz]; done), ?_⟩
          refine ⟨fun c41 => ?_, fun c41 => ?_⟩
          · skip
            replace c41 : (!(decide (((1 : Int) + (cntV [.int s.low.1, .int s.low.2, .int s.high.1, .int s.high.2, .sl (vecsD s.robot), .sl (areasD s.obst), .sl (vecsD s.tables)] : Int)) < (0 : Int)))) = true := c41
            try simp only [Bool.and_eq_true, Bool.or_eq_true, Bool.and_eq_false_iff, Bool.or_eq_false_iff, decide_eq_true_eq, decide_eq_false_iff_not, Bool.not_eq_true', Bool.not_eq_false', bne_iff_ne, ne_eq, beq_iff_eq, Bool.not_eq_true, Bool.not_eq_false, Int.not_lt, Int.not_le, gt_iff_lt, ge_iff_le, beq_eq_false_iff_ne, bne_eq_false_iff_eq] at c41
            refine ⟨(shOb s k dx dy), by
              rfl, by
              first | trivial | exact ⟨hpre, by omega, by omega⟩ | exact gs | exact hz | exact ⟨by omega, by omega, hr1⟩ | (refine ⟨?_, ?_⟩ <;> omega) | (simp [szRow, Dat.sz]; done), ?_⟩
            refine ⟨fun c45 => ?_, fun c45 => ?_⟩
            · skip
              replace c45 : (!(!true)) = true := c45
              try simp only [Bool.and_eq_true, Bool.or_eq_true, Bool.and_eq_false_iff, Bool.or_eq_false_iff, decide_eq_true_eq, decide_eq_false_iff_not, Bool.not_eq_true', Bool.not_eq_false', bne_iff_ne, ne_eq, beq_iff_eq, Bool.not_eq_true, Bool.not_eq_false, Int.not_lt, Int.not_le, gt_iff_lt, ge_iff_le, beq_eq_false_iff_ne, bne_eq_false_iff_eq] at c45
              refine ⟨fun c46 => ?_, fun c46 => ?_⟩
              · skip
                replace c46 : ((shOk s k dx dy) != (shOk s k dx dy)) = true := c46
                try simp only [Bool.and_eq_true, Bool.or_eq_true, Bool.and_eq_false_iff, Bool.or_eq_false_iff, decide_eq_true_eq, decide_eq_false_iff_not, Bool.not_eq_true', Bool.not_eq_false', bne_iff_ne, ne_eq, beq_iff_eq, Bool.not_eq_true, Bool.not_eq_false, Int.not_lt, Int.not_le, gt_iff_lt, ge_iff_le, beq_eq_false_iff_ne, bne_eq_false_iff_eq] at c46
                show Value.bool false = Value.bool true
                first | rfl | contradiction | (exfalso; omega) | simp_all
              · skip
                replace c46 : ((shOk s k dx dy) != (shOk s k dx dy)) = false := c46
                try simp only [Bool.and_eq_true, Bool.or_eq_true, Bool.and_eq_false_iff, Bool.or_eq_false_iff, decide_eq_true_eq, decide_eq_false_iff_not, Bool.not_eq_true', Bool.not_eq_false', bne_iff_ne, ne_eq, beq_iff_eq, Bool.not_eq_true, Bool.not_eq_false, Int.not_lt, Int.not_le, gt_iff_lt, ge_iff_le, beq_eq_false_iff_ne, bne_eq_false_iff_eq] at c46
                refine ⟨((shOb s k dx dy), (1 : Int)), by
                  rfl, by
                  show 0 ≤ (1 : Int) ∧ (1 : Int) + (cntV [.int (shOb s k dx dy).low.1, .int (shOb s k dx dy).low.2, .int (shOb s k dx dy).high.1, .int (shOb s k dx dy).high.2, .sl (vecsD (shOb s k dx dy).robot), .sl (areasD (shOb s k dx dy).obst), .sl (vecsD (shOb s k dx dy).tables)] : Int) ≤ 4611686018427387904
                  first | trivial | exact ⟨hpre, by omega, by omega⟩ | exact gs | exact hz | exact ⟨by omega, by omega, hr1⟩ | (refine ⟨?_, ?_⟩ <;> omega) | (simp [szRow, Dat.sz]; done), ?_⟩
                refine ⟨((shOb s k dx dy), (1 : Int)), by
                  rfl, by
                  show 0 ≤ (1 : Int) ∧ (1 : Int) + (cntV [.int (shOb s k dx dy).low.1, .int (shOb s k dx dy).low.2, .int (shOb s k dx dy).high.1, .int (shOb s k dx dy).high.2, .sl (vecsD (shOb s k dx dy).robot), .sl (areasD (shOb s k dx dy).obst), .sl (vecsD (shOb s k dx dy).tables)] : Int) ≤ 4611686018427387904 ∧ hasRow [.int, .int, .int, .int, .sl 31 [.int, .int], .sl 36 [.sl 31 [.int, .int]], .sl 31 [.int, .int]] [.int (shOb s k dx dy).low.1, .int (shOb s k dx dy).low.2, .int (shOb s k dx dy).high.1, .int (shOb s k dx dy).high.2, .sl (vecsD (shOb s k dx dy).robot), .sl (areasD (shOb s k dx dy).obst), .sl (vecsD (shOb s k dx dy).tables)]
                  first | trivial | exact ⟨hpre, by omega, by omega⟩ | exact gs | exact hz | exact ⟨by omega, by omega, hr1⟩ | (refine ⟨?_, ?_⟩ <;> omega) | (simp [szRow, Dat.sz]; done), ?_⟩
                refine ⟨fun c54 => ?_, fun c54 => ?_⟩
                · skip
                  replace c54 : (decide (((1 : Int) + (cntV [.int (shOb s k dx dy).low.1, .int (shOb s k dx dy).low.2, .int (shOb s k dx dy).high.1, .int (shOb s k dx dy).high.2, .sl (vecsD (shOb s k dx dy).robot), .sl (areasD (shOb s k dx dy).obst), .sl (vecsD (shOb s k dx dy).tables)] : Int)) < (0 : Int))) = true := c54
                  try simp only [Bool.and_eq_true, Bool.or_eq_true, Bool.and_eq_false_iff, Bool.or_eq_false_iff, decide_eq_true_eq, decide_eq_false_iff_not, Bool.not_eq_true', Bool.not_eq_false', bne_iff_ne, ne_eq, beq_iff_eq, Bool.not_eq_true, Bool.not_eq_false, Int.not_lt, Int.not_le, gt_iff_lt, ge_iff_le, beq_eq_false_iff_ne, bne_eq_false_iff_eq] at c54
                  show Value.bool false = Value.bool true
                  first | rfl | contradiction | (exfalso; omega) | simp_all
                · skip
                  replace c54 : (decide (((1 : Int) + (cntV [.int (shOb s k dx dy).low.1, .int (shOb s k dx dy).low.2, .int (shOb s k dx dy).high.1, .int (shOb s k dx dy).high.2, .sl (vecsD (shOb s k dx dy).robot), .sl (areasD (shOb s k dx dy).obst), .sl (vecsD (shOb s k dx dy).tables)] : Int)) < (0 : Int))) = false := c54
                  try simp only [Bool.and_eq_true, Bool.or_eq_true, Bool.and_eq_false_iff, Bool.or_eq_false_iff, decide_eq_true_eq, decide_eq_false_iff_not, Bool.not_eq_true', Bool.not_eq_false', bne_iff_ne, ne_eq, beq_iff_eq, Bool.not_eq_true, Bool.not_eq_false, Int.not_lt, Int.not_le, gt_iff_lt, ge_iff_le, beq_eq_false_iff_ne, bne_eq_false_iff_eq] at c54
                  refine ⟨fun c56 => ?_, fun c56 => ?_⟩
                  · skip
                    replace c56 : (((1 : Int) + (cntV [.int (shOb s k dx dy).low.1, .int (shOb s k dx dy).low.2, .int (shOb s k dx dy).high.1, .int (shOb s k dx dy).high.2, .sl (vecsD (shOb s k dx dy).robot), .sl (areasD (shOb s k dx dy).obst), .sl (vecsD (shOb s k dx dy).tables)] : Int)) != ((1 : Int) + (cntV [.int (shOb s k dx dy).low.1, .int (shOb s k dx dy).low.2, .int (shOb s k dx dy).high.1, .int (shOb s k dx dy).high.2, .sl (vecsD (shOb s k dx dy).robot), .sl (areasD (shOb s k dx dy).obst), .sl (vecsD (shOb s k dx dy).tables)] : Int))) = true := c56
                    try simp only [Bool.and_eq_true, Bool.or_eq_true, Bool.and_eq_false_iff, Bool.or_eq_false_iff, decide_eq_true_eq, decide_eq_false_iff_not, Bool.not_eq_true', Bool.not_eq_false', bne_iff_ne, ne_eq, beq_iff_eq, Bool.not_eq_true, Bool.not_eq_false, Int.not_lt, Int.not_le, gt_iff_lt, ge_iff_le, beq_eq_false_iff_ne, bne_eq_false_iff_eq] at c56
                    show Value.bool false = Value.bool true
                    first | rfl | contradiction | (exfalso; omega) | simp_all
                  · skip
                    replace c56 : (((1 : Int) + (cntV [.int (shOb s k dx dy).low.1, .int (shOb s k dx dy).low.2, .int (shOb s k dx dy).high.1, .int (shOb s k dx dy).high.2, .sl (vecsD (shOb s k dx dy).robot), .sl (areasD (shOb s k dx dy).obst), .sl (vecsD (shOb s k dx dy).tables)] : Int)) != ((1 : Int) + (cntV [.int (shOb s k dx dy).low.1, .int (shOb s k dx dy).low.2, .int (shOb s k dx dy).high.1, .int (shOb s k dx dy).high.2, .sl (vecsD (shOb s k dx dy).robot), .sl (areasD (shOb s k dx dy).obst), .sl (vecsD (shOb s k dx dy).tables)] : Int))) = false := c56
                    try simp only [Bool.and_eq_true, Bool.or_eq_true, Bool.and_eq_false_iff, Bool.or_eq_false_iff, decide_eq_true_eq, decide_eq_false_iff_not, Bool.not_eq_true', Bool.not_eq_false', bne_iff_ne, ne_eq, beq_iff_eq, Bool.not_eq_true, Bool.not_eq_false, Int.not_lt, Int.not_le, gt_iff_lt, ge_iff_le, beq_eq_false_iff_ne, bne_eq_false_iff_eq] at c56
                    refine ⟨s, by
                      rfl, by
                      show szRow [.int s.low.1, .int s.low.2, .int s.high.1, .int s.high.2, .sl (vecsD s.robot), .sl (areasD s.obst), .sl (vecsD s.tables)] ≤ 1048576
                      first | trivial | exact ⟨hpre, by omega, by omega⟩ | exact gs | exact hz | exact ⟨by omega, by omega, hr1⟩ | (refine ⟨?_, ?_⟩ <;> omega) | (simp [szRow, Dat.sz]; done), ?_⟩
                    refine ⟨(dx, dy), by
                      rfl, by
                      show szRow [.int (dx, dy).1, .int (dx, dy).2] ≤ 1048576
                      first | trivial | exact ⟨hpre, by omega, by omega⟩ | exact gs | exact hz | exact ⟨by omega, by omega, hr1⟩ | (refine ⟨?_, ?_⟩ <;> omega) | (simp [szRow, Dat.sz]; done), ?_⟩
                    refine ⟨(s, k, dx, dy), by
                      rfl, by
                      show scnSz s
                      first | trivial | exact ⟨hpre, by omega, by omega⟩ | exact gs | exact hz | exact ⟨by omega, by omega, hr1⟩ | (refine ⟨?_, ?_⟩ <;> omega) | (simp [szRow, Dat.sz]; done), ?_⟩
                    refine ⟨(shOb s k dx dy), by
                      rfl, by
                      first | trivial | exact ⟨hpre, by omega, by omega⟩ | exact gs | exact hz | exact ⟨by omega, by omega, hr1⟩ | (refine ⟨?_, ?_⟩ <;> omega) | (simp [szRow, Dat.sz]; done), ?_⟩
                    refine ⟨fun c70 => ?_, fun c70 => ?_⟩
                    · skip
                      replace c70 : (!(!true)) = true := c70
                      try simp only [Bool.and_eq_true, Bool.or_eq_true, Bool.and_eq_false_iff, Bool.or_eq_false_iff, decide_eq_true_eq, decide_eq_false_iff_not, Bool.not_eq_true', Bool.not_eq_false', bne_iff_ne, ne_eq, beq_iff_eq, Bool.not_eq_true, Bool.not_eq_false, Int.not_lt, Int.not_le, gt_iff_lt, ge_iff_le, beq_eq_false_iff_ne, bne_eq_false_iff_eq] at c70
                      refine ⟨fun c71 => ?_, fun c71 => ?_⟩
                      · skip
                        replace c71 : ((shOk s k dx dy) != (shOk s k dx dy)) = true := c71
                        try simp only [Bool.and_eq_true, Bool.or_eq_true, Bool.and_eq_false_iff, Bool.or_eq_false_iff, decide_eq_true_eq, decide_eq_false_iff_not, Bool.not_eq_true', Bool.not_eq_false', bne_iff_ne, ne_eq, beq_iff_eq, Bool.not_eq_true, Bool.not_eq_false, Int.not_lt, Int.not_le, gt_iff_lt, ge_iff_le, beq_eq_false_iff_ne, bne_eq_false_iff_eq] at c71
                        show Value.bool false = Value.bool true
                        first | rfl | contradiction | (exfalso; omega) | simp_all
                      · skip
                        replace c71 : ((shOk s k dx dy) != (shOk s k dx dy)) = false := c71
                        try simp only [Bool.and_eq_true, Bool.or_eq_true, Bool.and_eq_false_iff, Bool.or_eq_false_iff, decide_eq_true_eq, decide_eq_false_iff_not, Bool.not_eq_true', Bool.not_eq_false', bne_iff_ne, ne_eq, beq_iff_eq, Bool.not_eq_true, Bool.not_eq_false, Int.not_lt, Int.not_le, gt_iff_lt, ge_iff_le, beq_eq_false_iff_ne, bne_eq_false_iff_eq] at c71
                        refine ⟨((shOb s k dx dy), (1 : Int)), by
                          rfl, by
                          show 0 ≤ (1 : Int) ∧ (1 : Int) + (cntV [.int (shOb s k dx dy).low.1, .int (shOb s k dx dy).low.2, .int (shOb s k dx dy).high.1, .int (shOb s k dx dy).high.2, .sl (vecsD (shOb s k dx dy).robot), .sl (areasD (shOb s k dx dy).obst), .sl (vecsD (shOb s k dx dy).tables)] : Int) ≤ 4611686018427387904 ∧ hasRow [.int, .int, .int, .int, .sl 31 [.int, .int], .sl 36 [.sl 31 [.int, .int]], .sl 31 [.int, .int]] [.int (shOb s k dx dy).low.1, .int (shOb s k dx dy).low.2, .int (shOb s k dx dy).high.1, .int (shOb s k dx dy).high.2, .sl (vecsD (shOb s k dx dy).robot), .sl (areasD (shOb s k dx dy).obst), .sl (vecsD (shOb s k dx dy).tables)]
                          first | trivial | exact ⟨hpre, by omega, by omega⟩ | exact gs | exact hz | exact ⟨by omega, by omega, hr1⟩ | (refine ⟨?_, ?_⟩ <;> omega) | (simp [szRow, Dat.sz]; done), ?_⟩
                        refine ⟨fun c76 => ?_, fun c76 => ?_⟩
                        · skip
                          replace c76 : (decide (((1 : Int) + (cntV [.int (shOb s k dx dy).low.1, .int (shOb s k dx dy).low.2, .int (shOb s k dx dy).high.1, .int (shOb s k dx dy).high.2, .sl (vecsD (shOb s k dx dy).robot), .sl (areasD (shOb s k dx dy).obst), .sl (vecsD (shOb s k dx dy).tables)] : Int)) < (0 : Int))) = true := c76
                          try simp only [Bool.and_eq_true, Bool.or_eq_true, Bool.and_eq_false_iff, Bool.or_eq_false_iff, decide_eq_true_eq, decide_eq_false_iff_not, Bool.not_eq_true', Bool.not_eq_false', bne_iff_ne, ne_eq, beq_iff_eq, Bool.not_eq_true, Bool.not_eq_false, Int.not_lt, Int.not_le, gt_iff_lt, ge_iff_le, beq_eq_false_iff_ne, bne_eq_false_iff_eq] at c76
                          show Value.bool false = Value.bool true
                          first | rfl | contradiction | (exfalso; omega) | simp_all
                        · skip
                          replace c76 : (decide (((1 : Int) + (cntV [.int (shOb s k dx dy).low.1, .int (shOb s k dx dy).low.2, .int (shOb s k dx dy).high.1, .int (shOb s k dx dy).high.2, .sl (vecsD (shOb s k dx dy).robot), .sl (areasD (shOb s k dx dy).obst), .sl (vecsD (shOb s k dx dy).tables)] : Int)) < (0 : Int))) = false := c76
                          try simp only [Bool.and_eq_true, Bool.or_eq_true, Bool.and_eq_false_iff, Bool.or_eq_false_iff, decide_eq_true_eq, decide_eq_false_iff_not, Bool.not_eq_true', Bool.not_eq_false', bne_iff_ne, ne_eq, beq_iff_eq, Bool.not_eq_true, Bool.not_eq_false, Int.not_lt, Int.not_le, gt_iff_lt, ge_iff_le, beq_eq_false_iff_ne, bne_eq_false_iff_eq] at c76
                          refine ⟨fun c78 => ?_, fun c78 => ?_⟩
                          · skip
                            replace c78 : (((1 : Int) + (cntV [.int (shOb s k dx dy).low.1, .int (shOb s k dx dy).low.2, .int (shOb s k dx dy).high.1, .int (shOb s k dx dy).high.2, .sl (vecsD (shOb s k dx dy).robot), .sl (areasD (shOb s k dx dy).obst), .sl (vecsD (shOb s k dx dy).tables)] : Int)) != ((1 : Int) + (cntV [.int (shOb s k dx dy).low.1, .int (shOb s k dx dy).low.2, .int (shOb s k dx dy).high.1, .int (shOb s k dx dy).high.2, .sl (vecsD (shOb s k dx dy).robot), .sl (areasD (shOb s k dx dy).obst), .sl (vecsD (shOb s k dx dy).tables)] : Int))) = true := c78
                            try simp only [Bool.and_eq_true, Bool.or_eq_true, Bool.and_eq_false_iff, Bool.or_eq_false_iff, decide_eq_true_eq, decide_eq_false_iff_not, Bool.not_eq_true', Bool.not_eq_false', bne_iff_ne, ne_eq, beq_iff_eq, Bool.not_eq_true, Bool.not_eq_false, Int.not_lt, Int.not_le, gt_iff_lt, ge_iff_le, beq_eq_false_iff_ne, bne_eq_false_iff_eq] at c78
                            show Value.bool false = Value.bool true
                            first | rfl | contradiction | (exfalso; omega) | simp_all
                          · skip
                            replace c78 : (((1 : Int) + (cntV [.int (shOb s k dx dy).low.1, .int (shOb s k dx dy).low.2, .int (shOb s k dx dy).high.1, .int (shOb s k dx dy).high.2, .sl (vecsD (shOb s k dx dy).robot), .sl (areasD (shOb s k dx dy).obst), .sl (vecsD (shOb s k dx dy).tables)] : Int)) != ((1 : Int) + (cntV [.int (shOb s k dx dy).low.1, .int (shOb s k dx dy).low.2, .int (shOb s k dx dy).high.1, .int (shOb s k dx dy).high.2, .sl (vecsD (shOb s k dx dy).robot), .sl (areasD (shOb s k dx dy).obst), .sl (vecsD (shOb s k dx dy).tables)] : Int))) = false := c78
                            try simp only [Bool.and_eq_true, Bool.or_eq_true, Bool.and_eq_false_iff, Bool.or_eq_false_iff, decide_eq_true_eq, decide_eq_false_iff_not, Bool.not_eq_true', Bool.not_eq_false', bne_iff_ne, ne_eq, beq_iff_eq, Bool.not_eq_true, Bool.not_eq_false, Int.not_lt, Int.not_le, gt_iff_lt, ge_iff_le, beq_eq_false_iff_ne, bne_eq_false_iff_eq] at c78
                            show Value.bool true = Value.bool true
                            first | rfl | contradiction | (exfalso; omega) | simp_all
                    · skip
                      replace c70 : (!(!true)) = false := c70
                      try simp only [Bool.and_eq_true, Bool.or_eq_true, Bool.and_eq_false_iff, Bool.or_eq_false_iff, decide_eq_true_eq, decide_eq_false_iff_not, Bool.not_eq_true', Bool.not_eq_false', bne_iff_ne, ne_eq, beq_iff_eq, Bool.not_eq_true, Bool.not_eq_false, Int.not_lt, Int.not_le, gt_iff_lt, ge_iff_le, beq_eq_false_iff_ne, bne_eq_false_iff_eq] at c70
                      show Value.bool false = Value.bool true
                      first | rfl | contradiction | (exfalso; omega) | simp_all
            · skip
              replace c45 : (!(!true)) = false := c45
              try simp only [Bool.and_eq_true, Bool.or_eq_true, Bool.and_eq_false_iff, Bool.or_eq_false_iff, decide_eq_true_eq, decide_eq_false_iff_not, Bool.not_eq_true', Bool.not_eq_false', bne_iff_ne, ne_eq, beq_iff_eq, Bool.not_eq_true, Bool.not_eq_false, Int.not_lt, Int.not_le, gt_iff_lt, ge_iff_le, beq_eq_false_iff_ne, bne_eq_false_iff_eq] at c45
              show Value.bool false = Value.bool true
              first | rfl | contradiction | (exfalso; omega) | simp_all
          · skip
            replace c41 : (!(decide (((1 : Int) + (cntV [.int s.low.1, .int s.low.2, .int s.high.1, .int s.high.2, .sl (vecsD s.robot), .sl (areasD s.obst), .sl (vecsD s.tables)] : Int)) < (0 : Int)))) = false := c41
            try simp only [Bool.and_eq_true, Bool.or_eq_true, Bool.and_eq_false_iff, Bool.or_eq_false_iff, decide_eq_true_eq, decide_eq_false_iff_not, Bool.not_eq_true', Bool.not_eq_false', bne_iff_ne, ne_eq, beq_iff_eq, Bool.not_eq_true, Bool.not_eq_false, Int.not_lt, Int.not_le, gt_iff_lt, ge_iff_le, beq_eq_false_iff_ne, bne_eq_false_iff_eq] at c41
            show Value.bool false = Value.bool true
            first | rfl | contradiction | (exfalso; omega) | simp_all
    · skip
      replace c27 : (!(!true)) = false := c27
      try simp only [Bool.and_eq_true, Bool.or_eq_true, Bool.and_eq_false_iff, Bool.or_eq_false_iff, decide_eq_true_eq, decide_eq_false_iff_not, Bool.not_eq_true', Bool.not_eq_false', bne_iff_ne, ne_eq, beq_iff_eq, Bool.not_eq_true, Bool.not_eq_false, Int.not_lt, Int.not_le, gt_iff_lt, ge_iff_le, beq_eq_false_iff_ne, bne_eq_false_iff_eq] at c27
      show Value.bool false = Value.bool true
      first | rfl | contradiction | (exfalso; omega) | simp_all
end Go.Proofs.Ytemgpfojmdncjaa
