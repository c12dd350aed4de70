/-
  The program's ShiftObstacle.
-/
import Derived.Test.YtemgpfojmdncjaaRkSh
namespace Go.Proofs.Ytemgpfojmdncjaa
set_option linter.unusedVariables false
set_option linter.unusedSimpArgs false
open Go.RowKit
def cloneRows_con : Con := { ι := (List (List Dat)), pre := fun i => i.length ≤ 1073741824, args := fun i => [.one (.sl 36 [.sl 31 [.int, .int]] i)], res := fun i => ⟨false, [none], [.top 36 [.sl 31 [.int, .int]] i]⟩ }
set_option maxRecDepth 100000 in
theorem cloneRows_ok : cloneRows_con.Ok Try.prog 82 := by
  refine fn_ok (X := ⟨tt, [], [], 8⟩) mixed tt_ok (CTok.nil _) Try.func82 (by decide) rfl rfl rfl (fun _ => Nat.le_of_ble_eq_true rfl) (fun _ => Nat.le_of_ble_eq_true rfl) (fun _ => []) ?_
  intro (l : List (List Dat)) hpre
  have hpre : l.length ≤ 1073741824 := hpre
  refine by_nf (q := ∀ b1 : Bool, (b1 = true → l = []) → ((b1 = true → ((([] : List (List Dat)) = l))) ∧ (b1 = false → ((([] : List (List Dat)).length + l.length ≤ 1073741824) ∧ (((([] : List (List Dat)) ++ l) = l)))))) (by kernel_rfl) ?_
  intro b1 q1
  refine ⟨fun c2 => ?_, fun c2 => ?_⟩
  · skip
    replace c2 : b1 = true := c2
    try simp only [Bool.and_eq_true, Bool.or_eq_true, Bool.and_eq_false_iff, Bool.or_eq_false_iff, decide_eq_true_eq, decide_eq_false_iff_not, Bool.not_eq_true', Bool.not_eq_false', bne_iff_ne, ne_eq, beq_iff_eq, Bool.not_eq_true, Bool.not_eq_false, Int.not_lt, Int.not_le, gt_iff_lt, ge_iff_le, beq_eq_false_iff_ne, bne_eq_false_iff_eq] at c2
    show ([] : List (List Dat)) = l
    first | rfl | (rw [q1 c2])
  · skip
    replace c2 : b1 = false := c2
    try simp only [Bool.and_eq_true, Bool.or_eq_true, Bool.and_eq_false_iff, Bool.or_eq_false_iff, decide_eq_true_eq, decide_eq_false_iff_not, Bool.not_eq_true', Bool.not_eq_false', bne_iff_ne, ne_eq, beq_iff_eq, Bool.not_eq_true, Bool.not_eq_false, Int.not_lt, Int.not_le, gt_iff_lt, ge_iff_le, beq_eq_false_iff_ne, bne_eq_false_iff_eq] at c2
    have o4 : ([] : List (List Dat)).length + l.length ≤ 1073741824 := by
      first | rfl | omega | (simp; done) | (simp; omega)
    refine ⟨o4, ?_⟩
    show (([] : List (List Dat)) ++ l) = l
    first | rfl | (rw [q1 c2])
def hasObs_con : Con := { ι := Scn × Int, pre := fun i => scnSz i.1, args := fun i => [.agg [.im (.int .i64 i.1.low.1), .im (.int .i64 i.1.low.2), .im (.int .i64 i.1.high.1), .im (.int .i64 i.1.high.2), .sl 31 [.int, .int] (vecsD i.1.robot), .sl 36 [.sl 31 [.int, .int]] (areasD i.1.obst), .sl 31 [.int, .int] (vecsD i.1.tables)], .one (.im (.int .i64 i.2))], res := fun i => ⟨false, [none], [.im (Value.bool (hasOb i.1 i.2))]⟩ }
theorem hasObs_ok : hasObs_con.Ok Try.prog 78 := genOwn_ok rfl ⟨_, Try.func78, by decide, rfl⟩ (fun _ => Nat.le_of_ble_eq_true rfl) (fun _ => rfl) (fun i => [.im (.bool (hasOb i.1 i.2))]) (fun _ => rfl) (fun _ => rfl) (fun i hp w us h => by
  obtain ⟨s, k⟩ := i
  obtain ⟨cs, v, rfl, h1, h2, h3⟩ := vals_agg_one (t := [.int, .int, .int, .int, .sl 31 [.int, .int], .sl 36 [.sl 31 [.int, .int]], .sl 31 [.int, .int]]) (x := .int) (ds := scnD s) (dx := .int k) h rfl
  have h2 : v = .int .i64 k := by simpa [Rd] using h2
  subst h2
  rw [show valD (hasObs_con.args (s, k)) (cs ++ [.int .i64 k]) = [.agg cs.toArray, .int .i64 k] from h3 _ _ rfl]
  refine (hasObstacle_c s k hp.2.1 _ w (RdRow.scene h1)).mono ?_
  rintro e w' ⟨rfl, hb⟩
  exact ⟨[.bool (hasOb s k)], rfl, Own.leaf (Fp.mk_bool _), hb⟩)
def iOwnScene_con : Con := { ι := Scn, pre := fun i => scnSz i, args := fun i => [.agg [.im (.int .i64 i.low.1), .im (.int .i64 i.low.2), .im (.int .i64 i.high.1), .im (.int .i64 i.high.2), .sl 31 [.int, .int] (vecsD i.robot), .sl 36 [.sl 31 [.int, .int]] (areasD i.obst), .sl 31 [.int, .int] (vecsD i.tables)]], res := fun i => ⟨false, [some 7], [.im (Value.int .i64 i.low.1), .im (Value.int .i64 i.low.2), .im (Value.int .i64 i.high.1), .im (Value.int .i64 i.high.2), .own 31 [.int, .int] (vecsD i.robot), .own 36 [.sl 31 [.int, .int]] (areasD i.obst), .own 31 [.int, .int] (vecsD i.tables)]⟩ }
theorem iOwnScene_ok : iOwnScene_con.Ok Try.prog 79 := genOwn_ok rfl ⟨_, Try.func79, by decide, rfl⟩ (fun _ => Nat.le_of_ble_eq_true rfl) (fun _ => rfl) (fun i => [.im (.int .i64 i.low.1), .im (.int .i64 i.low.2), .im (.int .i64 i.high.1), .im (.int .i64 i.high.2), .sl 31 [.int, .int] (vecsD i.robot), .sl 36 [.sl 31 [.int, .int]] (areasD i.obst), .sl 31 [.int, .int] (vecsD i.tables)]) (fun _ => rfl) (fun _ => rfl) (fun i hp w us h => by
  have h : RdRow w [.int, .int, .int, .int, .sl 31 [.int, .int], .sl 36 [.sl 31 [.int, .int]], .sl 31 [.int, .int]] (scnD i) us := h
  have hl := (RdRow.lens _ _ _ h).2
  rw [show valD (iOwnScene_con.args i) us = [.agg us.toArray] from valD_one_agg hl]
  refine (ownScene_c i hp.1 hp.2.1 hp.2.2.1 hp.2.2.2 _ w (RdRow.scene h)).mono ?_
  rintro e w' ⟨rs, rfl, ho, hb⟩
  refine ⟨rs, ?_, ho, hb⟩
  have := (RdRow.lens _ _ _ ho.rd).2
  simp only [RT.val, valA, iOwnScene_con]
  rw [List.take_of_length_le (by simp [scnD] at this; omega)]
  rfl)
def iTurned_con : Con := { ι := Scn × (List (List V2)), pre := fun i => scnSz i.1 ∧ i.2.length ≤ 1048576 ∧ ∀ x ∈ i.2, x.length ≤ 1048576, args := fun i => [.agg [.im (.int .i64 i.1.low.1), .im (.int .i64 i.1.low.2), .im (.int .i64 i.1.high.1), .im (.int .i64 i.1.high.2), .sl 31 [.int, .int] (vecsD i.1.robot), .sl 36 [.sl 31 [.int, .int]] (areasD i.1.obst), .sl 31 [.int, .int] (vecsD i.1.tables)], .one (.sl 36 [.sl 31 [.int, .int]] (areasD i.2))], res := fun i => ⟨true, [some 7, none], [.im (Value.int .i64 ((if validScn (withOb i.1 i.2) then withOb i.1 i.2 else i.1).low.1)), .im (Value.int .i64 ((if validScn (withOb i.1 i.2) then withOb i.1 i.2 else i.1).low.2)), .im (Value.int .i64 ((if validScn (withOb i.1 i.2) then withOb i.1 i.2 else i.1).high.1)), .im (Value.int .i64 ((if validScn (withOb i.1 i.2) then withOb i.1 i.2 else i.1).high.2)), .own 31 [.int, .int] (vecsD (if validScn (withOb i.1 i.2) then withOb i.1 i.2 else i.1).robot), .own 36 [.sl 31 [.int, .int]] (areasD (if validScn (withOb i.1 i.2) then withOb i.1 i.2 else i.1).obst), .own 31 [.int, .int] (vecsD (if validScn (withOb i.1 i.2) then withOb i.1 i.2 else i.1).tables), .im (Value.bool (validScn (withOb i.1 i.2)))]⟩ }
theorem iTurned_ok : iTurned_con.Ok Try.prog 80 := genOwn_ok rfl ⟨_, Try.func80, by decide, rfl⟩ (fun _ => Nat.le_of_ble_eq_true rfl) (fun _ => rfl) (fun i => [.im (.int .i64 (if validScn (withOb i.1 i.2) then withOb i.1 i.2 else i.1).low.1), .im (.int .i64 (if validScn (withOb i.1 i.2) then withOb i.1 i.2 else i.1).low.2), .im (.int .i64 (if validScn (withOb i.1 i.2) then withOb i.1 i.2 else i.1).high.1), .im (.int .i64 (if validScn (withOb i.1 i.2) then withOb i.1 i.2 else i.1).high.2), .sl 31 [.int, .int] (vecsD (if validScn (withOb i.1 i.2) then withOb i.1 i.2 else i.1).robot), .sl 36 [.sl 31 [.int, .int]] (areasD (if validScn (withOb i.1 i.2) then withOb i.1 i.2 else i.1).obst), .sl 31 [.int, .int] (vecsD (if validScn (withOb i.1 i.2) then withOb i.1 i.2 else i.1).tables), .im (.bool (validScn (withOb i.1 i.2)))]) (fun _ => rfl) (fun _ => rfl) (fun i hp w us h => by
  obtain ⟨s, l⟩ := i
  obtain ⟨cs, v, rfl, h1, h2, h3⟩ := vals_agg_one (t := [.int, .int, .int, .int, .sl 31 [.int, .int], .sl 36 [.sl 31 [.int, .int]], .sl 31 [.int, .int]]) (x := .sl 36 [.sl 31 [.int, .int]]) (ds := scnD s) (dx := .sl (areasD l)) h rfl
  rw [show valD (iTurned_con.args (s, l)) (cs ++ [v]) = [.agg cs.toArray, v] from h3 _ _ rfl]
  refine (turned_c s hp.1.1 hp.1.2.1 hp.1.2.2.1 hp.1.2.2.2 l hp.2.1 hp.2.2 _ _ w (RdRow.scene h1) (Rd.vecss h2)).mono ?_
  rintro e w' ⟨rs, rfl, ho, hb⟩
  have hq := own_agg_bool (validScn (withOb s l)) ho hb.size
  refine ⟨rs ++ [Value.bool (validScn (withOb s l))], ?_, hq, hb⟩
  exact congrArg Ending.returned (val_agg_bool (n := 7) (by have := (RdRow.lens _ _ _ ho.rd).2; exact this)).symm)
theorem hasOb_inv {s : Scn} {k : Int} (h : hasOb s k = true) : validScn s = true ∧ 0 ≤ k ∧ k < s.obst.length := by
  simp only [hasOb, inR, Bool.and_eq_true, decide_eq_true_eq] at h
  exact ⟨h.1, by omega, by omega⟩
theorem mvPoly_len (l : List V2) (dx dy : Int) : (mvPoly l dx dy).length ≤ l.length := by
  unfold mvPoly; split <;> simp [movL_len]
def iShiftObstacle_con : Con := { ι := Scn × Int × Int × Int, pre := fun i => scnSz i.1, args := fun i => [.agg [.im (.int .i64 i.1.low.1), .im (.int .i64 i.1.low.2), .im (.int .i64 i.1.high.1), .im (.int .i64 i.1.high.2), .sl 31 [.int, .int] (vecsD i.1.robot), .sl 36 [.sl 31 [.int, .int]] (areasD i.1.obst), .sl 31 [.int, .int] (vecsD i.1.tables)], .one (.im (.int .i64 i.2.1)), .agg [.im (.int .i64 i.2.2.1), .im (.int .i64 i.2.2.2)]], res := fun i => ⟨true, [some 7, none], [.im (Value.int .i64 ((shOb i.1 i.2.1 i.2.2.1 i.2.2.2).low.1)), .im (Value.int .i64 ((shOb i.1 i.2.1 i.2.2.1 i.2.2.2).low.2)), .im (Value.int .i64 ((shOb i.1 i.2.1 i.2.2.1 i.2.2.2).high.1)), .im (Value.int .i64 ((shOb i.1 i.2.1 i.2.2.1 i.2.2.2).high.2)), .own 31 [.int, .int] (vecsD (shOb i.1 i.2.1 i.2.2.1 i.2.2.2).robot), .own 36 [.sl 31 [.int, .int]] (areasD (shOb i.1 i.2.1 i.2.2.1 i.2.2.2).obst), .own 31 [.int, .int] (vecsD (shOb i.1 i.2.1 i.2.2.1 i.2.2.2).tables), .im (Value.bool (shOk i.1 i.2.1 i.2.2.1 i.2.2.2))]⟩ }
set_option maxRecDepth 100000 in
theorem iShiftObstacle_ok : iShiftObstacle_con.Ok Try.prog 37 := by
  refine fn_ok (X := ⟨tt, [(78, hasObs_con), (79, iOwnScene_con), (82, cloneRows_con), (86, iMovePolygon_con), (80, iTurned_con)], [], 32⟩) mixed tt_ok (CTok.cons hasObs_ok (CTok.cons iOwnScene_ok (CTok.cons cloneRows_ok (CTok.cons iMovePolygon_ok (CTok.cons iTurned_ok (CTok.nil _)))))) Try.func37 (by decide) rfl rfl rfl (fun _ => Nat.le_of_ble_eq_true rfl) (fun _ => Nat.le_of_ble_eq_true rfl) (fun _ => []) ?_
  rintro ⟨s, k, dx, dy⟩ hpre
  have hpre : scnSz s := hpre
  refine by_nf (q := ∃ i1 : Scn × Int, [DA.agg [DC.im (Value.int .i64 s.low.1), DC.im (Value.int .i64 s.low.2), DC.im (Value.int .i64 s.high.1), DC.im (Value.int .i64 s.high.2), DC.sl 31 [.int, .int] (vecsD s.robot), DC.sl 36 [.sl 31 [.int, .int]] (areasD s.obst), DC.sl 31 [.int, .int] (vecsD s.tables)], DA.one (DC.im (Value.int .i64 k))] = hasObs_con.args i1 ∧ hasObs_con.pre i1 ∧ (((!(hasOb i1.1 i1.2)) = true → (∃ i2 : Scn, [DA.agg [DC.im (Value.int .i64 s.low.1), DC.im (Value.int .i64 s.low.2), DC.im (Value.int .i64 s.high.1), DC.im (Value.int .i64 s.high.2), DC.sl 31 [.int, .int] (vecsD s.robot), DC.sl 36 [.sl 31 [.int, .int]] (areasD s.obst), DC.sl 31 [.int, .int] (vecsD s.tables)]] = iOwnScene_con.args i2 ∧ iOwnScene_con.pre i2 ∧ ((Value.int .i64 i2.low.1 = Value.int .i64 ((shOb s k dx dy).low.1)) ∧ (Value.int .i64 i2.low.2 = Value.int .i64 ((shOb s k dx dy).low.2)) ∧ (Value.int .i64 i2.high.1 = Value.int .i64 ((shOb s k dx dy).high.1)) ∧ (Value.int .i64 i2.high.2 = Value.int .i64 ((shOb s k dx dy).high.2)) ∧ (vecsD i2.robot = vecsD (shOb s k dx dy).robot) ∧ (areasD i2.obst = areasD (shOb s k dx dy).obst) ∧ (vecsD i2.tables = vecsD (shOb s k dx dy).tables) ∧ (Value.bool false = Value.bool (shOk s k dx dy))))) ∧ ((!(hasOb i1.1 i1.2)) = false → (∃ i3 : (List (List Dat)), [DA.one (DC.sl 36 [.sl 31 [.int, .int]] (areasD s.obst))] = cloneRows_con.args i3 ∧ cloneRows_con.pre i3 ∧ ((0 ≤ k ∧ k < (i3.length : Int)) ∧ (((k).toNat < i3.length) ∧ (∃ i4 : (List V2) × Int × Int, [DA.one (DC.sl 31 [.int, .int] ((((i3.getD ((k).toNat) []).getD 0 (.int 0))).r)), DA.agg [DC.im (Value.int .i64 dx), DC.im (Value.int .i64 dy)]] = iMovePolygon_con.args i4 ∧ iMovePolygon_con.pre i4 ∧ ((0 ≤ k ∧ k < (i3.length : Int)) ∧ (((k).toNat < i3.length) ∧ (∃ i5 : Scn × (List (List V2)), [DA.agg [DC.im (Value.int .i64 s.low.1), DC.im (Value.int .i64 s.low.2), DC.im (Value.int .i64 s.high.1), DC.im (Value.int .i64 s.high.2), DC.sl 31 [.int, .int] (vecsD s.robot), DC.sl 36 [.sl 31 [.int, .int]] (areasD s.obst), DC.sl 31 [.int, .int] (vecsD s.tables)], DA.one (DC.sl 36 [.sl 31 [.int, .int]] (i3.set ((k).toNat) ((i3.getD ((k).toNat) []).set 0 (Dat.sl (vecsD (mvPoly i4.1 i4.2.1 i4.2.2))))))] = iTurned_con.args i5 ∧ iTurned_con.pre i5 ∧ ((Value.int .i64 ((if validScn (withOb i5.1 i5.2) then withOb i5.1 i5.2 else i5.1).low.1) = Value.int .i64 ((shOb s k dx dy).low.1)) ∧ (Value.int .i64 ((if validScn (withOb i5.1 i5.2) then withOb i5.1 i5.2 else i5.1).low.2) = Value.int .i64 ((shOb s k dx dy).low.2)) ∧ (Value.int .i64 ((if validScn (withOb i5.1 i5.2) then withOb i5.1 i5.2 else i5.1).high.1) = Value.int .i64 ((shOb s k dx dy).high.1)) ∧ (Value.int .i64 ((if validScn (withOb i5.1 i5.2) then withOb i5.1 i5.2 else i5.1).high.2) = Value.int .i64 ((shOb s k dx dy).high.2)) ∧ (vecsD (if validScn (withOb i5.1 i5.2) then withOb i5.1 i5.2 else i5.1).robot = vecsD (shOb s k dx dy).robot) ∧ (areasD (if validScn (withOb i5.1 i5.2) then withOb i5.1 i5.2 else i5.1).obst = areasD (shOb s k dx dy).obst) ∧ (vecsD (if validScn (withOb i5.1 i5.2) then withOb i5.1 i5.2 else i5.1).tables = vecsD (shOb s k dx dy).tables) ∧ (Value.bool (validScn (withOb i5.1 i5.2)) = Value.bool (shOk s k dx dy))))))))))))) (by kernel_rfl) ?_
  have hz := hpre
  obtain ⟨h1, h2, h3, h4⟩ := hpre
  have hla := areasD_length s.obst
  refine ⟨(s, k), by
    rfl, by
    show scnSz s
    first | trivial | exact hz | (simp only [areasD_length]; omega) | exact valid_obst hv (by omega), ?_⟩
  refine ⟨fun c4 => ?_, fun c4 => ?_⟩
  · skip
    replace c4 : (!(hasOb s k)) = true := c4
    try simp only [Bool.and_eq_true, Bool.or_eq_true, Bool.and_eq_false_iff, Bool.or_eq_false_iff, decide_eq_true_eq, decide_eq_false_iff_not, Bool.not_eq_true', Bool.not_eq_false', bne_iff_ne, ne_eq, beq_iff_eq, Bool.not_eq_true, Bool.not_eq_false, Int.not_lt, Int.not_le, gt_iff_lt, ge_iff_le, beq_eq_false_iff_ne, bne_eq_false_iff_eq] at c4
    have hs : shOk s k dx dy = false := shOk_no1 (by simpa using c4)
    refine ⟨s, by
      rfl, by
      show scnSz s
      first | trivial | exact hz | (simp only [areasD_length]; omega) | exact valid_obst hv (by omega), ?_⟩
    refine ⟨?_, ?_⟩
    · skip
      show Value.int .i64 s.low.1 = Value.int .i64 ((shOb s k dx dy).low.1)
      first | rfl | (rw [shOb_no hs]; done) | (rw [hs]; done) | (unfold shOb; rw [hs]; rfl) | (rw [hs]; rfl)
    refine ⟨?_, ?_⟩
    · skip
      show Value.int .i64 s.low.2 = Value.int .i64 ((shOb s k dx dy).low.2)
      first | rfl | (rw [shOb_no hs]; done) | (rw [hs]; done) | (unfold shOb; rw [hs]; rfl) | (rw [hs]; rfl)
    refine ⟨?_, ?_⟩
    · skip
      show Value.int .i64 s.high.1 = Value.int .i64 ((shOb s k dx dy).high.1)
      first | rfl | (rw [shOb_no hs]; done) | (rw [hs]; done) | (unfold shOb; rw [hs]; rfl) | (rw [hs]; rfl)
    refine ⟨?_, ?_⟩
    · skip
      show Value.int .i64 s.high.2 = Value.int .i64 ((shOb s k dx dy).high.2)
      first | rfl | (rw [shOb_no hs]; done) | (rw [hs]; done) | (unfold shOb; rw [hs]; rfl) | (rw [hs]; rfl)
    refine ⟨?_, ?_⟩
    · skip
      show vecsD s.robot = vecsD (shOb s k dx dy).robot
      first | rfl | (rw [shOb_no hs]; done) | (rw [hs]; done) | (unfold shOb; rw [hs]; rfl) | (rw [hs]; rfl)
    refine ⟨?_, ?_⟩
    · skip
      show areasD s.obst = areasD (shOb s k dx dy).obst
      first | rfl | (rw [shOb_no hs]; done) | (rw [hs]; done) | (unfold shOb; rw [hs]; rfl) | (rw [hs]; rfl)
    refine ⟨?_, ?_⟩
    · skip
      show vecsD s.tables = vecsD (shOb s k dx dy).tables
      first | rfl | (rw [shOb_no hs]; done) | (rw [hs]; done) | (unfold shOb; rw [hs]; rfl) | (rw [hs]; rfl)
    show Value.bool false = Value.bool (shOk s k dx dy)
    first | rfl | (rw [shOb_no hs]; done) | (rw [hs]; done) | (unfold shOb; rw [hs]; rfl) | (rw [hs]; rfl)
  · skip
    replace c4 : (!(hasOb s k)) = false := c4
    try simp only [Bool.and_eq_true, Bool.or_eq_true, Bool.and_eq_false_iff, Bool.or_eq_false_iff, decide_eq_true_eq, decide_eq_false_iff_not, Bool.not_eq_true', Bool.not_eq_false', bne_iff_ne, ne_eq, beq_iff_eq, Bool.not_eq_true, Bool.not_eq_false, Int.not_lt, Int.not_le, gt_iff_lt, ge_iff_le, beq_eq_false_iff_ne, bne_eq_false_iff_eq] at c4
    have c4 : hasOb s k = true := by simpa using c4
    obtain ⟨hv, hk0, hk1⟩ := hasOb_inv c4
    have hs : shOk s k dx dy = validScn (mvOb s k.toNat dx dy) := by unfold shOk; rw [c4]; rfl
    refine ⟨(areasD s.obst), by
      rfl, by
      show (areasD s.obst).length ≤ 1073741824
      first | trivial | exact hz | (simp only [areasD_length]; omega) | exact valid_obst hv (by omega), ?_⟩
    have o19 : 0 ≤ k ∧ k < ((areasD s.obst).length : Int) := by
      first | rfl | omega | (simp only [areasD_length]; omega) | (simp [vecsD_length, areasD_length]; omega)
    refine ⟨o19, ?_⟩
    have o20 : (k).toNat < (areasD s.obst).length := by
      first | rfl | omega | (simp only [areasD_length]; omega) | (simp [vecsD_length, areasD_length]; omega)
    refine ⟨o20, ?_⟩
    refine ⟨(s.obst.getD k.toNat [], dx, dy), by
      exact congrArg (fun x => [DA.one (DC.sl 31 [.int, .int] x), DA.agg [.im (.int .i64 dx), .im (.int .i64 dy)]]) (areasD_at (by omega)), by
      show (s.obst.getD k.toNat []).length ≤ 1048576 ∧ (s.obst.getD k.toNat []).all isVec = true
      first | trivial | exact hz | (simp only [areasD_length]; omega) | exact valid_obst hv (by omega), ?_⟩
    have o24 : 0 ≤ k ∧ k < ((areasD s.obst).length : Int) := by
      first | rfl | omega | (simp only [areasD_length]; omega) | (simp [vecsD_length, areasD_length]; omega)
    refine ⟨o24, ?_⟩
    have o25 : (k).toNat < (areasD s.obst).length := by
      first | rfl | omega | (simp only [areasD_length]; omega) | (simp [vecsD_length, areasD_length]; omega)
    refine ⟨o25, ?_⟩
    refine ⟨(s, s.obst.set k.toNat (mvPoly (s.obst.getD k.toNat []) dx dy)), by
      exact congrArg (fun x => [DA.agg [.im (.int .i64 s.low.1), .im (.int .i64 s.low.2), .im (.int .i64 s.high.1), .im (.int .i64 s.high.2), .sl 31 [.int, .int] (vecsD s.robot), .sl 36 [.sl 31 [.int, .int]] (areasD s.obst), .sl 31 [.int, .int] (vecsD s.tables)], DA.one (DC.sl 36 [.sl 31 [.int, .int]] x)]) (areasD_put (by omega) _), by
      show scnSz s ∧ (s.obst.set k.toNat (mvPoly (s.obst.getD k.toNat []) dx dy)).length ≤ 1048576 ∧ ∀ x ∈ (s.obst.set k.toNat (mvPoly (s.obst.getD k.toNat []) dx dy)), x.length ≤ 1048576
      refine ⟨hz, by rw [List.length_set]; omega, fun x hx => ?_⟩
      rcases List.mem_or_eq_of_mem_set hx with hx | rfl
      · exact h3 x hx
      · have := mvPoly_len (s.obst.getD k.toNat []) dx dy; have := (valid_obst hv (show k.toNat < s.obst.length by omega)).1; omega, ?_⟩
    refine ⟨?_, ?_⟩
    · skip
      show Value.int .i64 ((if validScn (withOb s (s.obst.set k.toNat (mvPoly (s.obst.getD k.toNat []) dx dy))) then withOb s (s.obst.set k.toNat (mvPoly (s.obst.getD k.toNat []) dx dy)) else s).low.1) = Value.int .i64 ((shOb s k dx dy).low.1)
      first | rfl | (rw [shOb_no hs]; done) | (rw [hs]; done) | (unfold shOb; rw [hs]; rfl) | (rw [hs]; rfl)
    refine ⟨?_, ?_⟩
    · skip
      show Value.int .i64 ((if validScn (withOb s (s.obst.set k.toNat (mvPoly (s.obst.getD k.toNat []) dx dy))) then withOb s (s.obst.set k.toNat (mvPoly (s.obst.getD k.toNat []) dx dy)) else s).low.2) = Value.int .i64 ((shOb s k dx dy).low.2)
      first | rfl | (rw [shOb_no hs]; done) | (rw [hs]; done) | (unfold shOb; rw [hs]; rfl) | (rw [hs]; rfl)
    refine ⟨?_, ?_⟩
    · skip
      show Value.int .i64 ((if validScn (withOb s (s.obst.set k.toNat (mvPoly (s.obst.getD k.toNat []) dx dy))) then withOb s (s.obst.set k.toNat (mvPoly (s.obst.getD k.toNat []) dx dy)) else s).high.1) = Value.int .i64 ((shOb s k dx dy).high.1)
      first | rfl | (rw [shOb_no hs]; done) | (rw [hs]; done) | (unfold shOb; rw [hs]; rfl) | (rw [hs]; rfl)
    refine ⟨?_, ?_⟩
    · skip
      show Value.int .i64 ((if validScn (withOb s (s.obst.set k.toNat (mvPoly (s.obst.getD k.toNat []) dx dy))) then withOb s (s.obst.set k.toNat (mvPoly (s.obst.getD k.toNat []) dx dy)) else s).high.2) = Value.int .i64 ((shOb s k dx dy).high.2)
      first | rfl | (rw [shOb_no hs]; done) | (rw [hs]; done) | (unfold shOb; rw [hs]; rfl) | (rw [hs]; rfl)
    refine ⟨?_, ?_⟩
    · skip
      show vecsD (if validScn (withOb s (s.obst.set k.toNat (mvPoly (s.obst.getD k.toNat []) dx dy))) then withOb s (s.obst.set k.toNat (mvPoly (s.obst.getD k.toNat []) dx dy)) else s).robot = vecsD (shOb s k dx dy).robot
      first | rfl | (rw [shOb_no hs]; done) | (rw [hs]; done) | (unfold shOb; rw [hs]; rfl) | (rw [hs]; rfl)
    refine ⟨?_, ?_⟩
    · skip
      show areasD (if validScn (withOb s (s.obst.set k.toNat (mvPoly (s.obst.getD k.toNat []) dx dy))) then withOb s (s.obst.set k.toNat (mvPoly (s.obst.getD k.toNat []) dx dy)) else s).obst = areasD (shOb s k dx dy).obst
      first | rfl | (rw [shOb_no hs]; done) | (rw [hs]; done) | (unfold shOb; rw [hs]; rfl) | (rw [hs]; rfl)
    refine ⟨?_, ?_⟩
    · skip
      show vecsD (if validScn (withOb s (s.obst.set k.toNat (mvPoly (s.obst.getD k.toNat []) dx dy))) then withOb s (s.obst.set k.toNat (mvPoly (s.obst.getD k.toNat []) dx dy)) else s).tables = vecsD (shOb s k dx dy).tables
      first | rfl | (rw [shOb_no hs]; done) | (rw [hs]; done) | (unfold shOb; rw [hs]; rfl) | (rw [hs]; rfl)
    show Value.bool (validScn (withOb s (s.obst.set k.toNat (mvPoly (s.obst.getD k.toNat []) dx dy)))) = Value.bool (shOk s k dx dy)
    first | rfl | (rw [shOb_no hs]; done) | (rw [hs]; done) | (unfold shOb; rw [hs]; rfl) | (rw [hs]; rfl)
end Go.Proofs.Ytemgpfojmdncjaa
