/-
  MovePolygon.
-/
import Derived.Test.YtemgpfojmdncjaaRkS
import Derived.Test.YtemgpfojmdncjaaScL
namespace Go.Proofs.Ytemgpfojmdncjaa
set_option linter.unusedVariables false
set_option linter.unusedSimpArgs false
open Go.RowKit
def iIsVec_con : Con := { ι := Int × Int, pre := fun i => True, args := fun i => [.agg [.im (.int .i64 i.1), .im (.int .i64 i.2)]], res := fun i => ⟨false, [none], [.im (Value.bool (isVec (i.1, i.2)))]⟩ }
theorem iIsVec_ok : iIsVec_con.Ok Try.prog 123 := genOwn_ok rfl ⟨_, Try.func123, by decide, rfl⟩ (fun _ => Nat.le_of_ble_eq_true rfl) (fun _ => rfl) (fun i => [.im (.bool (isVec (i.1, i.2)))]) (fun _ => rfl) (fun _ => rfl) (fun i hp w us h => by
  obtain ⟨x, y⟩ := i
  have h : RdRow w [.int, .int] [.int x, .int y] us := h
  obtain ⟨a, _, rfl, q1, h⟩ := RdRow.cons2 h
  obtain ⟨b, _, rfl, q2, h⟩ := RdRow.cons2 h
  obtain ⟨-, rfl⟩ := RdRow.nil_inv h
  obtain rfl := Rd.int2 q1
  obtain rfl := Rd.int2 q2
  refine (isVec_c x y w).mono ?_
  rintro e w' ⟨rfl, hb⟩
  exact ⟨[Value.bool (isVec (x, y))], rfl, Own.leaf (Fp.mk_bool _), hb⟩)
def sIsVec_con : Con := { ι := Int × Int, pre := fun i => True, args := fun i => [.agg [.im (.int .i64 i.1), .im (.int .i64 i.2)]], res := fun i => ⟨false, [none], [.im (Value.bool (isVec (i.1, i.2)))]⟩ }
theorem sIsVec_ok : sIsVec_con.Ok Try.prog 90 := genOwn_ok rfl ⟨_, Try.func90, by decide, rfl⟩ (fun _ => Nat.le_of_ble_eq_true rfl) (fun _ => rfl) (fun i => [.im (.bool (isVec (i.1, i.2)))]) (fun _ => rfl) (fun _ => rfl) (fun i hp w us h => by
  obtain ⟨x, y⟩ := i
  have h : RdRow w [.int, .int] [.int x, .int y] us := h
  obtain ⟨a, _, rfl, q1, h⟩ := RdRow.cons2 h
  obtain ⟨b, _, rfl, q2, h⟩ := RdRow.cons2 h
  obtain ⟨-, rfl⟩ := RdRow.nil_inv h
  obtain rfl := Rd.int2 q1
  obtain rfl := Rd.int2 q2
  refine (IsValidVec_c x y w).mono ?_
  rintro e w' ⟨rfl, hb⟩
  exact ⟨[Value.bool (isVec (x, y))], rfl, Own.leaf (Fp.mk_bool _), hb⟩)
def areVecs_con : Con := { ι := (List V2), pre := fun i => True, args := fun i => [.one (.sl 31 [.int, .int] (vecsD i))], res := fun i => ⟨false, [none], [.im (Value.bool (i.all isVec))]⟩ }
theorem areVecs_ok : areVecs_con.Ok Try.prog 93 := genOwn_ok rfl ⟨_, Try.func93, by decide, rfl⟩ (fun _ => Nat.le_of_ble_eq_true rfl) (fun _ => rfl) (fun l => [.im (.bool (l.all isVec))]) (fun _ => rfl) (fun _ => rfl) (fun i hp w us h => by
  have h : RdRow w [.sl 31 [.int, .int]] [.sl (vecsD i)] us := h
  obtain ⟨v, vs, rfl, h1, h2⟩ := RdRow.cons2 h
  obtain ⟨-, rfl⟩ := RdRow.nil_inv h2
  refine (areVecs_c i v w (Rd.vecs h1)).mono ?_
  rintro e w' ⟨rfl, hb⟩
  exact ⟨[Value.bool (i.all isVec)], rfl, Own.leaf (Fp.mk_bool _), hb⟩)
def moved_con : Con := { ι := (List V2) × Int × Int, pre := fun i => i.1.length ≤ 1048576, args := fun i => [.one (.sl 31 [.int, .int] (vecsD i.1)), .agg [.im (.int .i64 i.2.1), .im (.int .i64 i.2.2)]], res := fun i => ⟨false, [none], [.own 31 [.int, .int] (vecsD (movL i.1 i.2.1 i.2.2))]⟩ }
set_option maxRecDepth 100000 in
theorem moved_ok : moved_con.Ok Try.prog 102 := by
  refine fn_ok (X := ⟨tt, [], [], 31⟩) mixed tt_ok (CTok.nil _) Try.func102 (by decide) rfl rfl rfl (fun _ => Nat.le_of_ble_eq_true rfl) (fun _ => Nat.le_of_ble_eq_true rfl) (fun i => [(3, .mk 4 (Nat) (fun x1 => { tm := [(3, .one (.one (.bp 1 0))), (9, .one (.one (.ext 2))), (10, .one (.one (.im (Value.int .i64 (((vecsD i.1).length : Nat) : Int))))), (11, .one (.one (.im (Value.int .i64 (x1 : Int))))), (5, .one (.one (.ext 3)))], en := [(1, .box [.im (Value.int .i64 i.2.1), .im (Value.int .i64 i.2.2)]), (2, .view 31 [.int, .int] (vecsD i.1) []), (3, .own 31 [.int, .int] (vecsD (movL (i.1.take x1) i.2.1 i.2.2)))] }) (fun x1 => x1 ≤ i.1.length) (fun x1 => i.1.length - x1) (fun _ => []))]) ?_
  rintro ⟨l, dx, dy⟩ hpre
  have hpre : l.length ≤ 1048576 := hpre
  refine by_nf (q := (∃ x1 : Nat, (x1 ≤ l.length) ∧ ((Value.int .i64 (((vecsD l).length : Nat) : Int) = Value.int .i64 (((vecsD l).length : Nat) : Int)) ∧ (Value.int .i64 (0 : Int) = Value.int .i64 (x1 : Int)) ∧ (Value.int .i64 dx = Value.int .i64 dx) ∧ (Value.int .i64 dy = Value.int .i64 dy) ∧ ((vecsD l) = (vecsD l)) ∧ (([] : List (List Dat)) = (vecsD (movL (l.take x1) dx dy))))) ∧ ∀ x1 : Nat, (x1 ≤ l.length) → (((decide ((x1 : Int) < (((vecsD l).length : Nat) : Int))) = true → ((0 ≤ (x1 : Int) ∧ (x1 : Int) < ((vecsD l).length : Int)) ∧ ((x1 < (vecsD l).length) ∧ (((vecsD (movL (l.take x1) dx dy)).length + ([[Dat.int (IntKind.i64.wrap (((((vecsD l).getD x1 []).getD 0 (.int 0))).n + dx)), Dat.int (IntKind.i64.wrap (((((vecsD l).getD x1 []).getD 1 (.int 0))).n + dy))]] : List (List Dat)).length ≤ 1073741824) ∧ (∃ y2 : Nat, (y2 ≤ l.length) ∧ (l.length - y2 < l.length - x1) ∧ ((Value.int .i64 (((vecsD l).length : Nat) : Int) = Value.int .i64 (((vecsD l).length : Nat) : Int)) ∧ (Value.int .i64 (IntKind.i64.wrap ((x1 : Int) + (1 : Int))) = Value.int .i64 (y2 : Int)) ∧ (Value.int .i64 dx = Value.int .i64 dx) ∧ (Value.int .i64 dy = Value.int .i64 dy) ∧ ((vecsD l) = (vecsD l)) ∧ (((vecsD (movL (l.take x1) dx dy)) ++ ([[Dat.int (IntKind.i64.wrap (((((vecsD l).getD x1 []).getD 0 (.int 0))).n + dx)), Dat.int (IntKind.i64.wrap (((((vecsD l).getD x1 []).getD 1 (.int 0))).n + dy))]] : List (List Dat))) = (vecsD (movL (l.take y2) dx dy))))))))) ∧ ((decide ((x1 : Int) < (((vecsD l).length : Nat) : Int))) = false → (((vecsD (movL (l.take x1) dx dy)) = vecsD (movL l dx dy)))))) (by kernel_rfl) ?_
  have hvl := vecsD_length l
  refine ⟨⟨0, by
    first | trivial | omega | (simp; omega), ?_⟩, ?_⟩
  · skip
    refine ⟨?_, ?_⟩
    · skip
      show Value.int .i64 (((vecsD l).length : Nat) : Int) = Value.int .i64 (((vecsD l).length : Nat) : Int)
      first | rfl | (rw [vecsD_length])
    refine ⟨?_, ?_⟩
    · skip
      show Value.int .i64 (0 : Int) = Value.int .i64 (0 : Int)
      first | rfl | (rw [vecsD_length])
    refine ⟨?_, ?_⟩
    · skip
      show Value.int .i64 dx = Value.int .i64 dx
      first | rfl | (rw [vecsD_length])
    refine ⟨?_, ?_⟩
    · skip
      show Value.int .i64 dy = Value.int .i64 dy
      first | rfl | (rw [vecsD_length])
    refine ⟨?_, ?_⟩
    · skip
      show (vecsD l) = (vecsD l)
      first | rfl | (rw [vecsD_length])
    show ([] : List (List Dat)) = (vecsD (movL (l.take 0) dx dy))
    first | rfl | (rw [vecsD_length])
  intro (k : Nat) hki1
  have hki1 : k ≤ l.length := hki1
  have hml : (vecsD (movL (l.take k) dx dy)).length = k := by rw [vecsD_length, movL_len, List.length_take]; omega
  refine ⟨fun c9 => ?_, fun c9 => ?_⟩
  · skip
    replace c9 : (decide ((k : Int) < (((vecsD l).length : Nat) : Int))) = true := c9
    try simp only [Bool.and_eq_true, Bool.or_eq_true, Bool.and_eq_false_iff, Bool.or_eq_false_iff, decide_eq_true_eq, decide_eq_false_iff_not, Bool.not_eq_true', Bool.not_eq_false', bne_iff_ne, ne_eq, beq_iff_eq, Bool.not_eq_true, Bool.not_eq_false, Int.not_lt, Int.not_le, gt_iff_lt, ge_iff_le, beq_eq_false_iff_ne, bne_eq_false_iff_eq] at c9
    have o10 : 0 ≤ (k : Int) ∧ (k : Int) < ((vecsD l).length : Int) := by
      first | rfl | omega | (rw [vecsD_length]; omega) | (rw [vecsD_length]; exact_mod_cast (by omega)) | (simp [vecsD_length, movL_len]; omega)
    refine ⟨o10, ?_⟩
    have o11 : k < (vecsD l).length := by
      first | rfl | omega | (rw [vecsD_length]; omega) | (rw [vecsD_length]; exact_mod_cast (by omega)) | (simp [vecsD_length, movL_len]; omega)
    refine ⟨o11, ?_⟩
    have o12 : (vecsD (movL (l.take k) dx dy)).length + ([[Dat.int (IntKind.i64.wrap (((((vecsD l).getD k []).getD 0 (.int 0))).n + dx)), Dat.int (IntKind.i64.wrap (((((vecsD l).getD k []).getD 1 (.int 0))).n + dy))]] : List (List Dat)).length ≤ 1073741824 := by
      first | rfl | omega | (rw [vecsD_length]; omega) | (rw [vecsD_length]; exact_mod_cast (by omega)) | (simp [vecsD_length, movL_len]; omega)
    refine ⟨o12, ?_⟩
    refine ⟨k + 1, by
      first | trivial | omega | (simp; omega), by
      first | omega | (simp; omega), ?_⟩
    refine ⟨?_, ?_⟩
    · skip
      show Value.int .i64 (((vecsD l).length : Nat) : Int) = Value.int .i64 (((vecsD l).length : Nat) : Int)
      first | rfl | exact vint (wrap64 (by omega) (by omega)) | exact movL_succ (by omega)
    refine ⟨?_, ?_⟩
    · skip
      show Value.int .i64 (IntKind.i64.wrap ((k : Int) + (1 : Int))) = Value.int .i64 ((k + 1) : Int)
      first | rfl | exact vint (wrap64 (by omega) (by omega)) | exact movL_succ (by omega)
    refine ⟨?_, ?_⟩
    · skip
      show Value.int .i64 dx = Value.int .i64 dx
      first | rfl | exact vint (wrap64 (by omega) (by omega)) | exact movL_succ (by omega)
    refine ⟨?_, ?_⟩
    · skip
      show Value.int .i64 dy = Value.int .i64 dy
      first | rfl | exact vint (wrap64 (by omega) (by omega)) | exact movL_succ (by omega)
    refine ⟨?_, ?_⟩
    · skip
      show (vecsD l) = (vecsD l)
      first | rfl | exact vint (wrap64 (by omega) (by omega)) | exact movL_succ (by omega)
    show ((vecsD (movL (l.take k) dx dy)) ++ ([[Dat.int (IntKind.i64.wrap (((((vecsD l).getD k []).getD 0 (.int 0))).n + dx)), Dat.int (IntKind.i64.wrap (((((vecsD l).getD k []).getD 1 (.int 0))).n + dy))]] : List (List Dat))) = (vecsD (movL (l.take (k + 1)) dx dy))
    first | rfl | exact vint (wrap64 (by omega) (by omega)) | exact movL_succ (by omega)
  · skip
    replace c9 : (decide ((k : Int) < (((vecsD l).length : Nat) : Int))) = false := c9
    try simp only [Bool.and_eq_true, Bool.or_eq_true, Bool.and_eq_false_iff, Bool.or_eq_false_iff, decide_eq_true_eq, decide_eq_false_iff_not, Bool.not_eq_true', Bool.not_eq_false', bne_iff_ne, ne_eq, beq_iff_eq, Bool.not_eq_true, Bool.not_eq_false, Int.not_lt, Int.not_le, gt_iff_lt, ge_iff_le, beq_eq_false_iff_ne, bne_eq_false_iff_eq] at c9
    show (vecsD (movL (l.take k) dx dy)) = vecsD (movL l dx dy)
    rw [show k = l.length by omega, List.take_length]
def iMovePolygon_con : Con := { ι := (List V2) × Int × Int, pre := fun i => i.1.length ≤ 1048576 ∧ i.1.all isVec = true, args := fun i => [.one (.sl 31 [.int, .int] (vecsD i.1)), .agg [.im (.int .i64 i.2.1), .im (.int .i64 i.2.2)]], res := fun i => ⟨false, [none], [.own 31 [.int, .int] (vecsD (mvPoly i.1 i.2.1 i.2.2))]⟩ }
set_option maxRecDepth 100000 in
theorem iMovePolygon_ok : iMovePolygon_con.Ok Try.prog 86 := by
  refine fn_ok (X := ⟨tt, [(102, moved_con), (123, iIsVec_con), (93, areVecs_con)], [], 18⟩) mixed tt_ok (CTok.cons moved_ok (CTok.cons iIsVec_ok (CTok.cons areVecs_ok (CTok.nil _)))) Try.func86 (by decide) rfl rfl rfl (fun _ => Nat.le_of_ble_eq_true rfl) (fun _ => Nat.le_of_ble_eq_true rfl) (fun _ => []) ?_
  rintro ⟨l, dx, dy⟩ hpre
  have hpre : l.length ≤ 1048576 ∧ l.all isVec = true := hpre
  refine by_nf (q := ∃ i1 : (List V2) × Int × Int, [DA.one (DC.sl 31 [.int, .int] (vecsD l)), DA.agg [DC.im (Value.int .i64 dx), DC.im (Value.int .i64 dy)]] = moved_con.args i1 ∧ moved_con.pre i1 ∧ (∃ i2 : Int × Int, [DA.agg [DC.im (Value.int .i64 dx), DC.im (Value.int .i64 dy)]] = iIsVec_con.args i2 ∧ iIsVec_con.pre i2 ∧ (((!(!(isVec (i2.1, i2.2)))) = true → (∃ i3 : (List V2), [DA.one (DC.sl 31 [.int, .int] (vecsD (movL i1.1 i1.2.1 i1.2.2)))] = areVecs_con.args i3 ∧ areVecs_con.pre i3 ∧ (((!(i3.all isVec)) = true → ((([] : List (List Dat)) = vecsD (mvPoly l dx dy)))) ∧ ((!(i3.all isVec)) = false → ((vecsD (movL i1.1 i1.2.1 i1.2.2) = vecsD (mvPoly l dx dy))))))) ∧ ((!(!(isVec (i2.1, i2.2)))) = false → ((([] : List (List Dat)) = vecsD (mvPoly l dx dy))))))) (by kernel_rfl) ?_
  refine ⟨(l, dx, dy), by
    rfl, by
    show l.length ≤ 1048576
    first | exact hpre.1 | trivial, ?_⟩
  refine ⟨(dx, dy), by
    rfl, by
    first | exact hpre.1 | trivial, ?_⟩
  refine ⟨fun c7 => ?_, fun c7 => ?_⟩
  · skip
    replace c7 : (!(!(isVec (dx, dy)))) = true := c7
    try simp only [Bool.and_eq_true, Bool.or_eq_true, Bool.and_eq_false_iff, Bool.or_eq_false_iff, decide_eq_true_eq, decide_eq_false_iff_not, Bool.not_eq_true', Bool.not_eq_false', bne_iff_ne, ne_eq, beq_iff_eq, Bool.not_eq_true, Bool.not_eq_false, Int.not_lt, Int.not_le, gt_iff_lt, ge_iff_le, beq_eq_false_iff_ne, bne_eq_false_iff_eq] at c7
    refine ⟨(movL l dx dy), by
      rfl, by
      first | exact hpre.1 | trivial, ?_⟩
    refine ⟨fun c11 => ?_, fun c11 => ?_⟩
    · skip
      replace c11 : (!((movL l dx dy).all isVec)) = true := c11
      try simp only [Bool.and_eq_true, Bool.or_eq_true, Bool.and_eq_false_iff, Bool.or_eq_false_iff, decide_eq_true_eq, decide_eq_false_iff_not, Bool.not_eq_true', Bool.not_eq_false', bne_iff_ne, ne_eq, beq_iff_eq, Bool.not_eq_true, Bool.not_eq_false, Int.not_lt, Int.not_le, gt_iff_lt, ge_iff_le, beq_eq_false_iff_ne, bne_eq_false_iff_eq] at c11
      show ([] : List (List Dat)) = vecsD (mvPoly l dx dy)
      first | (rw [mvPoly_no (by simp_all)]; rfl) | (rw [mvPoly_yes (by simp_all) (by simp_all)])
    · skip
      replace c11 : (!((movL l dx dy).all isVec)) = false := c11
      try simp only [Bool.and_eq_true, Bool.or_eq_true, Bool.and_eq_false_iff, Bool.or_eq_false_iff, decide_eq_true_eq, decide_eq_false_iff_not, Bool.not_eq_true', Bool.not_eq_false', bne_iff_ne, ne_eq, beq_iff_eq, Bool.not_eq_true, Bool.not_eq_false, Int.not_lt, Int.not_le, gt_iff_lt, ge_iff_le, beq_eq_false_iff_ne, bne_eq_false_iff_eq] at c11
      show vecsD (movL l dx dy) = vecsD (mvPoly l dx dy)
      first | (rw [mvPoly_no (by simp_all)]; rfl) | (rw [mvPoly_yes (by simp_all) (by simp_all)])
  · skip
    replace c7 : (!(!(isVec (dx, dy)))) = false := c7
    try simp only [Bool.and_eq_true, Bool.or_eq_true, Bool.and_eq_false_iff, Bool.or_eq_false_iff, decide_eq_true_eq, decide_eq_false_iff_not, Bool.not_eq_true', Bool.not_eq_false', bne_iff_ne, ne_eq, beq_iff_eq, Bool.not_eq_true, Bool.not_eq_false, Int.not_lt, Int.not_le, gt_iff_lt, ge_iff_le, beq_eq_false_iff_ne, bne_eq_false_iff_eq] at c7
    show ([] : List (List Dat)) = vecsD (mvPoly l dx dy)
    first | (rw [mvPoly_no (by simp_all)]; rfl) | (rw [mvPoly_yes (by simp_all) (by simp_all)])
def sMovePolygon_con : Con := { ι := (List V2) × Int × Int, pre := fun i => i.1.length ≤ 1048576 ∧ i.1.all isVec = true, args := fun i => [.one (.sl 31 [.int, .int] (vecsD i.1)), .agg [.im (.int .i64 i.2.1), .im (.int .i64 i.2.2)]], res := fun i => ⟨false, [none], [.own 31 [.int, .int] (vecsD (mvPoly i.1 i.2.1 i.2.2))]⟩ }
set_option maxRecDepth 100000 in
theorem sMovePolygon_ok : sMovePolygon_con.Ok Try.prog 85 := by
  refine fn_ok (X := ⟨tt, [(90, sIsVec_con)], [], 52⟩) mixed tt_ok (CTok.cons sIsVec_ok (CTok.nil _)) Try.func85 (by decide) rfl rfl rfl (fun _ => Nat.le_of_ble_eq_true rfl) (fun _ => Nat.le_of_ble_eq_true rfl) (fun i => [(5, .mk 4 (Nat) (fun x1 => { tm := [(3, .one (.one (.bp 1 0))), (12, .one (.one (.ext 2))), (13, .one (.one (.im (Value.int .i64 (((vecsD i.1).length : Nat) : Int))))), (14, .one (.one (.im (Value.int .i64 (x1 : Int))))), (5, .one (.one (.ext 3)))], en := [(1, .box [.im (Value.int .i64 i.2.1), .im (Value.int .i64 i.2.2)]), (2, .view 31 [.int, .int] (vecsD i.1) []), (3, .own 31 [.int, .int] (vecsD (movL (i.1.take x1) i.2.1 i.2.2)))] }) (fun x1 => x1 ≤ i.1.length ∧ (movL (i.1.take x1) i.2.1 i.2.2).all isVec = true) (fun x1 => i.1.length - x1) (fun _ => []))]) ?_
  rintro ⟨l, dx, dy⟩ hpre
  have hpre : l.length ≤ 1048576 ∧ l.all isVec = true := hpre
  refine by_nf (q := ∃ i1 : Int × Int, [DA.agg [DC.im (Value.int .i64 dx), DC.im (Value.int .i64 dy)]] = sIsVec_con.args i1 ∧ sIsVec_con.pre i1 ∧ (((!(isVec (i1.1, i1.2))) = true → ((([] : List (List Dat)) = vecsD (mvPoly l dx dy)))) ∧ ((!(isVec (i1.1, i1.2))) = false → ((∃ x1 : Nat, (x1 ≤ l.length ∧ (movL (l.take x1) dx dy).all isVec = true) ∧ ((Value.int .i64 (((vecsD l).length : Nat) : Int) = Value.int .i64 (((vecsD l).length : Nat) : Int)) ∧ (Value.int .i64 (0 : Int) = Value.int .i64 (x1 : Int)) ∧ (Value.int .i64 dx = Value.int .i64 dx) ∧ (Value.int .i64 dy = Value.int .i64 dy) ∧ ((vecsD l) = (vecsD l)) ∧ (([] : List (List Dat)) = (vecsD (movL (l.take x1) dx dy))))) ∧ ∀ x1 : Nat, (x1 ≤ l.length ∧ (movL (l.take x1) dx dy).all isVec = true) → (((decide ((x1 : Int) < (((vecsD l).length : Nat) : Int))) = true → ((0 ≤ (x1 : Int) ∧ (x1 : Int) < ((vecsD l).length : Int)) ∧ ((x1 < (vecsD l).length) ∧ (∃ i2 : Int × Int, [DA.agg [DC.im (Value.int .i64 ((((vecsD l).getD x1 []).getD 0 (.int 0))).n), DC.im (Value.int .i64 ((((vecsD l).getD x1 []).getD 1 (.int 0))).n)]] = sIsVec_con.args i2 ∧ sIsVec_con.pre i2 ∧ (((!(!(isVec (i2.1, i2.2)))) = true → (∃ i3 : Int × Int, [DA.agg [DC.im (Value.int .i64 (IntKind.i64.wrap (((((vecsD l).getD x1 []).getD 0 (.int 0))).n + dx))), DC.im (Value.int .i64 (IntKind.i64.wrap (((((vecsD l).getD x1 []).getD 1 (.int 0))).n + dy)))]] = sIsVec_con.args i3 ∧ sIsVec_con.pre i3 ∧ (((!(isVec (i3.1, i3.2))) = true → ((([] : List (List Dat)) = vecsD (mvPoly l dx dy)))) ∧ ((!(isVec (i3.1, i3.2))) = false → (((vecsD (movL (l.take x1) dx dy)).length + ([[Dat.int (IntKind.i64.wrap (((((vecsD l).getD x1 []).getD 0 (.int 0))).n + dx)), Dat.int (IntKind.i64.wrap (((((vecsD l).getD x1 []).getD 1 (.int 0))).n + dy))]] : List (List Dat)).length ≤ 1073741824) ∧ (∃ y2 : Nat, (y2 ≤ l.length ∧ (movL (l.take y2) dx dy).all isVec = true) ∧ (l.length - y2 < l.length - x1) ∧ ((Value.int .i64 (((vecsD l).length : Nat) : Int) = Value.int .i64 (((vecsD l).length : Nat) : Int)) ∧ (Value.int .i64 (IntKind.i64.wrap ((x1 : Int) + (1 : Int))) = Value.int .i64 (y2 : Int)) ∧ (Value.int .i64 dx = Value.int .i64 dx) ∧ (Value.int .i64 dy = Value.int .i64 dy) ∧ ((vecsD l) = (vecsD l)) ∧ (((vecsD (movL (l.take x1) dx dy)) ++ ([[Dat.int (IntKind.i64.wrap (((((vecsD l).getD x1 []).getD 0 (.int 0))).n + dx)), Dat.int (IntKind.i64.wrap (((((vecsD l).getD x1 []).getD 1 (.int 0))).n + dy))]] : List (List Dat))) = (vecsD (movL (l.take y2) dx dy)))))))))) ∧ ((!(!(isVec (i2.1, i2.2)))) = false → ((([] : List (List Dat)) = vecsD (mvPoly l dx dy))))))))) ∧ ((decide ((x1 : Int) < (((vecsD l).length : Nat) : Int))) = false → (((vecsD (movL (l.take x1) dx dy)) = vecsD (mvPoly l dx dy))))))))) (by kernel_rfl) ?_
  have hvl := vecsD_length l
  refine ⟨(dx, dy), by
    rfl, by
    first | trivial | (first | omega | assumption | exact hpre.1 | exact hpre.2 | (simp; done)), ?_⟩
  refine ⟨fun c4 => ?_, fun c4 => ?_⟩
  · skip
    replace c4 : (!(isVec (dx, dy))) = true := c4
    try simp only [Bool.and_eq_true, Bool.or_eq_true, Bool.and_eq_false_iff, Bool.or_eq_false_iff, decide_eq_true_eq, decide_eq_false_iff_not, Bool.not_eq_true', Bool.not_eq_false', bne_iff_ne, ne_eq, beq_iff_eq, Bool.not_eq_true, Bool.not_eq_false, Int.not_lt, Int.not_le, gt_iff_lt, ge_iff_le, beq_eq_false_iff_ne, bne_eq_false_iff_eq] at c4
    show ([] : List (List Dat)) = vecsD (mvPoly l dx dy)
    first | (rw [mvPoly_no (.inl c4)]; rfl) | (rw [mvPoly_no (.inr (movL_bad (k := k) (by omega) c24))]; rfl) | rw [hkl, List.take_length, mvPoly_yes c4 hki6.2]
  · skip
    replace c4 : (!(isVec (dx, dy))) = false := c4
    try simp only [Bool.and_eq_true, Bool.or_eq_true, Bool.and_eq_false_iff, Bool.or_eq_false_iff, decide_eq_true_eq, decide_eq_false_iff_not, Bool.not_eq_true', Bool.not_eq_false', bne_iff_ne, ne_eq, beq_iff_eq, Bool.not_eq_true, Bool.not_eq_false, Int.not_lt, Int.not_le, gt_iff_lt, ge_iff_le, beq_eq_false_iff_ne, bne_eq_false_iff_eq] at c4
    refine ⟨⟨0, by
      first | exact ⟨Nat.zero_le _, rfl⟩ | exact ⟨by omega, by rw [movL_take (by omega), List.all_append, hki6.2]; simp only [Bool.true_and, List.all_cons, List.all_nil, Bool.and_true]; exact c24⟩ | omega, ?_⟩, ?_⟩
    · skip
      refine ⟨?_, ?_⟩
      · skip
        show Value.int .i64 (((vecsD l).length : Nat) : Int) = Value.int .i64 (((vecsD l).length : Nat) : Int)
        first | rfl | (rw [vecsD_length])
      refine ⟨?_, ?_⟩
      · skip
        show Value.int .i64 (0 : Int) = Value.int .i64 (0 : Int)
        first | rfl | (rw [vecsD_length])
      refine ⟨?_, ?_⟩
      · skip
        show Value.int .i64 dx = Value.int .i64 dx
        first | rfl | (rw [vecsD_length])
      refine ⟨?_, ?_⟩
      · skip
        show Value.int .i64 dy = Value.int .i64 dy
        first | rfl | (rw [vecsD_length])
      refine ⟨?_, ?_⟩
      · skip
        show (vecsD l) = (vecsD l)
        first | rfl | (rw [vecsD_length])
      show ([] : List (List Dat)) = (vecsD (movL (l.take 0) dx dy))
      first | rfl | (rw [vecsD_length])
    intro (k : Nat) hki6
    have hki6 : k ≤ l.length ∧ (movL (l.take k) dx dy).all isVec = true := hki6
    have hml : (vecsD (movL (l.take k) dx dy)).length = k := by rw [vecsD_length, movL_len, List.length_take]; omega
    refine ⟨fun c14 => ?_, fun c14 => ?_⟩
    · skip
      replace c14 : (decide ((k : Int) < (((vecsD l).length : Nat) : Int))) = true := c14
      try simp only [Bool.and_eq_true, Bool.or_eq_true, Bool.and_eq_false_iff, Bool.or_eq_false_iff, decide_eq_true_eq, decide_eq_false_iff_not, Bool.not_eq_true', Bool.not_eq_false', bne_iff_ne, ne_eq, beq_iff_eq, Bool.not_eq_true, Bool.not_eq_false, Int.not_lt, Int.not_le, gt_iff_lt, ge_iff_le, beq_eq_false_iff_ne, bne_eq_false_iff_eq] at c14
      have o15 : 0 ≤ (k : Int) ∧ (k : Int) < ((vecsD l).length : Int) := by
        first | rfl | omega | (rw [vecsD_length]; omega) | (rw [vecsD_length]; exact_mod_cast (by omega)) | (simp [vecsD_length, movL_len]; omega)
      refine ⟨o15, ?_⟩
      have o16 : k < (vecsD l).length := by
        first | rfl | omega | (rw [vecsD_length]; omega) | (rw [vecsD_length]; exact_mod_cast (by omega)) | (simp [vecsD_length, movL_len]; omega)
      refine ⟨o16, ?_⟩
      refine ⟨(((((vecsD l).getD k []).getD 0 (.int 0))).n, ((((vecsD l).getD k []).getD 1 (.int 0))).n), by
        rfl, by
        first | trivial | (first | omega | assumption | exact hpre.1 | exact hpre.2 | (simp; done)), ?_⟩
      refine ⟨fun c20 => ?_, fun c20 => ?_⟩
      · skip
        replace c20 : (!(!(isVec ((((((vecsD l).getD k []).getD 0 (.int 0))).n), (((((vecsD l).getD k []).getD 1 (.int 0))).n))))) = true := c20
        try simp only [Bool.and_eq_true, Bool.or_eq_true, Bool.and_eq_false_iff, Bool.or_eq_false_iff, decide_eq_true_eq, decide_eq_false_iff_not, Bool.not_eq_true', Bool.not_eq_false', bne_iff_ne, ne_eq, beq_iff_eq, Bool.not_eq_true, Bool.not_eq_false, Int.not_lt, Int.not_le, gt_iff_lt, ge_iff_le, beq_eq_false_iff_ne, bne_eq_false_iff_eq] at c20
        refine ⟨((IntKind.i64.wrap (((((vecsD l).getD k []).getD 0 (.int 0))).n + dx)), (IntKind.i64.wrap (((((vecsD l).getD k []).getD 1 (.int 0))).n + dy))), by
          rfl, by
          first | trivial | (first | omega | assumption | exact hpre.1 | exact hpre.2 | (simp; done)), ?_⟩
        refine ⟨fun c24 => ?_, fun c24 => ?_⟩
        · skip
          replace c24 : (!(isVec ((IntKind.i64.wrap (((((vecsD l).getD k []).getD 0 (.int 0))).n + dx)), (IntKind.i64.wrap (((((vecsD l).getD k []).getD 1 (.int 0))).n + dy))))) = true := c24
          try simp only [Bool.and_eq_true, Bool.or_eq_true, Bool.and_eq_false_iff, Bool.or_eq_false_iff, decide_eq_true_eq, decide_eq_false_iff_not, Bool.not_eq_true', Bool.not_eq_false', bne_iff_ne, ne_eq, beq_iff_eq, Bool.not_eq_true, Bool.not_eq_false, Int.not_lt, Int.not_le, gt_iff_lt, ge_iff_le, beq_eq_false_iff_ne, bne_eq_false_iff_eq] at c24
          rw [vecs_x (by omega), vecs_y (by omega)] at c24
          show ([] : List (List Dat)) = vecsD (mvPoly l dx dy)
          first | (rw [mvPoly_no (.inl c4)]; rfl) | (rw [mvPoly_no (.inr (movL_bad (k := k) (by omega) c24))]; rfl) | rw [hkl, List.take_length, mvPoly_yes c4 hki6.2]
        · skip
          replace c24 : (!(isVec ((IntKind.i64.wrap (((((vecsD l).getD k []).getD 0 (.int 0))).n + dx)), (IntKind.i64.wrap (((((vecsD l).getD k []).getD 1 (.int 0))).n + dy))))) = false := c24
          try simp only [Bool.and_eq_true, Bool.or_eq_true, Bool.and_eq_false_iff, Bool.or_eq_false_iff, decide_eq_true_eq, decide_eq_false_iff_not, Bool.not_eq_true', Bool.not_eq_false', bne_iff_ne, ne_eq, beq_iff_eq, Bool.not_eq_true, Bool.not_eq_false, Int.not_lt, Int.not_le, gt_iff_lt, ge_iff_le, beq_eq_false_iff_ne, bne_eq_false_iff_eq] at c24
          rw [vecs_x (by omega), vecs_y (by omega)] at c24
          have o26 : (vecsD (movL (l.take k) dx dy)).length + ([[Dat.int (IntKind.i64.wrap (((((vecsD l).getD k []).getD 0 (.int 0))).n + dx)), Dat.int (IntKind.i64.wrap (((((vecsD l).getD k []).getD 1 (.int 0))).n + dy))]] : List (List Dat)).length ≤ 1073741824 := by
            first | rfl | omega | (rw [vecsD_length]; omega) | (rw [vecsD_length]; exact_mod_cast (by omega)) | (simp [vecsD_length, movL_len]; omega)
          refine ⟨o26, ?_⟩
          refine ⟨k + 1, by
            first | exact ⟨Nat.zero_le _, rfl⟩ | exact ⟨by omega, by rw [movL_take (by omega), List.all_append, hki6.2]; simp only [Bool.true_and, List.all_cons, List.all_nil, Bool.and_true]; exact c24⟩ | omega, by
            first | omega | (simp; omega), ?_⟩
          refine ⟨?_, ?_⟩
          · skip
            show Value.int .i64 (((vecsD l).length : Nat) : Int) = Value.int .i64 (((vecsD l).length : Nat) : Int)
            first | rfl | exact vint (wrap64 (by omega) (by omega)) | exact movL_succ (by omega)
          refine ⟨?_, ?_⟩
          · skip
            show Value.int .i64 (IntKind.i64.wrap ((k : Int) + (1 : Int))) = Value.int .i64 ((k + 1) : Int)
            first | rfl | exact vint (wrap64 (by omega) (by omega)) | exact movL_succ (by omega)
          refine ⟨?_, ?_⟩
          · skip
            show Value.int .i64 dx = Value.int .i64 dx
            first | rfl | exact vint (wrap64 (by omega) (by omega)) | exact movL_succ (by omega)
          refine ⟨?_, ?_⟩
          · skip
            show Value.int .i64 dy = Value.int .i64 dy
            first | rfl | exact vint (wrap64 (by omega) (by omega)) | exact movL_succ (by omega)
          refine ⟨?_, ?_⟩
          · skip
            show (vecsD l) = (vecsD l)
            first | rfl | exact vint (wrap64 (by omega) (by omega)) | exact movL_succ (by omega)
          show ((vecsD (movL (l.take k) dx dy)) ++ ([[Dat.int (IntKind.i64.wrap (((((vecsD l).getD k []).getD 0 (.int 0))).n + dx)), Dat.int (IntKind.i64.wrap (((((vecsD l).getD k []).getD 1 (.int 0))).n + dy))]] : List (List Dat))) = (vecsD (movL (l.take (k + 1)) dx dy))
          first | rfl | exact vint (wrap64 (by omega) (by omega)) | exact movL_succ (by omega)
      · skip
        replace c20 : (!(!(isVec ((((((vecsD l).getD k []).getD 0 (.int 0))).n), (((((vecsD l).getD k []).getD 1 (.int 0))).n))))) = false := c20
        try simp only [Bool.and_eq_true, Bool.or_eq_true, Bool.and_eq_false_iff, Bool.or_eq_false_iff, decide_eq_true_eq, decide_eq_false_iff_not, Bool.not_eq_true', Bool.not_eq_false', bne_iff_ne, ne_eq, beq_iff_eq, Bool.not_eq_true, Bool.not_eq_false, Int.not_lt, Int.not_le, gt_iff_lt, ge_iff_le, beq_eq_false_iff_ne, bne_eq_false_iff_eq] at c20
        rw [vecs_x (by omega), vecs_y (by omega)] at c20
        have q := allVec_getD hpre.2 (show k < l.length by omega)
        have q : isVec ((l.getD k (0, 0)).1, (l.getD k (0, 0)).2) = true := q
        rw [q] at c20
        exact absurd c20 (by simp) -- done
    · skip
      replace c14 : (decide ((k : Int) < (((vecsD l).length : Nat) : Int))) = false := c14
      try simp only [Bool.and_eq_true, Bool.or_eq_true, Bool.and_eq_false_iff, Bool.or_eq_false_iff, decide_eq_true_eq, decide_eq_false_iff_not, Bool.not_eq_true', Bool.not_eq_false', bne_iff_ne, ne_eq, beq_iff_eq, Bool.not_eq_true, Bool.not_eq_false, Int.not_lt, Int.not_le, gt_iff_lt, ge_iff_le, beq_eq_false_iff_ne, bne_eq_false_iff_eq] at c14
      have hkl : k = l.length := by omega
      rw [hkl, List.take_length] at hki6
      show (vecsD (movL (l.take k) dx dy)) = vecsD (mvPoly l dx dy)
      first | (rw [mvPoly_no (.inl c4)]; rfl) | (rw [mvPoly_no (.inr (movL_bad (k := k) (by omega) c24))]; rfl) | rw [hkl, List.take_length, mvPoly_yes c4 hki6.2]
end Go.Proofs.Ytemgpfojmdncjaa
