/-
  ReverseMotion.
-/
import Derived.Test.YtemgpfojmdncjaaRkLa
import Derived.Test.YtemgpfojmdncjaaRkL4
namespace Go.Proofs.Ytemgpfojmdncjaa
set_option linter.unusedVariables false
set_option linter.unusedSimpArgs false
open Go.RowKit
def l22Turn_con : Con := { ι := Int, pre := fun i => True, args := fun i => [.one (.im (.int .i64 i))], res := fun i => ⟨false, [none], [.im (Value.bool (decide (i ≥ -1) && decide (i ≤ 1)))]⟩ }
set_option maxRecDepth 100000 in
theorem l22Turn_ok : l22Turn_con.Ok Try.prog 87 := by
  refine fn_ok (X := ⟨tt, [(52, l01In_con)], [], 5⟩) mixed tt_ok (CTok.cons l01In_ok (CTok.nil _)) Try.func87 (by decide) rfl rfl rfl (fun _ => Nat.le_of_ble_eq_true rfl) (fun _ => Nat.le_of_ble_eq_true rfl) (fun _ => []) ?_
  intro (n : Int) hpre
  have hpre : True := hpre
  refine by_nf (q := ∃ i1 : Int × Int × Int, [DA.one (DC.im (Value.int .i64 n)), DA.one (DC.im (Value.int .i64 (-1 : Int))), DA.one (DC.im (Value.int .i64 (1 : Int)))] = l01In_con.args i1 ∧ l01In_con.pre i1 ∧ ((Value.bool (decide (i1.1 ≥ i1.2.1) && decide (i1.1 ≤ i1.2.2)) = Value.bool (decide (n ≥ -1) && decide (n ≤ 1))))) (by kernel_rfl) ?_
  -- w1: l01In [DA.one (DC.im (Value.int .i64 n)), DA.one (DC.im (Value.int .i64 (-1 : Int))), DA.one (DC.im (Value.int .i64 (1 : Int)))]
  refine ⟨(n, (-1 : Int), (1 : Int)), by
    rfl, by
    first | trivial | (first | omega | assumption | exact hpre.1 | exact hpre.2 | (simp; done)), ?_⟩
  -- l4: Value.bool (decide (n ≥ (-1 : Int)) && decide (n ≤ (1 : Int))) = Value.bool (decide (n ≥ -1) && decide (n ≤ 1))
  show Value.bool (decide (n ≥ (-1 : Int)) && decide (n ≤ (1 : Int))) = Value.bool (decide (n ≥ -1) && decide (n ≤ 1))
  rfl
def ownSteps_con : Con := { ι := (List (List Dat)), pre := fun i => stepsOk i, args := fun i => [.one (.sl 104 [.int, .bool, .sl 3 [.int], .sl 3 [.int], .bool, .sl 3 [.int], .sl 3 [.int]] i)], res := fun i => ⟨false, [none], [.own 104 [.int, .bool, .sl 3 [.int], .sl 3 [.int], .bool, .sl 3 [.int], .sl 3 [.int]] (copyL i)]⟩ }
set_option maxRecDepth 100000 in
theorem ownSteps_ok : ownSteps_con.Ok Try.prog 88 := by
  refine fn_ok (X := ⟨tt, [(115, ownPoint_con)], [], 24⟩) mixed tt_ok (CTok.cons ownPoint_ok (CTok.nil _)) Try.func88 (by decide) rfl rfl rfl (fun _ => Nat.le_of_ble_eq_true rfl) (fun _ => Nat.le_of_ble_eq_true rfl) (fun i => [(3, .mk 3 (Nat) (fun x1 => { tm := [(7, .one (.one (.ext 1))), (8, .one (.one (.im (Value.int .i64 ((i.length : Nat) : Int))))), (9, .one (.one (.im (Value.int .i64 (x1 : Int))))), (3, .one (.one (.ext 2)))], en := [(1, .view 104 [.int, .bool, .sl 3 [.int], .sl 3 [.int], .bool, .sl 3 [.int], .sl 3 [.int]] i []), (2, .own 104 [.int, .bool, .sl 3 [.int], .sl 3 [.int], .bool, .sl 3 [.int], .sl 3 [.int]] (copyL (i.take x1)))] }) (fun x1 => x1 ≤ i.length) (fun x1 => i.length - x1) (fun _ => []))]) ?_
  intro (l : List (List Dat)) hpre
  have hpre : stepsOk l := hpre
  refine by_nf (q := (∃ x1 : Nat, (x1 ≤ l.length) ∧ ((Value.int .i64 ((l.length : Nat) : Int) = Value.int .i64 ((l.length : Nat) : Int)) ∧ (Value.int .i64 (0 : Int) = Value.int .i64 (x1 : Int)) ∧ (l = l) ∧ (([] : List (List Dat)) = (copyL (l.take x1))))) ∧ ∀ x1 : Nat, (x1 ≤ l.length) → (((decide ((x1 : Int) < ((l.length : Nat) : Int))) = true → ((0 ≤ (x1 : Int) ∧ (x1 : Int) < (l.length : Int)) ∧ ((x1 < l.length) ∧ (∃ i1 : PtD, [DA.agg [DC.im (Value.bool ((((l.getD x1 []).getD 1 (.int 0))).b)), DC.sl 3 [.int] ((((l.getD x1 []).getD 2 (.int 0))).r), DC.sl 3 [.int] ((((l.getD x1 []).getD 3 (.int 0))).r), DC.im (Value.bool ((((l.getD x1 []).getD 4 (.int 0))).b)), DC.sl 3 [.int] ((((l.getD x1 []).getD 5 (.int 0))).r), DC.sl 3 [.int] ((((l.getD x1 []).getD 6 (.int 0))).r)]] = ownPoint_con.args i1 ∧ ownPoint_con.pre i1 ∧ (((copyL (l.take x1)).length + ([[Dat.int ((((l.getD x1 []).getD 0 (.int 0))).n), Dat.bool i1.x.neg, Dat.sl i1.x.num, Dat.sl i1.x.den, Dat.bool i1.y.neg, Dat.sl i1.y.num, Dat.sl i1.y.den]] : List (List Dat)).length ≤ 1073741824) ∧ (∃ y2 : Nat, (y2 ≤ l.length) ∧ (l.length - y2 < l.length - x1) ∧ ((Value.int .i64 ((l.length : Nat) : Int) = Value.int .i64 ((l.length : Nat) : Int)) ∧ (Value.int .i64 (IntKind.i64.wrap ((x1 : Int) + (1 : Int))) = Value.int .i64 (y2 : Int)) ∧ (l = l) ∧ (((copyL (l.take x1)) ++ ([[Dat.int ((((l.getD x1 []).getD 0 (.int 0))).n), Dat.bool i1.x.neg, Dat.sl i1.x.num, Dat.sl i1.x.den, Dat.bool i1.y.neg, Dat.sl i1.y.num, Dat.sl i1.y.den]] : List (List Dat))) = (copyL (l.take y2)))))))))) ∧ ((decide ((x1 : Int) < ((l.length : Nat) : Int))) = false → (((copyL (l.take x1)) = copyL l))))) (by kernel_rfl) ?_
  have hL := hpre.1
  -- i1
  refine ⟨⟨0, by
    first | trivial | omega | (simp; omega), ?_⟩, ?_⟩
  · -- the beginning
    refine ⟨?_, ?_⟩
    · -- b3: Value.int .i64 ((l.length : Nat) : Int) = Value.int .i64 ((l.length : Nat) : Int)
      show Value.int .i64 ((l.length : Nat) : Int) = Value.int .i64 ((l.length : Nat) : Int)
      first | rfl | (simp; done)
    refine ⟨?_, ?_⟩
    · -- b4: Value.int .i64 (0 : Int) = Value.int .i64 (0 : Int)
      show Value.int .i64 (0 : Int) = Value.int .i64 (0 : Int)
      first | rfl | (simp; done)
    refine ⟨?_, ?_⟩
    · -- b5: l = l
      show l = l
      first | rfl | (simp; done)
    -- b6: ([] : List (List Dat)) = (copyL (l.take 0))
    show ([] : List (List Dat)) = (copyL (l.take 0))
    first | rfl | (simp; done)
  intro (k : Nat) hki1
  have hki1 : k ≤ l.length := hki1
  have hlen : (copyL (l.take k)).length = k := by simp [copyL]; omega
  refine ⟨fun c7 => ?_, fun c7 => ?_⟩
  · -- c7t: (decide ((k : Int) < ((l.length : Nat) : Int))) = true
    replace c7 : (decide ((k : Int) < ((l.length : Nat) : Int))) = true := c7
    try simp only [Bool.and_eq_true, Bool.or_eq_true, Bool.and_eq_false_iff, Bool.or_eq_false_iff, decide_eq_true_eq, decide_eq_false_iff_not, Bool.not_eq_true', Bool.not_eq_false', bne_iff_ne, ne_eq, beq_iff_eq, Bool.not_eq_true, Bool.not_eq_false, Int.not_lt, Int.not_le, gt_iff_lt, ge_iff_le, beq_eq_false_iff_ne, bne_eq_false_iff_eq] at c7
    have o8 : 0 ≤ (k : Int) ∧ (k : Int) < (l.length : Int) := by
      first | rfl | omega | (simp; done) | (simp; omega)
    refine ⟨o8, ?_⟩
    have o9 : k < l.length := by
      first | rfl | omega | (simp; done) | (simp; omega)
    refine ⟨o9, ?_⟩
    -- w10: ownPoint [DA.agg [DC.im (Value.bool ((((l.getD k []).getD 1 (.int 0))).b)), DC.sl 3 [.int] ((((l.getD k []).getD 2 (.int 0))).r), DC.sl 3 [.int] ((((l.getD k []).getD 3 (.int 0))).r), DC.im (Value.bool ((((l.getD k []).getD 4 (.int 0))).b)), DC.sl 3 [.int] ((((l.getD k []).getD 5 (.int 0))).r), DC.sl 3 [.int
    refine ⟨(plOf (l.getD k [])).pt, by
      rfl, by
      show ((plOf (l.getD k [])).pt).ok
      exact hpre.2 k (by omega), ?_⟩
    have o13 : (copyL (l.take k)).length + ([[Dat.int ((((l.getD k []).getD 0 (.int 0))).n), Dat.bool ((plOf (l.getD k [])).pt).x.neg, Dat.sl ((plOf (l.getD k [])).pt).x.num, Dat.sl ((plOf (l.getD k [])).pt).x.den, Dat.bool ((plOf (l.getD k [])).pt).y.neg, Dat.sl ((plOf (l.getD k [])).pt).y.num, Dat.sl ((plOf (l.getD k [])).pt).y.den]] : List (List Dat)).length ≤ 1073741824 := by
      first | rfl | omega | (simp; done) | (simp; omega)
    refine ⟨o13, ?_⟩
    -- n14
    refine ⟨k + 1, by
      first | trivial | omega | (simp; omega), by
      first | omega | (simp; omega), ?_⟩
    refine ⟨?_, ?_⟩
    · -- e17: Value.int .i64 ((l.length : Nat) : Int) = Value.int .i64 ((l.length : Nat) : Int)
      show Value.int .i64 ((l.length : Nat) : Int) = Value.int .i64 ((l.length : Nat) : Int)
      first | rfl | exact vint (wrap64 (by omega) (by omega)) | exact copyL_succ (by omega)
    refine ⟨?_, ?_⟩
    · -- e18: Value.int .i64 (IntKind.i64.wrap ((k : Int) + (1 : Int))) = Value.int .i64 ((k + 1) : Int)
      show Value.int .i64 (IntKind.i64.wrap ((k : Int) + (1 : Int))) = Value.int .i64 ((k + 1) : Int)
      first | rfl | exact vint (wrap64 (by omega) (by omega)) | exact copyL_succ (by omega)
    refine ⟨?_, ?_⟩
    · -- e19: l = l
      show l = l
      first | rfl | exact vint (wrap64 (by omega) (by omega)) | exact copyL_succ (by omega)
    -- e20: ((copyL (l.take k)) ++ ([[Dat.int ((((l.getD k []).getD 0 (.int 0))).n), Dat.bool ((plOf (l.getD k [])).pt).x.neg, Dat.sl ((plOf (l.getD k [])).pt).x.num, Dat.sl ((plOf (l.getD k [])).pt).x.den, Dat.bool ((plOf (l.getD k [])).pt).y.neg, Dat.sl ((plOf (l.getD k [])).pt).y.num, Dat.sl ((plOf (l.getD k [])).pt).y.den]] : List (List Dat))) = (copyL (l.take (k + 1)))
    show ((copyL (l.take k)) ++ ([[Dat.int ((((l.getD k []).getD 0 (.int 0))).n), Dat.bool ((plOf (l.getD k [])).pt).x.neg, Dat.sl ((plOf (l.getD k [])).pt).x.num, Dat.sl ((plOf (l.getD k [])).pt).x.den, Dat.bool ((plOf (l.getD k [])).pt).y.neg, Dat.sl ((plOf (l.getD k [])).pt).y.num, Dat.sl ((plOf (l.getD k [])).pt).y.den]] : List (List Dat))) = (copyL (l.take (k + 1)))
    first | rfl | exact vint (wrap64 (by omega) (by omega)) | exact copyL_succ (by omega)
  · -- c7f: (decide ((k : Int) < ((l.length : Nat) : Int))) = false
    replace c7 : (decide ((k : Int) < ((l.length : Nat) : Int))) = false := c7
    try simp only [Bool.and_eq_true, Bool.or_eq_true, Bool.and_eq_false_iff, Bool.or_eq_false_iff, decide_eq_true_eq, decide_eq_false_iff_not, Bool.not_eq_true', Bool.not_eq_false', bne_iff_ne, ne_eq, beq_iff_eq, Bool.not_eq_true, Bool.not_eq_false, Int.not_lt, Int.not_le, gt_iff_lt, ge_iff_le, beq_eq_false_iff_ne, bne_eq_false_iff_eq] at c7
    -- l21: (copyL (l.take k)) = copyL l
    show (copyL (l.take k)) = copyL l
    rw [show k = l.length by omega, List.take_length]
def iReverseMotion_con : Con := { ι := PlD × (List (List Dat)), pre := fun i => i.1.ok ∧ stepsOk i.2, args := fun i => [.agg [.im (.int .i64 i.1.h), .im (.bool i.1.pt.x.neg), .sl 3 [.int] i.1.pt.x.num, .sl 3 [.int] i.1.pt.x.den, .im (.bool i.1.pt.y.neg), .sl 3 [.int] i.1.pt.y.num, .sl 3 [.int] i.1.pt.y.den], .one (.sl 104 [.int, .bool, .sl 3 [.int], .sl 3 [.int], .bool, .sl 3 [.int], .sl 3 [.int]] i.2)], res := fun i => ⟨false, [none], [.own 104 [.int, .bool, .sl 3 [.int], .sl 3 [.int], .bool, .sl 3 [.int], .sl 3 [.int]] (revL i.1 i.2 i.2.length)]⟩ }
set_option maxRecDepth 100000 in
theorem iReverseMotion_ok : iReverseMotion_con.Ok Try.prog 39 := by
  refine fn_ok (X := ⟨tt, [(69, after_con), (88, ownSteps_con)], [], 47⟩) mixed tt_ok (CTok.cons after_ok (CTok.cons ownSteps_ok (CTok.nil _))) Try.func39 (by decide) rfl rfl rfl (fun _ => Nat.le_of_ble_eq_true rfl) (fun _ => Nat.le_of_ble_eq_true rfl) (fun i => [(3, .mk 8 (Nat) (fun x1 => { tm := [(1, .one (.one (.ext 1))), (2, .one (.one (.bp 2 0))), (6, .one (.one (.im (Value.int .i64 ((i.2.length : Int) - 1 - (x1 : Int)))))), (5, .one (.one (.ext 7)))], en := [(2, .box [.im (Value.int .i64 i.1.h), .im (Value.bool i.1.pt.x.neg), .ext 3, .ext 4, .im (Value.bool i.1.pt.y.neg), .ext 5, .ext 6]), (1, .view 104 [.int, .bool, .sl 3 [.int], .sl 3 [.int], .bool, .sl 3 [.int], .sl 3 [.int]] i.2 []), (3, .view 3 [.int] i.1.pt.x.num []), (4, .view 3 [.int] i.1.pt.x.den []), (5, .view 3 [.int] i.1.pt.y.num []), (6, .view 3 [.int] i.1.pt.y.den []), (7, .top 104 [.int, .bool, .sl 3 [.int], .sl 3 [.int], .bool, .sl 3 [.int], .sl 3 [.int]] (revL i.1 i.2 x1) [])] }) (fun x1 => x1 ≤ i.2.length) (fun x1 => i.2.length - x1) (fun _ => []))]) ?_
  rintro ⟨p, l⟩ hpre
  have hpre : p.ok ∧ stepsOk l := hpre
  refine by_nf (q := (∃ x1 : Nat, (x1 ≤ l.length) ∧ ((Value.int .i64 (IntKind.i64.wrap (((l.length : Nat) : Int) - (1 : Int))) = Value.int .i64 ((l.length : Int) - 1 - (x1 : Int))) ∧ (Value.int .i64 p.h = Value.int .i64 p.h) ∧ (Value.bool p.pt.x.neg = Value.bool p.pt.x.neg) ∧ (Value.bool p.pt.y.neg = Value.bool p.pt.y.neg) ∧ (l = l) ∧ (p.pt.x.num = p.pt.x.num) ∧ (p.pt.x.den = p.pt.x.den) ∧ (p.pt.y.num = p.pt.y.num) ∧ (p.pt.y.den = p.pt.y.den) ∧ (([] : List (List Dat)) = (revL p l x1)))) ∧ ∀ x1 : Nat, (x1 ≤ l.length) → (((decide (((l.length : Int) - 1 - (x1 : Int)) ≥ (0 : Int))) = true → ((0 ≤ ((l.length : Int) - 1 - (x1 : Int)) ∧ ((l.length : Int) - 1 - (x1 : Int)) < (l.length : Int)) ∧ ((((l.length : Int) - 1 - (x1 : Int)).toNat < l.length) ∧ ((((((l.getD (((l.length : Int) - 1 - (x1 : Int)).toNat) []).getD 0 (.int 0))).n == (0 : Int)) = true → (∃ i1 : PlD × (List (List Dat)) × Int, [DA.agg [DC.im (Value.int .i64 p.h), DC.im (Value.bool p.pt.x.neg), DC.sl 3 [.int] p.pt.x.num, DC.sl 3 [.int] p.pt.x.den, DC.im (Value.bool p.pt.y.neg), DC.sl 3 [.int] p.pt.y.num, DC.sl 3 [.int] p.pt.y.den], DA.one (DC.sl 104 [.int, .bool, .sl 3 [.int], .sl 3 [.int], .bool, .sl 3 [.int], .sl 3 [.int]] l), DA.one (DC.im (Value.int .i64 ((l.length : Int) - 1 - (x1 : Int))))] = after_con.args i1 ∧ after_con.pre i1 ∧ (((revL p l x1).length + ([[Dat.int (0 : Int), Dat.bool ((afterL i1.1 i1.2.1 i1.2.2.toNat).pt.x.neg), Dat.sl ((afterL i1.1 i1.2.1 i1.2.2.toNat).pt.x.num), Dat.sl ((afterL i1.1 i1.2.1 i1.2.2.toNat).pt.x.den), Dat.bool ((afterL i1.1 i1.2.1 i1.2.2.toNat).pt.y.neg), Dat.sl ((afterL i1.1 i1.2.1 i1.2.2.toNat).pt.y.num), Dat.sl ((afterL i1.1 i1.2.1 i1.2.2.toNat).pt.y.den)]] : List (List Dat)).length ≤ 1073741824) ∧ (∃ y2 : Nat, (y2 ≤ l.length) ∧ (l.length - y2 < l.length - x1) ∧ ((Value.int .i64 (IntKind.i64.wrap (((l.length : Int) - 1 - (x1 : Int)) - (1 : Int))) = Value.int .i64 ((l.length : Int) - 1 - (y2 : Int))) ∧ (Value.int .i64 p.h = Value.int .i64 p.h) ∧ (Value.bool p.pt.x.neg = Value.bool p.pt.x.neg) ∧ (Value.bool p.pt.y.neg = Value.bool p.pt.y.neg) ∧ (l = l) ∧ (p.pt.x.num = p.pt.x.num) ∧ (p.pt.x.den = p.pt.x.den) ∧ (p.pt.y.num = p.pt.y.num) ∧ (p.pt.y.den = p.pt.y.den) ∧ (((revL p l x1) ++ ([[Dat.int (0 : Int), Dat.bool ((afterL i1.1 i1.2.1 i1.2.2.toNat).pt.x.neg), Dat.sl ((afterL i1.1 i1.2.1 i1.2.2.toNat).pt.x.num), Dat.sl ((afterL i1.1 i1.2.1 i1.2.2.toNat).pt.x.den), Dat.bool ((afterL i1.1 i1.2.1 i1.2.2.toNat).pt.y.neg), Dat.sl ((afterL i1.1 i1.2.1 i1.2.2.toNat).pt.y.num), Dat.sl ((afterL i1.1 i1.2.1 i1.2.2.toNat).pt.y.den)]] : List (List Dat))) = (revL p l y2))))))) ∧ (((((l.getD (((l.length : Int) - 1 - (x1 : Int)).toNat) []).getD 0 (.int 0))).n == (0 : Int)) = false → ((((((l.getD (((l.length : Int) - 1 - (x1 : Int)).toNat) []).getD 0 (.int 0))).n == (1 : Int)) = true → (((revL p l x1).length + ([[Dat.int (IntKind.i64.wrap (0 - (((l.getD (((l.length : Int) - 1 - (x1 : Int)).toNat) []).getD 0 (.int 0))).n)), Dat.bool ((((l.getD (((l.length : Int) - 1 - (x1 : Int)).toNat) []).getD 1 (.int 0))).b), Dat.sl ((((l.getD (((l.length : Int) - 1 - (x1 : Int)).toNat) []).getD 2 (.int 0))).r), Dat.sl ((((l.getD (((l.length : Int) - 1 - (x1 : Int)).toNat) []).getD 3 (.int 0))).r), Dat.bool ((((l.getD (((l.length : Int) - 1 - (x1 : Int)).toNat) []).getD 4 (.int 0))).b), Dat.sl ((((l.getD (((l.length : Int) - 1 - (x1 : Int)).toNat) []).getD 5 (.int 0))).r), Dat.sl ((((l.getD (((l.length : Int) - 1 - (x1 : Int)).toNat) []).getD 6 (.int 0))).r)]] : List (List Dat)).length ≤ 1073741824) ∧ (∃ y3 : Nat, (y3 ≤ l.length) ∧ (l.length - y3 < l.length - x1) ∧ ((Value.int .i64 (IntKind.i64.wrap (((l.length : Int) - 1 - (x1 : Int)) - (1 : Int))) = Value.int .i64 ((l.length : Int) - 1 - (y3 : Int))) ∧ (Value.int .i64 p.h = Value.int .i64 p.h) ∧ (Value.bool p.pt.x.neg = Value.bool p.pt.x.neg) ∧ (Value.bool p.pt.y.neg = Value.bool p.pt.y.neg) ∧ (l = l) ∧ (p.pt.x.num = p.pt.x.num) ∧ (p.pt.x.den = p.pt.x.den) ∧ (p.pt.y.num = p.pt.y.num) ∧ (p.pt.y.den = p.pt.y.den) ∧ (((revL p l x1) ++ ([[Dat.int (IntKind.i64.wrap (0 - (((l.getD (((l.length : Int) - 1 - (x1 : Int)).toNat) []).getD 0 (.int 0))).n)), Dat.bool ((((l.getD (((l.length : Int) - 1 - (x1 : Int)).toNat) []).getD 1 (.int 0))).b), Dat.sl ((((l.getD (((l.length : Int) - 1 - (x1 : Int)).toNat) []).getD 2 (.int 0))).r), Dat.sl ((((l.getD (((l.length : Int) - 1 - (x1 : Int)).toNat) []).getD 3 (.int 0))).r), Dat.bool ((((l.getD (((l.length : Int) - 1 - (x1 : Int)).toNat) []).getD 4 (.int 0))).b), Dat.sl ((((l.getD (((l.length : Int) - 1 - (x1 : Int)).toNat) []).getD 5 (.int 0))).r), Dat.sl ((((l.getD (((l.length : Int) - 1 - (x1 : Int)).toNat) []).getD 6 (.int 0))).r)]] : List (List Dat))) = (revL p l y3)))))) ∧ (((((l.getD (((l.length : Int) - 1 - (x1 : Int)).toNat) []).getD 0 (.int 0))).n == (1 : Int)) = false → ((((((l.getD (((l.length : Int) - 1 - (x1 : Int)).toNat) []).getD 0 (.int 0))).n == (-1 : Int)) = true → (((revL p l x1).length + ([[Dat.int (IntKind.i64.wrap (0 - (((l.getD (((l.length : Int) - 1 - (x1 : Int)).toNat) []).getD 0 (.int 0))).n)), Dat.bool ((((l.getD (((l.length : Int) - 1 - (x1 : Int)).toNat) []).getD 1 (.int 0))).b), Dat.sl ((((l.getD (((l.length : Int) - 1 - (x1 : Int)).toNat) []).getD 2 (.int 0))).r), Dat.sl ((((l.getD (((l.length : Int) - 1 - (x1 : Int)).toNat) []).getD 3 (.int 0))).r), Dat.bool ((((l.getD (((l.length : Int) - 1 - (x1 : Int)).toNat) []).getD 4 (.int 0))).b), Dat.sl ((((l.getD (((l.length : Int) - 1 - (x1 : Int)).toNat) []).getD 5 (.int 0))).r), Dat.sl ((((l.getD (((l.length : Int) - 1 - (x1 : Int)).toNat) []).getD 6 (.int 0))).r)]] : List (List Dat)).length ≤ 1073741824) ∧ (∃ y4 : Nat, (y4 ≤ l.length) ∧ (l.length - y4 < l.length - x1) ∧ ((Value.int .i64 (IntKind.i64.wrap (((l.length : Int) - 1 - (x1 : Int)) - (1 : Int))) = Value.int .i64 ((l.length : Int) - 1 - (y4 : Int))) ∧ (Value.int .i64 p.h = Value.int .i64 p.h) ∧ (Value.bool p.pt.x.neg = Value.bool p.pt.x.neg) ∧ (Value.bool p.pt.y.neg = Value.bool p.pt.y.neg) ∧ (l = l) ∧ (p.pt.x.num = p.pt.x.num) ∧ (p.pt.x.den = p.pt.x.den) ∧ (p.pt.y.num = p.pt.y.num) ∧ (p.pt.y.den = p.pt.y.den) ∧ (((revL p l x1) ++ ([[Dat.int (IntKind.i64.wrap (0 - (((l.getD (((l.length : Int) - 1 - (x1 : Int)).toNat) []).getD 0 (.int 0))).n)), Dat.bool ((((l.getD (((l.length : Int) - 1 - (x1 : Int)).toNat) []).getD 1 (.int 0))).b), Dat.sl ((((l.getD (((l.length : Int) - 1 - (x1 : Int)).toNat) []).getD 2 (.int 0))).r), Dat.sl ((((l.getD (((l.length : Int) - 1 - (x1 : Int)).toNat) []).getD 3 (.int 0))).r), Dat.bool ((((l.getD (((l.length : Int) - 1 - (x1 : Int)).toNat) []).getD 4 (.int 0))).b), Dat.sl ((((l.getD (((l.length : Int) - 1 - (x1 : Int)).toNat) []).getD 5 (.int 0))).r), Dat.sl ((((l.getD (((l.length : Int) - 1 - (x1 : Int)).toNat) []).getD 6 (.int 0))).r)]] : List (List Dat))) = (revL p l y4)))))) ∧ (((((l.getD (((l.length : Int) - 1 - (x1 : Int)).toNat) []).getD 0 (.int 0))).n == (-1 : Int)) = false → (∃ y5 : Nat, (y5 ≤ l.length) ∧ (l.length - y5 < l.length - x1) ∧ ((Value.int .i64 (IntKind.i64.wrap (((l.length : Int) - 1 - (x1 : Int)) - (1 : Int))) = Value.int .i64 ((l.length : Int) - 1 - (y5 : Int))) ∧ (Value.int .i64 p.h = Value.int .i64 p.h) ∧ (Value.bool p.pt.x.neg = Value.bool p.pt.x.neg) ∧ (Value.bool p.pt.y.neg = Value.bool p.pt.y.neg) ∧ (l = l) ∧ (p.pt.x.num = p.pt.x.num) ∧ (p.pt.x.den = p.pt.x.den) ∧ (p.pt.y.num = p.pt.y.num) ∧ (p.pt.y.den = p.pt.y.den) ∧ ((revL p l x1) = (revL p l y5))))))))))))) ∧ ((decide (((l.length : Int) - 1 - (x1 : Int)) ≥ (0 : Int))) = false → (∃ i2 : (List (List Dat)), [DA.one (DC.sl 104 [.int, .bool, .sl 3 [.int], .sl 3 [.int], .bool, .sl 3 [.int], .sl 3 [.int]] (revL p l x1))] = ownSteps_con.args i2 ∧ ownSteps_con.pre i2 ∧ ((copyL i2 = revL p l l.length)))))) (by kernel_rfl) ?_
  have hL := hpre.2.1
  -- i1
  refine ⟨⟨0, by
    first | trivial | omega | (simp; omega), ?_⟩, ?_⟩
  · -- the beginning
    refine ⟨?_, ?_⟩
    · -- b3: Value.int .i64 (IntKind.i64.wrap (((l.length : Nat) : Int) - (1 : Int))) = Value.int .i64 ((l.length : Int) - 1 - (0 : Int))
      show Value.int .i64 (IntKind.i64.wrap (((l.length : Nat) : Int) - (1 : Int))) = Value.int .i64 ((l.length : Int) - 1 - (0 : Int))
      first | rfl | exact vint (by rw [wrap64 (by omega) (by omega)]; omega)
    refine ⟨?_, ?_⟩
    · -- b4: Value.int .i64 p.h = Value.int .i64 p.h
      show Value.int .i64 p.h = Value.int .i64 p.h
      first | rfl | exact vint (by rw [wrap64 (by omega) (by omega)]; omega)
    refine ⟨?_, ?_⟩
    · -- b5: Value.bool p.pt.x.neg = Value.bool p.pt.x.neg
      show Value.bool p.pt.x.neg = Value.bool p.pt.x.neg
      first | rfl | exact vint (by rw [wrap64 (by omega) (by omega)]; omega)
    refine ⟨?_, ?_⟩
    · -- b6: Value.bool p.pt.y.neg = Value.bool p.pt.y.neg
      show Value.bool p.pt.y.neg = Value.bool p.pt.y.neg
      first | rfl | exact vint (by rw [wrap64 (by omega) (by omega)]; omega)
    refine ⟨?_, ?_⟩
    · -- b7: l = l
      show l = l
      first | rfl | exact vint (by rw [wrap64 (by omega) (by omega)]; omega)
    refine ⟨?_, ?_⟩
    · -- b8: p.pt.x.num = p.pt.x.num
      show p.pt.x.num = p.pt.x.num
      first | rfl | exact vint (by rw [wrap64 (by omega) (by omega)]; omega)
    refine ⟨?_, ?_⟩
    · -- b9: p.pt.x.den = p.pt.x.den
      show p.pt.x.den = p.pt.x.den
      first | rfl | exact vint (by rw [wrap64 (by omega) (by omega)]; omega)
    refine ⟨?_, ?_⟩
    · -- b10: p.pt.y.num = p.pt.y.num
      show p.pt.y.num = p.pt.y.num
      first | rfl | exact vint (by rw [wrap64 (by omega) (by omega)]; omega)
    refine ⟨?_, ?_⟩
    · -- b11: p.pt.y.den = p.pt.y.den
      show p.pt.y.den = p.pt.y.den
      first | rfl | exact vint (by rw [wrap64 (by omega) (by omega)]; omega)
    -- b12: ([] : List (List Dat)) = (revL p l 0)
    show ([] : List (List Dat)) = (revL p l 0)
    first | rfl | exact vint (by rw [wrap64 (by omega) (by omega)]; omega)
  intro (k : Nat) hki1
  have hki1 : k ≤ l.length := hki1
  have hlen := revL_len p l k
  refine ⟨fun c13 => ?_, fun c13 => ?_⟩
  · -- c13t: (decide (((l.length : Int) - 1 - (k : Int)) ≥ (0 : Int))) = true
    replace c13 : (decide (((l.length : Int) - 1 - (k : Int)) ≥ (0 : Int))) = true := c13
    try simp only [Bool.and_eq_true, Bool.or_eq_true, Bool.and_eq_false_iff, Bool.or_eq_false_iff, decide_eq_true_eq, decide_eq_false_iff_not, Bool.not_eq_true', Bool.not_eq_false', bne_iff_ne, ne_eq, beq_iff_eq, Bool.not_eq_true, Bool.not_eq_false, Int.not_lt, Int.not_le, gt_iff_lt, ge_iff_le, beq_eq_false_iff_ne, bne_eq_false_iff_eq] at c13
    have hi := toNat_sub (n := l.length) (k := k) (by omega)
    have o14 : 0 ≤ ((l.length : Int) - 1 - (k : Int)) ∧ ((l.length : Int) - 1 - (k : Int)) < (l.length : Int) := by
      first | rfl | omega | (simp; done) | (simp; omega)
    refine ⟨o14, ?_⟩
    have o15 : ((l.length : Int) - 1 - (k : Int)).toNat < l.length := by
      first | rfl | omega | (simp; done) | (simp; omega)
    refine ⟨o15, ?_⟩
    refine ⟨fun c16 => ?_, fun c16 => ?_⟩
    · -- c16t: ((((l.getD (((l.length : Int) - 1 - (k : Int)).toNat) []).getD 0 (.int 0))).n == (0 : Int)) = true
      replace c16 : ((((l.getD (((l.length : Int) - 1 - (k : Int)).toNat) []).getD 0 (.int 0))).n == (0 : Int)) = true := c16
      try simp only [Bool.and_eq_true, Bool.or_eq_true, Bool.and_eq_false_iff, Bool.or_eq_false_iff, decide_eq_true_eq, decide_eq_false_iff_not, Bool.not_eq_true', Bool.not_eq_false', bne_iff_ne, ne_eq, beq_iff_eq, Bool.not_eq_true, Bool.not_eq_false, Int.not_lt, Int.not_le, gt_iff_lt, ge_iff_le, beq_eq_false_iff_ne, bne_eq_false_iff_eq] at c16
      -- w17: after [DA.agg [DC.im (Value.int .i64 p.h), DC.im (Value.bool p.pt.x.neg), DC.sl 3 [.int] p.pt.x.num, DC.sl 3 [.int] p.pt.x.den, DC.im (Value.bool p.pt.y.neg), DC.sl 3 [.int] p.pt.y.num, DC.sl 3 [.int] p.pt.y.den], DA.one (DC.sl 104 [.int, .bool, .sl 3 [.int], .sl 3 [.int], .bool, .sl 3 [.int], .sl 3 [.int
      refine ⟨(p, l, ((l.length : Int) - 1 - (k : Int))), by
        rfl, by
        show l.length ≤ 1073741824
        first | trivial | exact hpre | exact hL | exact revL_ok hpre.1 hpre.2 (by omega) | exact afterL_ok hpre.1 hpre.2 _ | exact hpre.2.2 _ (by omega), ?_⟩
      have o20 : (revL p l k).length + ([[Dat.int (0 : Int), Dat.bool ((afterL p l ((l.length : Int) - 1 - (k : Int)).toNat).pt.x.neg), Dat.sl ((afterL p l ((l.length : Int) - 1 - (k : Int)).toNat).pt.x.num), Dat.sl ((afterL p l ((l.length : Int) - 1 - (k : Int)).toNat).pt.x.den), Dat.bool ((afterL p l ((l.length : Int) - 1 - (k : Int)).toNat).pt.y.neg), Dat.sl ((afterL p l ((l.length : Int) - 1 - (k : Int)).toNat).pt.y.num), Dat.sl ((afterL p l ((l.length : Int) - 1 - (k : Int)).toNat).pt.y.den)]] : List (List Dat)).length ≤ 1073741824 := by
        first | rfl | omega | (simp; done) | (simp; omega)
      refine ⟨o20, ?_⟩
      -- n21
      refine ⟨k + 1, by
        first | trivial | omega | (simp; omega), by
        first | omega | (simp; omega), ?_⟩
      refine ⟨?_, ?_⟩
      · -- e24: Value.int .i64 (IntKind.i64.wrap (((l.length : Int) - 1 - (k : Int)) - (1 : Int))) = Value.int .i64 ((l.length : Int) - 1 - ((k + 1) : Int))
        show Value.int .i64 (IntKind.i64.wrap (((l.length : Int) - 1 - (k : Int)) - (1 : Int))) = Value.int .i64 ((l.length : Int) - 1 - ((k + 1) : Int))
        first | rfl | exact vint (by rw [wrap64 (by omega) (by omega)]; omega) | exact rev_none hi (by omega) | exact rev_zero_0 (by omega) hi (by omega) | exact rev_zero_w (by omega) hi (by omega) | exact rev_turn_w (by omega) hi (by omega)
      refine ⟨?_, ?_⟩
      · -- e25: Value.int .i64 p.h = Value.int .i64 p.h
        show Value.int .i64 p.h = Value.int .i64 p.h
        first | rfl | exact vint (by rw [wrap64 (by omega) (by omega)]; omega) | exact rev_none hi (by omega) | exact rev_zero_0 (by omega) hi (by omega) | exact rev_zero_w (by omega) hi (by omega) | exact rev_turn_w (by omega) hi (by omega)
      refine ⟨?_, ?_⟩
      · -- e26: Value.bool p.pt.x.neg = Value.bool p.pt.x.neg
        show Value.bool p.pt.x.neg = Value.bool p.pt.x.neg
        first | rfl | exact vint (by rw [wrap64 (by omega) (by omega)]; omega) | exact rev_none hi (by omega) | exact rev_zero_0 (by omega) hi (by omega) | exact rev_zero_w (by omega) hi (by omega) | exact rev_turn_w (by omega) hi (by omega)
      refine ⟨?_, ?_⟩
      · -- e27: Value.bool p.pt.y.neg = Value.bool p.pt.y.neg
        show Value.bool p.pt.y.neg = Value.bool p.pt.y.neg
        first | rfl | exact vint (by rw [wrap64 (by omega) (by omega)]; omega) | exact rev_none hi (by omega) | exact rev_zero_0 (by omega) hi (by omega) | exact rev_zero_w (by omega) hi (by omega) | exact rev_turn_w (by omega) hi (by omega)
      refine ⟨?_, ?_⟩
      · -- e28: l = l
        show l = l
        first | rfl | exact vint (by rw [wrap64 (by omega) (by omega)]; omega) | exact rev_none hi (by omega) | exact rev_zero_0 (by omega) hi (by omega) | exact rev_zero_w (by omega) hi (by omega) | exact rev_turn_w (by omega) hi (by omega)
      refine ⟨?_, ?_⟩
      · -- e29: p.pt.x.num = p.pt.x.num
        show p.pt.x.num = p.pt.x.num
        first | rfl | exact vint (by rw [wrap64 (by omega) (by omega)]; omega) | exact rev_none hi (by omega) | exact rev_zero_0 (by omega) hi (by omega) | exact rev_zero_w (by omega) hi (by omega) | exact rev_turn_w (by omega) hi (by omega)
      refine ⟨?_, ?_⟩
      · -- e30: p.pt.x.den = p.pt.x.den
        show p.pt.x.den = p.pt.x.den
        first | rfl | exact vint (by rw [wrap64 (by omega) (by omega)]; omega) | exact rev_none hi (by omega) | exact rev_zero_0 (by omega) hi (by omega) | exact rev_zero_w (by omega) hi (by omega) | exact rev_turn_w (by omega) hi (by omega)
      refine ⟨?_, ?_⟩
      · -- e31: p.pt.y.num = p.pt.y.num
        show p.pt.y.num = p.pt.y.num
        first | rfl | exact vint (by rw [wrap64 (by omega) (by omega)]; omega) | exact rev_none hi (by omega) | exact rev_zero_0 (by omega) hi (by omega) | exact rev_zero_w (by omega) hi (by omega) | exact rev_turn_w (by omega) hi (by omega)
      refine ⟨?_, ?_⟩
      · -- e32: p.pt.y.den = p.pt.y.den
        show p.pt.y.den = p.pt.y.den
        first | rfl | exact vint (by rw [wrap64 (by omega) (by omega)]; omega) | exact rev_none hi (by omega) | exact rev_zero_0 (by omega) hi (by omega) | exact rev_zero_w (by omega) hi (by omega) | exact rev_turn_w (by omega) hi (by omega)
      -- e33: ((revL p l k) ++ ([[Dat.int (0 : Int), Dat.bool ((afterL p l ((l.length : Int) - 1 - (k : Int)).toNat).pt.x.neg), Dat.sl ((afterL p l ((l.length : Int) - 1 - (k : Int)).toNat).pt.x.num), Dat.sl ((afterL p l ((l.length : Int) - 1 - (k : Int)).toNat).pt.x.den), Dat.bool ((afterL p l ((l.length : Int) - 1 - (k : Int)).toNat).pt.y.neg), Dat.sl ((afterL p l ((l.length : Int) - 1 - (k : Int)).toNat).pt.
      show ((revL p l k) ++ ([[Dat.int (0 : Int), Dat.bool ((afterL p l ((l.length : Int) - 1 - (k : Int)).toNat).pt.x.neg), Dat.sl ((afterL p l ((l.length : Int) - 1 - (k : Int)).toNat).pt.x.num), Dat.sl ((afterL p l ((l.length : Int) - 1 - (k : Int)).toNat).pt.x.den), Dat.bool ((afterL p l ((l.length : Int) - 1 - (k : Int)).toNat).pt.y.neg), Dat.sl ((afterL p l ((l.length : Int) - 1 - (k : Int)).toNat).pt.y.num), Dat.sl ((afterL p l ((l.length : Int) - 1 - (k : Int)).toNat).pt.y.den)]] : List (List Dat))) = (revL p l (k + 1))
      first | rfl | exact vint (by rw [wrap64 (by omega) (by omega)]; omega) | exact rev_none hi (by omega) | exact rev_zero_0 (by omega) hi (by omega) | exact rev_zero_w (by omega) hi (by omega) | exact rev_turn_w (by omega) hi (by omega)
    · -- c16f: ((((l.getD (((l.length : Int) - 1 - (k : Int)).toNat) []).getD 0 (.int 0))).n == (0 : Int)) = false
      replace c16 : ((((l.getD (((l.length : Int) - 1 - (k : Int)).toNat) []).getD 0 (.int 0))).n == (0 : Int)) = false := c16
      try simp only [Bool.and_eq_true, Bool.or_eq_true, Bool.and_eq_false_iff, Bool.or_eq_false_iff, decide_eq_true_eq, decide_eq_false_iff_not, Bool.not_eq_true', Bool.not_eq_false', bne_iff_ne, ne_eq, beq_iff_eq, Bool.not_eq_true, Bool.not_eq_false, Int.not_lt, Int.not_le, gt_iff_lt, ge_iff_le, beq_eq_false_iff_ne, bne_eq_false_iff_eq] at c16
      refine ⟨fun c34 => ?_, fun c34 => ?_⟩
      · -- c34t: ((((l.getD (((l.length : Int) - 1 - (k : Int)).toNat) []).getD 0 (.int 0))).n == (1 : Int)) = true
        replace c34 : ((((l.getD (((l.length : Int) - 1 - (k : Int)).toNat) []).getD 0 (.int 0))).n == (1 : Int)) = true := c34
        try simp only [Bool.and_eq_true, Bool.or_eq_true, Bool.and_eq_false_iff, Bool.or_eq_false_iff, decide_eq_true_eq, decide_eq_false_iff_not, Bool.not_eq_true', Bool.not_eq_false', bne_iff_ne, ne_eq, beq_iff_eq, Bool.not_eq_true, Bool.not_eq_false, Int.not_lt, Int.not_le, gt_iff_lt, ge_iff_le, beq_eq_false_iff_ne, bne_eq_false_iff_eq] at c34
        have o35 : (revL p l k).length + ([[Dat.int (IntKind.i64.wrap (0 - (((l.getD (((l.length : Int) - 1 - (k : Int)).toNat) []).getD 0 (.int 0))).n)), Dat.bool ((((l.getD (((l.length : Int) - 1 - (k : Int)).toNat) []).getD 1 (.int 0))).b), Dat.sl ((((l.getD (((l.length : Int) - 1 - (k : Int)).toNat) []).getD 2 (.int 0))).r), Dat.sl ((((l.getD (((l.length : Int) - 1 - (k : Int)).toNat) []).getD 3 (.int 0))).r), Dat.bool ((((l.getD (((l.length : Int) - 1 - (k : Int)).toNat) []).getD 4 (.int 0))).b), Dat.sl ((((l.getD (((l.length : Int) - 1 - (k : Int)).toNat) []).getD 5 (.int 0))).r), Dat.sl ((((l.getD (((l.length : Int) - 1 - (k : Int)).toNat) []).getD 6 (.int 0))).r)]] : List (List Dat)).length ≤ 1073741824 := by
          first | rfl | omega | (simp; done) | (simp; omega)
        refine ⟨o35, ?_⟩
        -- n36
        refine ⟨k + 1, by
          first | trivial | omega | (simp; omega), by
          first | omega | (simp; omega), ?_⟩
        refine ⟨?_, ?_⟩
        · -- e39: Value.int .i64 (IntKind.i64.wrap (((l.length : Int) - 1 - (k : Int)) - (1 : Int))) = Value.int .i64 ((l.length : Int) - 1 - ((k + 1) : Int))
          show Value.int .i64 (IntKind.i64.wrap (((l.length : Int) - 1 - (k : Int)) - (1 : Int))) = Value.int .i64 ((l.length : Int) - 1 - ((k + 1) : Int))
          first | rfl | exact vint (by rw [wrap64 (by omega) (by omega)]; omega) | exact rev_none hi (by omega) | exact rev_zero_0 (by omega) hi (by omega) | exact rev_zero_w (by omega) hi (by omega) | exact rev_turn_w (by omega) hi (by omega)
        refine ⟨?_, ?_⟩
        · -- e40: Value.int .i64 p.h = Value.int .i64 p.h
          show Value.int .i64 p.h = Value.int .i64 p.h
          first | rfl | exact vint (by rw [wrap64 (by omega) (by omega)]; omega) | exact rev_none hi (by omega) | exact rev_zero_0 (by omega) hi (by omega) | exact rev_zero_w (by omega) hi (by omega) | exact rev_turn_w (by omega) hi (by omega)
        refine ⟨?_, ?_⟩
        · -- e41: Value.bool p.pt.x.neg = Value.bool p.pt.x.neg
          show Value.bool p.pt.x.neg = Value.bool p.pt.x.neg
          first | rfl | exact vint (by rw [wrap64 (by omega) (by omega)]; omega) | exact rev_none hi (by omega) | exact rev_zero_0 (by omega) hi (by omega) | exact rev_zero_w (by omega) hi (by omega) | exact rev_turn_w (by omega) hi (by omega)
        refine ⟨?_, ?_⟩
        · -- e42: Value.bool p.pt.y.neg = Value.bool p.pt.y.neg
          show Value.bool p.pt.y.neg = Value.bool p.pt.y.neg
          first | rfl | exact vint (by rw [wrap64 (by omega) (by omega)]; omega) | exact rev_none hi (by omega) | exact rev_zero_0 (by omega) hi (by omega) | exact rev_zero_w (by omega) hi (by omega) | exact rev_turn_w (by omega) hi (by omega)
        refine ⟨?_, ?_⟩
        · -- e43: l = l
          show l = l
          first | rfl | exact vint (by rw [wrap64 (by omega) (by omega)]; omega) | exact rev_none hi (by omega) | exact rev_zero_0 (by omega) hi (by omega) | exact rev_zero_w (by omega) hi (by omega) | exact rev_turn_w (by omega) hi (by omega)
        refine ⟨?_, ?_⟩
        · -- e44: p.pt.x.num = p.pt.x.num
          show p.pt.x.num = p.pt.x.num
          first | rfl | exact vint (by rw [wrap64 (by omega) (by omega)]; omega) | exact rev_none hi (by omega) | exact rev_zero_0 (by omega) hi (by omega) | exact rev_zero_w (by omega) hi (by omega) | exact rev_turn_w (by omega) hi (by omega)
        refine ⟨?_, ?_⟩
        · -- e45: p.pt.x.den = p.pt.x.den
          show p.pt.x.den = p.pt.x.den
          first | rfl | exact vint (by rw [wrap64 (by omega) (by omega)]; omega) | exact rev_none hi (by omega) | exact rev_zero_0 (by omega) hi (by omega) | exact rev_zero_w (by omega) hi (by omega) | exact rev_turn_w (by omega) hi (by omega)
        refine ⟨?_, ?_⟩
        · -- e46: p.pt.y.num = p.pt.y.num
          show p.pt.y.num = p.pt.y.num
          first | rfl | exact vint (by rw [wrap64 (by omega) (by omega)]; omega) | exact rev_none hi (by omega) | exact rev_zero_0 (by omega) hi (by omega) | exact rev_zero_w (by omega) hi (by omega) | exact rev_turn_w (by omega) hi (by omega)
        refine ⟨?_, ?_⟩
        · -- e47: p.pt.y.den = p.pt.y.den
          show p.pt.y.den = p.pt.y.den
          first | rfl | exact vint (by rw [wrap64 (by omega) (by omega)]; omega) | exact rev_none hi (by omega) | exact rev_zero_0 (by omega) hi (by omega) | exact rev_zero_w (by omega) hi (by omega) | exact rev_turn_w (by omega) hi (by omega)
        -- e48: ((revL p l k) ++ ([[Dat.int (IntKind.i64.wrap (0 - (((l.getD (((l.length : Int) - 1 - (k : Int)).toNat) []).getD 0 (.int 0))).n)), Dat.bool ((((l.getD (((l.length : Int) - 1 - (k : Int)).toNat) []).getD 1 (.int 0))).b), Dat.sl ((((l.getD (((l.length : Int) - 1 - (k : Int)).toNat) []).getD 2 (.int 0))).r), Dat.sl ((((l.getD (((l.length : Int) - 1 - (k : Int)).toNat) []).getD 3 (.int 0))).r), Dat.bo
        show ((revL p l k) ++ ([[Dat.int (IntKind.i64.wrap (0 - (((l.getD (((l.length : Int) - 1 - (k : Int)).toNat) []).getD 0 (.int 0))).n)), Dat.bool ((((l.getD (((l.length : Int) - 1 - (k : Int)).toNat) []).getD 1 (.int 0))).b), Dat.sl ((((l.getD (((l.length : Int) - 1 - (k : Int)).toNat) []).getD 2 (.int 0))).r), Dat.sl ((((l.getD (((l.length : Int) - 1 - (k : Int)).toNat) []).getD 3 (.int 0))).r), Dat.bool ((((l.getD (((l.length : Int) - 1 - (k : Int)).toNat) []).getD 4 (.int 0))).b), Dat.sl ((((l.getD (((l.length : Int) - 1 - (k : Int)).toNat) []).getD 5 (.int 0))).r), Dat.sl ((((l.getD (((l.length : Int) - 1 - (k : Int)).toNat) []).getD 6 (.int 0))).r)]] : List (List Dat))) = (revL p l (k + 1))
        first | rfl | exact vint (by rw [wrap64 (by omega) (by omega)]; omega) | exact rev_none hi (by omega) | exact rev_zero_0 (by omega) hi (by omega) | exact rev_zero_w (by omega) hi (by omega) | exact rev_turn_w (by omega) hi (by omega)
      · -- c34f: ((((l.getD (((l.length : Int) - 1 - (k : Int)).toNat) []).getD 0 (.int 0))).n == (1 : Int)) = false
        replace c34 : ((((l.getD (((l.length : Int) - 1 - (k : Int)).toNat) []).getD 0 (.int 0))).n == (1 : Int)) = false := c34
        try simp only [Bool.and_eq_true, Bool.or_eq_true, Bool.and_eq_false_iff, Bool.or_eq_false_iff, decide_eq_true_eq, decide_eq_false_iff_not, Bool.not_eq_true', Bool.not_eq_false', bne_iff_ne, ne_eq, beq_iff_eq, Bool.not_eq_true, Bool.not_eq_false, Int.not_lt, Int.not_le, gt_iff_lt, ge_iff_le, beq_eq_false_iff_ne, bne_eq_false_iff_eq] at c34
        refine ⟨fun c49 => ?_, fun c49 => ?_⟩
        · -- c49t: ((((l.getD (((l.length : Int) - 1 - (k : Int)).toNat) []).getD 0 (.int 0))).n == (-1 : Int)) = true
          replace c49 : ((((l.getD (((l.length : Int) - 1 - (k : Int)).toNat) []).getD 0 (.int 0))).n == (-1 : Int)) = true := c49
          try simp only [Bool.and_eq_true, Bool.or_eq_true, Bool.and_eq_false_iff, Bool.or_eq_false_iff, decide_eq_true_eq, decide_eq_false_iff_not, Bool.not_eq_true', Bool.not_eq_false', bne_iff_ne, ne_eq, beq_iff_eq, Bool.not_eq_true, Bool.not_eq_false, Int.not_lt, Int.not_le, gt_iff_lt, ge_iff_le, beq_eq_false_iff_ne, bne_eq_false_iff_eq] at c49
          have o50 : (revL p l k).length + ([[Dat.int (IntKind.i64.wrap (0 - (((l.getD (((l.length : Int) - 1 - (k : Int)).toNat) []).getD 0 (.int 0))).n)), Dat.bool ((((l.getD (((l.length : Int) - 1 - (k : Int)).toNat) []).getD 1 (.int 0))).b), Dat.sl ((((l.getD (((l.length : Int) - 1 - (k : Int)).toNat) []).getD 2 (.int 0))).r), Dat.sl ((((l.getD (((l.length : Int) - 1 - (k : Int)).toNat) []).getD 3 (.int 0))).r), Dat.bool ((((l.getD (((l.length : Int) - 1 - (k : Int)).toNat) []).getD 4 (.int 0))).b), Dat.sl ((((l.getD (((l.length : Int) - 1 - (k : Int)).toNat) []).getD 5 (.int 0))).r), Dat.sl ((((l.getD (((l.length : Int) - 1 - (k : Int)).toNat) []).getD 6 (.int 0))).r)]] : List (List Dat)).length ≤ 1073741824 := by
            first | rfl | omega | (simp; done) | (simp; omega)
          refine ⟨o50, ?_⟩
          -- n51
          refine ⟨k + 1, by
            first | trivial | omega | (simp; omega), by
            first | omega | (simp; omega), ?_⟩
          refine ⟨?_, ?_⟩
          · -- e54: Value.int .i64 (IntKind.i64.wrap (((l.length : Int) - 1 - (k : Int)) - (1 : Int))) = Value.int .i64 ((l.length : Int) - 1 - ((k + 1) : Int))
            show Value.int .i64 (IntKind.i64.wrap (((l.length : Int) - 1 - (k : Int)) - (1 : Int))) = Value.int .i64 ((l.length : Int) - 1 - ((k + 1) : Int))
            first | rfl | exact vint (by rw [wrap64 (by omega) (by omega)]; omega) | exact rev_none hi (by omega) | exact rev_zero_0 (by omega) hi (by omega) | exact rev_zero_w (by omega) hi (by omega) | exact rev_turn_w (by omega) hi (by omega)
          refine ⟨?_, ?_⟩
          · -- e55: Value.int .i64 p.h = Value.int .i64 p.h
            show Value.int .i64 p.h = Value.int .i64 p.h
            first | rfl | exact vint (by rw [wrap64 (by omega) (by omega)]; omega) | exact rev_none hi (by omega) | exact rev_zero_0 (by omega) hi (by omega) | exact rev_zero_w (by omega) hi (by omega) | exact rev_turn_w (by omega) hi (by omega)
          refine ⟨?_, ?_⟩
          · -- e56: Value.bool p.pt.x.neg = Value.bool p.pt.x.neg
            show Value.bool p.pt.x.neg = Value.bool p.pt.x.neg
            first | rfl | exact vint (by rw [wrap64 (by omega) (by omega)]; omega) | exact rev_none hi (by omega) | exact rev_zero_0 (by omega) hi (by omega) | exact rev_zero_w (by omega) hi (by omega) | exact rev_turn_w (by omega) hi (by omega)
          refine ⟨?_, ?_⟩
          · -- e57: Value.bool p.pt.y.neg = Value.bool p.pt.y.neg
            show Value.bool p.pt.y.neg = Value.bool p.pt.y.neg
            first | rfl | exact vint (by rw [wrap64 (by omega) (by omega)]; omega) | exact rev_none hi (by omega) | exact rev_zero_0 (by omega) hi (by omega) | exact rev_zero_w (by omega) hi (by omega) | exact rev_turn_w (by omega) hi (by omega)
          refine ⟨?_, ?_⟩
          · -- e58: l = l
            show l = l
            first | rfl | exact vint (by rw [wrap64 (by omega) (by omega)]; omega) | exact rev_none hi (by omega) | exact rev_zero_0 (by omega) hi (by omega) | exact rev_zero_w (by omega) hi (by omega) | exact rev_turn_w (by omega) hi (by omega)
          refine ⟨?_, ?_⟩
          · -- e59: p.pt.x.num = p.pt.x.num
            show p.pt.x.num = p.pt.x.num
            first | rfl | exact vint (by rw [wrap64 (by omega) (by omega)]; omega) | exact rev_none hi (by omega) | exact rev_zero_0 (by omega) hi (by omega) | exact rev_zero_w (by omega) hi (by omega) | exact rev_turn_w (by omega) hi (by omega)
          refine ⟨?_, ?_⟩
          · -- e60: p.pt.x.den = p.pt.x.den
            show p.pt.x.den = p.pt.x.den
            first | rfl | exact vint (by rw [wrap64 (by omega) (by omega)]; omega) | exact rev_none hi (by omega) | exact rev_zero_0 (by omega) hi (by omega) | exact rev_zero_w (by omega) hi (by omega) | exact rev_turn_w (by omega) hi (by omega)
          refine ⟨?_, ?_⟩
          · -- e61: p.pt.y.num = p.pt.y.num
            show p.pt.y.num = p.pt.y.num
            first | rfl | exact vint (by rw [wrap64 (by omega) (by omega)]; omega) | exact rev_none hi (by omega) | exact rev_zero_0 (by omega) hi (by omega) | exact rev_zero_w (by omega) hi (by omega) | exact rev_turn_w (by omega) hi (by omega)
          refine ⟨?_, ?_⟩
          · -- e62: p.pt.y.den = p.pt.y.den
            show p.pt.y.den = p.pt.y.den
            first | rfl | exact vint (by rw [wrap64 (by omega) (by omega)]; omega) | exact rev_none hi (by omega) | exact rev_zero_0 (by omega) hi (by omega) | exact rev_zero_w (by omega) hi (by omega) | exact rev_turn_w (by omega) hi (by omega)
          -- e63: ((revL p l k) ++ ([[Dat.int (IntKind.i64.wrap (0 - (((l.getD (((l.length : Int) - 1 - (k : Int)).toNat) []).getD 0 (.int 0))).n)), Dat.bool ((((l.getD (((l.length : Int) - 1 - (k : Int)).toNat) []).getD 1 (.int 0))).b), Dat.sl ((((l.getD (((l.length : Int) - 1 - (k : Int)).toNat) []).getD 2 (.int 0))).r), Dat.sl ((((l.getD (((l.length : Int) - 1 - (k : Int)).toNat) []).getD 3 (.int 0))).r), Dat.bo
          show ((revL p l k) ++ ([[Dat.int (IntKind.i64.wrap (0 - (((l.getD (((l.length : Int) - 1 - (k : Int)).toNat) []).getD 0 (.int 0))).n)), Dat.bool ((((l.getD (((l.length : Int) - 1 - (k : Int)).toNat) []).getD 1 (.int 0))).b), Dat.sl ((((l.getD (((l.length : Int) - 1 - (k : Int)).toNat) []).getD 2 (.int 0))).r), Dat.sl ((((l.getD (((l.length : Int) - 1 - (k : Int)).toNat) []).getD 3 (.int 0))).r), Dat.bool ((((l.getD (((l.length : Int) - 1 - (k : Int)).toNat) []).getD 4 (.int 0))).b), Dat.sl ((((l.getD (((l.length : Int) - 1 - (k : Int)).toNat) []).getD 5 (.int 0))).r), Dat.sl ((((l.getD (((l.length : Int) - 1 - (k : Int)).toNat) []).getD 6 (.int 0))).r)]] : List (List Dat))) = (revL p l (k + 1))
          first | rfl | exact vint (by rw [wrap64 (by omega) (by omega)]; omega) | exact rev_none hi (by omega) | exact rev_zero_0 (by omega) hi (by omega) | exact rev_zero_w (by omega) hi (by omega) | exact rev_turn_w (by omega) hi (by omega)
        · -- c49f: ((((l.getD (((l.length : Int) - 1 - (k : Int)).toNat) []).getD 0 (.int 0))).n == (-1 : Int)) = false
          replace c49 : ((((l.getD (((l.length : Int) - 1 - (k : Int)).toNat) []).getD 0 (.int 0))).n == (-1 : Int)) = false := c49
          try simp only [Bool.and_eq_true, Bool.or_eq_true, Bool.and_eq_false_iff, Bool.or_eq_false_iff, decide_eq_true_eq, decide_eq_false_iff_not, Bool.not_eq_true', Bool.not_eq_false', bne_iff_ne, ne_eq, beq_iff_eq, Bool.not_eq_true, Bool.not_eq_false, Int.not_lt, Int.not_le, gt_iff_lt, ge_iff_le, beq_eq_false_iff_ne, bne_eq_false_iff_eq] at c49
          -- n64
          refine ⟨k + 1, by
            first | trivial | omega | (simp; omega), by
            first | omega | (simp; omega), ?_⟩
          refine ⟨?_, ?_⟩
          · -- e67: Value.int .i64 (IntKind.i64.wrap (((l.length : Int) - 1 - (k : Int)) - (1 : Int))) = Value.int .i64 ((l.length : Int) - 1 - ((k + 1) : Int))
            show Value.int .i64 (IntKind.i64.wrap (((l.length : Int) - 1 - (k : Int)) - (1 : Int))) = Value.int .i64 ((l.length : Int) - 1 - ((k + 1) : Int))
            first | rfl | exact vint (by rw [wrap64 (by omega) (by omega)]; omega) | exact rev_none hi (by omega) | exact rev_zero_0 (by omega) hi (by omega) | exact rev_zero_w (by omega) hi (by omega) | exact rev_turn_w (by omega) hi (by omega)
          refine ⟨?_, ?_⟩
          · -- e68: Value.int .i64 p.h = Value.int .i64 p.h
            show Value.int .i64 p.h = Value.int .i64 p.h
            first | rfl | exact vint (by rw [wrap64 (by omega) (by omega)]; omega) | exact rev_none hi (by omega) | exact rev_zero_0 (by omega) hi (by omega) | exact rev_zero_w (by omega) hi (by omega) | exact rev_turn_w (by omega) hi (by omega)
          refine ⟨?_, ?_⟩
          · -- e69: Value.bool p.pt.x.neg = Value.bool p.pt.x.neg
            show Value.bool p.pt.x.neg = Value.bool p.pt.x.neg
            first | rfl | exact vint (by rw [wrap64 (by omega) (by omega)]; omega) | exact rev_none hi (by omega) | exact rev_zero_0 (by omega) hi (by omega) | exact rev_zero_w (by omega) hi (by omega) | exact rev_turn_w (by omega) hi (by omega)
          refine ⟨?_, ?_⟩
          · -- e70: Value.bool p.pt.y.neg = Value.bool p.pt.y.neg
            show Value.bool p.pt.y.neg = Value.bool p.pt.y.neg
            first | rfl | exact vint (by rw [wrap64 (by omega) (by omega)]; omega) | exact rev_none hi (by omega) | exact rev_zero_0 (by omega) hi (by omega) | exact rev_zero_w (by omega) hi (by omega) | exact rev_turn_w (by omega) hi (by omega)
          refine ⟨?_, ?_⟩
          · -- e71: l = l
            show l = l
            first | rfl | exact vint (by rw [wrap64 (by omega) (by omega)]; omega) | exact rev_none hi (by omega) | exact rev_zero_0 (by omega) hi (by omega) | exact rev_zero_w (by omega) hi (by omega) | exact rev_turn_w (by omega) hi (by omega)
          refine ⟨?_, ?_⟩
          · -- e72: p.pt.x.num = p.pt.x.num
            show p.pt.x.num = p.pt.x.num
            first | rfl | exact vint (by rw [wrap64 (by omega) (by omega)]; omega) | exact rev_none hi (by omega) | exact rev_zero_0 (by omega) hi (by omega) | exact rev_zero_w (by omega) hi (by omega) | exact rev_turn_w (by omega) hi (by omega)
          refine ⟨?_, ?_⟩
          · -- e73: p.pt.x.den = p.pt.x.den
            show p.pt.x.den = p.pt.x.den
            first | rfl | exact vint (by rw [wrap64 (by omega) (by omega)]; omega) | exact rev_none hi (by omega) | exact rev_zero_0 (by omega) hi (by omega) | exact rev_zero_w (by omega) hi (by omega) | exact rev_turn_w (by omega) hi (by omega)
          refine ⟨?_, ?_⟩
          · -- e74: p.pt.y.num = p.pt.y.num
            show p.pt.y.num = p.pt.y.num
            first | rfl | exact vint (by rw [wrap64 (by omega) (by omega)]; omega) | exact rev_none hi (by omega) | exact rev_zero_0 (by omega) hi (by omega) | exact rev_zero_w (by omega) hi (by omega) | exact rev_turn_w (by omega) hi (by omega)
          refine ⟨?_, ?_⟩
          · -- e75: p.pt.y.den = p.pt.y.den
            show p.pt.y.den = p.pt.y.den
            first | rfl | exact vint (by rw [wrap64 (by omega) (by omega)]; omega) | exact rev_none hi (by omega) | exact rev_zero_0 (by omega) hi (by omega) | exact rev_zero_w (by omega) hi (by omega) | exact rev_turn_w (by omega) hi (by omega)
          -- e76: (revL p l k) = (revL p l (k + 1))
          show (revL p l k) = (revL p l (k + 1))
          first | rfl | exact vint (by rw [wrap64 (by omega) (by omega)]; omega) | exact rev_none hi (by omega) | exact rev_zero_0 (by omega) hi (by omega) | exact rev_zero_w (by omega) hi (by omega) | exact rev_turn_w (by omega) hi (by omega)
  · -- c13f: (decide (((l.length : Int) - 1 - (k : Int)) ≥ (0 : Int))) = false
    replace c13 : (decide (((l.length : Int) - 1 - (k : Int)) ≥ (0 : Int))) = false := c13
    try simp only [Bool.and_eq_true, Bool.or_eq_true, Bool.and_eq_false_iff, Bool.or_eq_false_iff, decide_eq_true_eq, decide_eq_false_iff_not, Bool.not_eq_true', Bool.not_eq_false', bne_iff_ne, ne_eq, beq_iff_eq, Bool.not_eq_true, Bool.not_eq_false, Int.not_lt, Int.not_le, gt_iff_lt, ge_iff_le, beq_eq_false_iff_ne, bne_eq_false_iff_eq] at c13
    -- w77: ownSteps [DA.one (DC.sl 104 [.int, .bool, .sl 3 [.int], .sl 3 [.int], .bool, .sl 3 [.int], .sl 3 [.int]] (revL p l k))]
    refine ⟨(revL p l k), by
      rfl, by
      show stepsOk (revL p l k)
      first | trivial | exact hpre | exact hL | exact revL_ok hpre.1 hpre.2 (by omega) | exact afterL_ok hpre.1 hpre.2 _ | exact hpre.2.2 _ (by omega), ?_⟩
    -- l80: copyL (revL p l k) = revL p l l.length
    show copyL (revL p l k) = revL p l l.length
    first | (rw [show k = l.length by omega]; done) | (rw [show k = l.length by omega]; exact copyL_revL (Nat.le_refl _))
def sReverseMotion_con : Con := { ι := PlD × (List (List Dat)), pre := fun i => i.1.ok ∧ stepsOk i.2, args := fun i => [.agg [.im (.int .i64 i.1.h), .im (.bool i.1.pt.x.neg), .sl 3 [.int] i.1.pt.x.num, .sl 3 [.int] i.1.pt.x.den, .im (.bool i.1.pt.y.neg), .sl 3 [.int] i.1.pt.y.num, .sl 3 [.int] i.1.pt.y.den], .one (.sl 104 [.int, .bool, .sl 3 [.int], .sl 3 [.int], .bool, .sl 3 [.int], .sl 3 [.int]] i.2)], res := fun i => ⟨false, [none], [.own 104 [.int, .bool, .sl 3 [.int], .sl 3 [.int], .bool, .sl 3 [.int], .sl 3 [.int]] (revL i.1 i.2 i.2.length)]⟩ }
set_option maxRecDepth 100000 in
theorem sReverseMotion_ok : sReverseMotion_con.Ok Try.prog 38 := by
  refine fn_ok (X := ⟨tt, [(87, l22Turn_con), (22, sPlacementAfter_con), (65, l05Copy_con)], [], 45⟩) mixed tt_ok (CTok.cons l22Turn_ok (CTok.cons sPlacementAfter_ok (CTok.cons l05Copy_ok (CTok.nil _)))) Try.func38 (by decide) rfl rfl rfl (fun _ => Nat.le_of_ble_eq_true rfl) (fun _ => Nat.le_of_ble_eq_true rfl) (fun i => [(3, .mk 8 (Nat) (fun x1 => { tm := [(1, .one (.one (.ext 1))), (2, .one (.one (.bp 2 0))), (6, .one (.one (.im (Value.int .i64 ((i.2.length : Int) - 1 - (x1 : Int)))))), (5, .one (.one (.ext 7)))], en := [(2, .box [.im (Value.int .i64 i.1.h), .im (Value.bool i.1.pt.x.neg), .ext 3, .ext 4, .im (Value.bool i.1.pt.y.neg), .ext 5, .ext 6]), (1, .view 104 [.int, .bool, .sl 3 [.int], .sl 3 [.int], .bool, .sl 3 [.int], .sl 3 [.int]] i.2 []), (3, .view 3 [.int] i.1.pt.x.num []), (4, .view 3 [.int] i.1.pt.x.den []), (5, .view 3 [.int] i.1.pt.y.num []), (6, .view 3 [.int] i.1.pt.y.den []), (7, .own 104 [.int, .bool, .sl 3 [.int], .sl 3 [.int], .bool, .sl 3 [.int], .sl 3 [.int]] (revL i.1 i.2 x1))] }) (fun x1 => x1 ≤ i.2.length) (fun x1 => i.2.length - x1) (fun _ => []))]) ?_
  rintro ⟨p, l⟩ hpre
  have hpre : p.ok ∧ stepsOk l := hpre
  refine by_nf (q := (∃ x1 : Nat, (x1 ≤ l.length) ∧ ((Value.int .i64 (IntKind.i64.wrap (((l.length : Nat) : Int) - (1 : Int))) = Value.int .i64 ((l.length : Int) - 1 - (x1 : Int))) ∧ (Value.int .i64 p.h = Value.int .i64 p.h) ∧ (Value.bool p.pt.x.neg = Value.bool p.pt.x.neg) ∧ (Value.bool p.pt.y.neg = Value.bool p.pt.y.neg) ∧ (l = l) ∧ (p.pt.x.num = p.pt.x.num) ∧ (p.pt.x.den = p.pt.x.den) ∧ (p.pt.y.num = p.pt.y.num) ∧ (p.pt.y.den = p.pt.y.den) ∧ (([] : List (List Dat)) = (revL p l x1)))) ∧ ∀ x1 : Nat, (x1 ≤ l.length) → (((decide (((l.length : Int) - 1 - (x1 : Int)) ≥ (0 : Int))) = true → ((0 ≤ ((l.length : Int) - 1 - (x1 : Int)) ∧ ((l.length : Int) - 1 - (x1 : Int)) < (l.length : Int)) ∧ ((((l.length : Int) - 1 - (x1 : Int)).toNat < l.length) ∧ (∃ i1 : Int, [DA.one (DC.im (Value.int .i64 (((l.getD (((l.length : Int) - 1 - (x1 : Int)).toNat) []).getD 0 (.int 0))).n))] = l22Turn_con.args i1 ∧ l22Turn_con.pre i1 ∧ (((!(decide (i1 ≥ -1) && decide (i1 ≤ 1))) = true → (∃ y2 : Nat, (y2 ≤ l.length) ∧ (l.length - y2 < l.length - x1) ∧ ((Value.int .i64 (IntKind.i64.wrap (((l.length : Int) - 1 - (x1 : Int)) - (1 : Int))) = Value.int .i64 ((l.length : Int) - 1 - (y2 : Int))) ∧ (Value.int .i64 p.h = Value.int .i64 p.h) ∧ (Value.bool p.pt.x.neg = Value.bool p.pt.x.neg) ∧ (Value.bool p.pt.y.neg = Value.bool p.pt.y.neg) ∧ (l = l) ∧ (p.pt.x.num = p.pt.x.num) ∧ (p.pt.x.den = p.pt.x.den) ∧ (p.pt.y.num = p.pt.y.num) ∧ (p.pt.y.den = p.pt.y.den) ∧ ((revL p l x1) = (revL p l y2))))) ∧ ((!(decide (i1 ≥ -1) && decide (i1 ≤ 1))) = false → ((((((l.getD (((l.length : Int) - 1 - (x1 : Int)).toNat) []).getD 0 (.int 0))).n == (0 : Int)) = true → (∃ i2 : PlD × (List (List Dat)) × Int, [DA.agg [DC.im (Value.int .i64 p.h), DC.im (Value.bool p.pt.x.neg), DC.sl 3 [.int] p.pt.x.num, DC.sl 3 [.int] p.pt.x.den, DC.im (Value.bool p.pt.y.neg), DC.sl 3 [.int] p.pt.y.num, DC.sl 3 [.int] p.pt.y.den], DA.one (DC.sl 104 [.int, .bool, .sl 3 [.int], .sl 3 [.int], .bool, .sl 3 [.int], .sl 3 [.int]] l), DA.one (DC.im (Value.int .i64 ((l.length : Int) - 1 - (x1 : Int))))] = sPlacementAfter_con.args i2 ∧ sPlacementAfter_con.pre i2 ∧ (∃ i3 : PtD, [DA.agg [DC.im (Value.bool ((afterL i2.1 i2.2.1 i2.2.2.toNat).pt.x.neg)), DC.sl 3 [.int] ((afterL i2.1 i2.2.1 i2.2.2.toNat).pt.x.num), DC.sl 3 [.int] ((afterL i2.1 i2.2.1 i2.2.2.toNat).pt.x.den), DC.im (Value.bool ((afterL i2.1 i2.2.1 i2.2.2.toNat).pt.y.neg)), DC.sl 3 [.int] ((afterL i2.1 i2.2.1 i2.2.2.toNat).pt.y.num), DC.sl 3 [.int] ((afterL i2.1 i2.2.1 i2.2.2.toNat).pt.y.den)]] = l05Copy_con.args i3 ∧ l05Copy_con.pre i3 ∧ (((revL p l x1).length + ([[Dat.int (IntKind.i64.wrap (0 - (((l.getD (((l.length : Int) - 1 - (x1 : Int)).toNat) []).getD 0 (.int 0))).n)), Dat.bool i3.x.neg, Dat.sl i3.x.num, Dat.sl i3.x.den, Dat.bool i3.y.neg, Dat.sl i3.y.num, Dat.sl i3.y.den]] : List (List Dat)).length ≤ 1073741824) ∧ (∃ y3 : Nat, (y3 ≤ l.length) ∧ (l.length - y3 < l.length - x1) ∧ ((Value.int .i64 (IntKind.i64.wrap (((l.length : Int) - 1 - (x1 : Int)) - (1 : Int))) = Value.int .i64 ((l.length : Int) - 1 - (y3 : Int))) ∧ (Value.int .i64 p.h = Value.int .i64 p.h) ∧ (Value.bool p.pt.x.neg = Value.bool p.pt.x.neg) ∧ (Value.bool p.pt.y.neg = Value.bool p.pt.y.neg) ∧ (l = l) ∧ (p.pt.x.num = p.pt.x.num) ∧ (p.pt.x.den = p.pt.x.den) ∧ (p.pt.y.num = p.pt.y.num) ∧ (p.pt.y.den = p.pt.y.den) ∧ (((revL p l x1) ++ ([[Dat.int (IntKind.i64.wrap (0 - (((l.getD (((l.length : Int) - 1 - (x1 : Int)).toNat) []).getD 0 (.int 0))).n)), Dat.bool i3.x.neg, Dat.sl i3.x.num, Dat.sl i3.x.den, Dat.bool i3.y.neg, Dat.sl i3.y.num, Dat.sl i3.y.den]] : List (List Dat))) = (revL p l y3)))))))) ∧ (((((l.getD (((l.length : Int) - 1 - (x1 : Int)).toNat) []).getD 0 (.int 0))).n == (0 : Int)) = false → (∃ i4 : PtD, [DA.agg [DC.im (Value.bool ((((l.getD (((l.length : Int) - 1 - (x1 : Int)).toNat) []).getD 1 (.int 0))).b)), DC.sl 3 [.int] ((((l.getD (((l.length : Int) - 1 - (x1 : Int)).toNat) []).getD 2 (.int 0))).r), DC.sl 3 [.int] ((((l.getD (((l.length : Int) - 1 - (x1 : Int)).toNat) []).getD 3 (.int 0))).r), DC.im (Value.bool ((((l.getD (((l.length : Int) - 1 - (x1 : Int)).toNat) []).getD 4 (.int 0))).b)), DC.sl 3 [.int] ((((l.getD (((l.length : Int) - 1 - (x1 : Int)).toNat) []).getD 5 (.int 0))).r), DC.sl 3 [.int] ((((l.getD (((l.length : Int) - 1 - (x1 : Int)).toNat) []).getD 6 (.int 0))).r)]] = l05Copy_con.args i4 ∧ l05Copy_con.pre i4 ∧ (((revL p l x1).length + ([[Dat.int (IntKind.i64.wrap (0 - (((l.getD (((l.length : Int) - 1 - (x1 : Int)).toNat) []).getD 0 (.int 0))).n)), Dat.bool i4.x.neg, Dat.sl i4.x.num, Dat.sl i4.x.den, Dat.bool i4.y.neg, Dat.sl i4.y.num, Dat.sl i4.y.den]] : List (List Dat)).length ≤ 1073741824) ∧ (∃ y4 : Nat, (y4 ≤ l.length) ∧ (l.length - y4 < l.length - x1) ∧ ((Value.int .i64 (IntKind.i64.wrap (((l.length : Int) - 1 - (x1 : Int)) - (1 : Int))) = Value.int .i64 ((l.length : Int) - 1 - (y4 : Int))) ∧ (Value.int .i64 p.h = Value.int .i64 p.h) ∧ (Value.bool p.pt.x.neg = Value.bool p.pt.x.neg) ∧ (Value.bool p.pt.y.neg = Value.bool p.pt.y.neg) ∧ (l = l) ∧ (p.pt.x.num = p.pt.x.num) ∧ (p.pt.x.den = p.pt.x.den) ∧ (p.pt.y.num = p.pt.y.num) ∧ (p.pt.y.den = p.pt.y.den) ∧ (((revL p l x1) ++ ([[Dat.int (IntKind.i64.wrap (0 - (((l.getD (((l.length : Int) - 1 - (x1 : Int)).toNat) []).getD 0 (.int 0))).n)), Dat.bool i4.x.neg, Dat.sl i4.x.num, Dat.sl i4.x.den, Dat.bool i4.y.neg, Dat.sl i4.y.num, Dat.sl i4.y.den]] : List (List Dat))) = (revL p l y4)))))))))))))) ∧ ((decide (((l.length : Int) - 1 - (x1 : Int)) ≥ (0 : Int))) = false → (((revL p l x1) = revL p l l.length))))) (by kernel_rfl) ?_
  have hL := hpre.2.1
  -- i1
  refine ⟨⟨0, by
    first | trivial | omega | (simp; omega), ?_⟩, ?_⟩
  · -- the beginning
    refine ⟨?_, ?_⟩
    · -- b3: Value.int .i64 (IntKind.i64.wrap (((l.length : Nat) : Int) - (1 : Int))) = Value.int .i64 ((l.length : Int) - 1 - (0 : Int))
      show Value.int .i64 (IntKind.i64.wrap (((l.length : Nat) : Int) - (1 : Int))) = Value.int .i64 ((l.length : Int) - 1 - (0 : Int))
      first | rfl | exact vint (by rw [wrap64 (by omega) (by omega)]; omega)
    refine ⟨?_, ?_⟩
    · -- b4: Value.int .i64 p.h = Value.int .i64 p.h
      show Value.int .i64 p.h = Value.int .i64 p.h
      first | rfl | exact vint (by rw [wrap64 (by omega) (by omega)]; omega)
    refine ⟨?_, ?_⟩
    · -- b5: Value.bool p.pt.x.neg = Value.bool p.pt.x.neg
      show Value.bool p.pt.x.neg = Value.bool p.pt.x.neg
      first | rfl | exact vint (by rw [wrap64 (by omega) (by omega)]; omega)
    refine ⟨?_, ?_⟩
    · -- b6: Value.bool p.pt.y.neg = Value.bool p.pt.y.neg
      show Value.bool p.pt.y.neg = Value.bool p.pt.y.neg
      first | rfl | exact vint (by rw [wrap64 (by omega) (by omega)]; omega)
    refine ⟨?_, ?_⟩
    · -- b7: l = l
      show l = l
      first | rfl | exact vint (by rw [wrap64 (by omega) (by omega)]; omega)
    refine ⟨?_, ?_⟩
    · -- b8: p.pt.x.num = p.pt.x.num
      show p.pt.x.num = p.pt.x.num
      first | rfl | exact vint (by rw [wrap64 (by omega) (by omega)]; omega)
    refine ⟨?_, ?_⟩
    · -- b9: p.pt.x.den = p.pt.x.den
      show p.pt.x.den = p.pt.x.den
      first | rfl | exact vint (by rw [wrap64 (by omega) (by omega)]; omega)
    refine ⟨?_, ?_⟩
    · -- b10: p.pt.y.num = p.pt.y.num
      show p.pt.y.num = p.pt.y.num
      first | rfl | exact vint (by rw [wrap64 (by omega) (by omega)]; omega)
    refine ⟨?_, ?_⟩
    · -- b11: p.pt.y.den = p.pt.y.den
      show p.pt.y.den = p.pt.y.den
      first | rfl | exact vint (by rw [wrap64 (by omega) (by omega)]; omega)
    -- b12: ([] : List (List Dat)) = (revL p l 0)
    show ([] : List (List Dat)) = (revL p l 0)
    first | rfl | exact vint (by rw [wrap64 (by omega) (by omega)]; omega)
  intro (k : Nat) hki1
  have hki1 : k ≤ l.length := hki1
  have hlen := revL_len p l k
  refine ⟨fun c13 => ?_, fun c13 => ?_⟩
  · -- c13t: (decide (((l.length : Int) - 1 - (k : Int)) ≥ (0 : Int))) = true
    replace c13 : (decide (((l.length : Int) - 1 - (k : Int)) ≥ (0 : Int))) = true := c13
    try simp only [Bool.and_eq_true, Bool.or_eq_true, Bool.and_eq_false_iff, Bool.or_eq_false_iff, decide_eq_true_eq, decide_eq_false_iff_not, Bool.not_eq_true', Bool.not_eq_false', bne_iff_ne, ne_eq, beq_iff_eq, Bool.not_eq_true, Bool.not_eq_false, Int.not_lt, Int.not_le, gt_iff_lt, ge_iff_le, beq_eq_false_iff_ne, bne_eq_false_iff_eq] at c13
    have hi := toNat_sub (n := l.length) (k := k) (by omega)
    have o14 : 0 ≤ ((l.length : Int) - 1 - (k : Int)) ∧ ((l.length : Int) - 1 - (k : Int)) < (l.length : Int) := by
      first | rfl | omega | (simp; done) | (simp; omega)
    refine ⟨o14, ?_⟩
    have o15 : ((l.length : Int) - 1 - (k : Int)).toNat < l.length := by
      first | rfl | omega | (simp; done) | (simp; omega)
    refine ⟨o15, ?_⟩
    -- w16: l22Turn [DA.one (DC.im (Value.int .i64 (((l.getD (((l.length : Int) - 1 - (k : Int)).toNat) []).getD 0 (.int 0))).n))]
    refine ⟨(((l.getD (((l.length : Int) - 1 - (k : Int)).toNat) []).getD 0 (.int 0))).n, by
      rfl, by
      first | trivial | exact hpre | exact hL | exact revL_ok hpre.1 hpre.2 (by omega) | exact afterL_ok hpre.1 hpre.2 _ | exact hpre.2.2 _ (by omega), ?_⟩
    refine ⟨fun c19 => ?_, fun c19 => ?_⟩
    · -- c19t: (!(decide (((((l.getD (((l.length : Int) - 1 - (k : Int)).toNat) []).getD 0 (.int 0))).n) ≥ -1) && decide (((((l.getD (((l.length : Int) - 1 - (k : Int)).toNat) []).getD 0 (.int 0))).n) ≤ 1))) = true
      replace c19 : (!(decide (((((l.getD (((l.length : Int) - 1 - (k : Int)).toNat) []).getD 0 (.int 0))).n) ≥ -1) && decide (((((l.getD (((l.length : Int) - 1 - (k : Int)).toNat) []).getD 0 (.int 0))).n) ≤ 1))) = true := c19
      try simp only [Bool.and_eq_true, Bool.or_eq_true, Bool.and_eq_false_iff, Bool.or_eq_false_iff, decide_eq_true_eq, decide_eq_false_iff_not, Bool.not_eq_true', Bool.not_eq_false', bne_iff_ne, ne_eq, beq_iff_eq, Bool.not_eq_true, Bool.not_eq_false, Int.not_lt, Int.not_le, gt_iff_lt, ge_iff_le, beq_eq_false_iff_ne, bne_eq_false_iff_eq] at c19
      -- n20
      refine ⟨k + 1, by
        first | trivial | omega | (simp; omega), by
        first | omega | (simp; omega), ?_⟩
      refine ⟨?_, ?_⟩
      · -- e23: Value.int .i64 (IntKind.i64.wrap (((l.length : Int) - 1 - (k : Int)) - (1 : Int))) = Value.int .i64 ((l.length : Int) - 1 - ((k + 1) : Int))
        show Value.int .i64 (IntKind.i64.wrap (((l.length : Int) - 1 - (k : Int)) - (1 : Int))) = Value.int .i64 ((l.length : Int) - 1 - ((k + 1) : Int))
        first | rfl | exact vint (by rw [wrap64 (by omega) (by omega)]; omega) | exact rev_none hi (by omega) | exact rev_zero_0 (by omega) hi (by omega) | exact rev_zero_w (by omega) hi (by omega) | exact rev_turn_w (by omega) hi (by omega)
      refine ⟨?_, ?_⟩
      · -- e24: Value.int .i64 p.h = Value.int .i64 p.h
        show Value.int .i64 p.h = Value.int .i64 p.h
        first | rfl | exact vint (by rw [wrap64 (by omega) (by omega)]; omega) | exact rev_none hi (by omega) | exact rev_zero_0 (by omega) hi (by omega) | exact rev_zero_w (by omega) hi (by omega) | exact rev_turn_w (by omega) hi (by omega)
      refine ⟨?_, ?_⟩
      · -- e25: Value.bool p.pt.x.neg = Value.bool p.pt.x.neg
        show Value.bool p.pt.x.neg = Value.bool p.pt.x.neg
        first | rfl | exact vint (by rw [wrap64 (by omega) (by omega)]; omega) | exact rev_none hi (by omega) | exact rev_zero_0 (by omega) hi (by omega) | exact rev_zero_w (by omega) hi (by omega) | exact rev_turn_w (by omega) hi (by omega)
      refine ⟨?_, ?_⟩
      · -- e26: Value.bool p.pt.y.neg = Value.bool p.pt.y.neg
        show Value.bool p.pt.y.neg = Value.bool p.pt.y.neg
        first | rfl | exact vint (by rw [wrap64 (by omega) (by omega)]; omega) | exact rev_none hi (by omega) | exact rev_zero_0 (by omega) hi (by omega) | exact rev_zero_w (by omega) hi (by omega) | exact rev_turn_w (by omega) hi (by omega)
      refine ⟨?_, ?_⟩
      · -- e27: l = l
        show l = l
        first | rfl | exact vint (by rw [wrap64 (by omega) (by omega)]; omega) | exact rev_none hi (by omega) | exact rev_zero_0 (by omega) hi (by omega) | exact rev_zero_w (by omega) hi (by omega) | exact rev_turn_w (by omega) hi (by omega)
      refine ⟨?_, ?_⟩
      · -- e28: p.pt.x.num = p.pt.x.num
        show p.pt.x.num = p.pt.x.num
        first | rfl | exact vint (by rw [wrap64 (by omega) (by omega)]; omega) | exact rev_none hi (by omega) | exact rev_zero_0 (by omega) hi (by omega) | exact rev_zero_w (by omega) hi (by omega) | exact rev_turn_w (by omega) hi (by omega)
      refine ⟨?_, ?_⟩
      · -- e29: p.pt.x.den = p.pt.x.den
        show p.pt.x.den = p.pt.x.den
        first | rfl | exact vint (by rw [wrap64 (by omega) (by omega)]; omega) | exact rev_none hi (by omega) | exact rev_zero_0 (by omega) hi (by omega) | exact rev_zero_w (by omega) hi (by omega) | exact rev_turn_w (by omega) hi (by omega)
      refine ⟨?_, ?_⟩
      · -- e30: p.pt.y.num = p.pt.y.num
        show p.pt.y.num = p.pt.y.num
        first | rfl | exact vint (by rw [wrap64 (by omega) (by omega)]; omega) | exact rev_none hi (by omega) | exact rev_zero_0 (by omega) hi (by omega) | exact rev_zero_w (by omega) hi (by omega) | exact rev_turn_w (by omega) hi (by omega)
      refine ⟨?_, ?_⟩
      · -- e31: p.pt.y.den = p.pt.y.den
        show p.pt.y.den = p.pt.y.den
        first | rfl | exact vint (by rw [wrap64 (by omega) (by omega)]; omega) | exact rev_none hi (by omega) | exact rev_zero_0 (by omega) hi (by omega) | exact rev_zero_w (by omega) hi (by omega) | exact rev_turn_w (by omega) hi (by omega)
      -- e32: (revL p l k) = (revL p l (k + 1))
      show (revL p l k) = (revL p l (k + 1))
      first | rfl | exact vint (by rw [wrap64 (by omega) (by omega)]; omega) | exact rev_none hi (by omega) | exact rev_zero_0 (by omega) hi (by omega) | exact rev_zero_w (by omega) hi (by omega) | exact rev_turn_w (by omega) hi (by omega)
    · -- c19f: (!(decide (((((l.getD (((l.length : Int) - 1 - (k : Int)).toNat) []).getD 0 (.int 0))).n) ≥ -1) && decide (((((l.getD (((l.length : Int) - 1 - (k : Int)).toNat) []).getD 0 (.int 0))).n) ≤ 1))) = false
      replace c19 : (!(decide (((((l.getD (((l.length : Int) - 1 - (k : Int)).toNat) []).getD 0 (.int 0))).n) ≥ -1) && decide (((((l.getD (((l.length : Int) - 1 - (k : Int)).toNat) []).getD 0 (.int 0))).n) ≤ 1))) = false := c19
      try simp only [Bool.and_eq_true, Bool.or_eq_true, Bool.and_eq_false_iff, Bool.or_eq_false_iff, decide_eq_true_eq, decide_eq_false_iff_not, Bool.not_eq_true', Bool.not_eq_false', bne_iff_ne, ne_eq, beq_iff_eq, Bool.not_eq_true, Bool.not_eq_false, Int.not_lt, Int.not_le, gt_iff_lt, ge_iff_le, beq_eq_false_iff_ne, bne_eq_false_iff_eq] at c19
      refine ⟨fun c33 => ?_, fun c33 => ?_⟩
      · -- c33t: ((((l.getD (((l.length : Int) - 1 - (k : Int)).toNat) []).getD 0 (.int 0))).n == (0 : Int)) = true
        replace c33 : ((((l.getD (((l.length : Int) - 1 - (k : Int)).toNat) []).getD 0 (.int 0))).n == (0 : Int)) = true := c33
        try simp only [Bool.and_eq_true, Bool.or_eq_true, Bool.and_eq_false_iff, Bool.or_eq_false_iff, decide_eq_true_eq, decide_eq_false_iff_not, Bool.not_eq_true', Bool.not_eq_false', bne_iff_ne, ne_eq, beq_iff_eq, Bool.not_eq_true, Bool.not_eq_false, Int.not_lt, Int.not_le, gt_iff_lt, ge_iff_le, beq_eq_false_iff_ne, bne_eq_false_iff_eq] at c33
        -- w34: sPlacementAfter [DA.agg [DC.im (Value.int .i64 p.h), DC.im (Value.bool p.pt.x.neg), DC.sl 3 [.int] p.pt.x.num, DC.sl 3 [.int] p.pt.x.den, DC.im (Value.bool p.pt.y.neg), DC.sl 3 [.int] p.pt.y.num, DC.sl 3 [.int] p.pt.y.den], DA.one (DC.sl 104 [.int, .bool, .sl 3 [.int], .sl 3 [.int], .bool, .sl 3 [.int], .sl 3 [.int
        refine ⟨(p, l, ((l.length : Int) - 1 - (k : Int))), by
          rfl, by
          show p.ok ∧ stepsOk l
          first | trivial | exact hpre | exact hL | exact revL_ok hpre.1 hpre.2 (by omega) | exact afterL_ok hpre.1 hpre.2 _ | exact hpre.2.2 _ (by omega), ?_⟩
        -- w37: l05Copy [DA.agg [DC.im (Value.bool ((afterL p l ((l.length : Int) - 1 - (k : Int)).toNat).pt.x.neg)), DC.sl 3 [.int] ((afterL p l ((l.length : Int) - 1 - (k : Int)).toNat).pt.x.num), DC.sl 3 [.int] ((afterL p l ((l.length : Int) - 1 - (k : Int)).toNat).pt.x.den), DC.im (Value.bool ((afterL p l ((l.length : 
        refine ⟨(afterL p l ((l.length : Int) - 1 - (k : Int)).toNat).pt, by
          rfl, by
          show ((afterL p l ((l.length : Int) - 1 - (k : Int)).toNat).pt).ok
          first | trivial | exact hpre | exact hL | exact revL_ok hpre.1 hpre.2 (by omega) | exact afterL_ok hpre.1 hpre.2 _ | exact hpre.2.2 _ (by omega), ?_⟩
        have o40 : (revL p l k).length + ([[Dat.int (IntKind.i64.wrap (0 - (((l.getD (((l.length : Int) - 1 - (k : Int)).toNat) []).getD 0 (.int 0))).n)), Dat.bool ((afterL p l ((l.length : Int) - 1 - (k : Int)).toNat).pt).x.neg, Dat.sl ((afterL p l ((l.length : Int) - 1 - (k : Int)).toNat).pt).x.num, Dat.sl ((afterL p l ((l.length : Int) - 1 - (k : Int)).toNat).pt).x.den, Dat.bool ((afterL p l ((l.length : Int) - 1 - (k : Int)).toNat).pt).y.neg, Dat.sl ((afterL p l ((l.length : Int) - 1 - (k : Int)).toNat).pt).y.num, Dat.sl ((afterL p l ((l.length : Int) - 1 - (k : Int)).toNat).pt).y.den]] : List (List Dat)).length ≤ 1073741824 := by
          first | rfl | omega | (simp; done) | (simp; omega)
        refine ⟨o40, ?_⟩
        -- n41
        refine ⟨k + 1, by
          first | trivial | omega | (simp; omega), by
          first | omega | (simp; omega), ?_⟩
        refine ⟨?_, ?_⟩
        · -- e44: Value.int .i64 (IntKind.i64.wrap (((l.length : Int) - 1 - (k : Int)) - (1 : Int))) = Value.int .i64 ((l.length : Int) - 1 - ((k + 1) : Int))
          show Value.int .i64 (IntKind.i64.wrap (((l.length : Int) - 1 - (k : Int)) - (1 : Int))) = Value.int .i64 ((l.length : Int) - 1 - ((k + 1) : Int))
          first | rfl | exact vint (by rw [wrap64 (by omega) (by omega)]; omega) | exact rev_none hi (by omega) | exact rev_zero_0 (by omega) hi (by omega) | exact rev_zero_w (by omega) hi (by omega) | exact rev_turn_w (by omega) hi (by omega)
        refine ⟨?_, ?_⟩
        · -- e45: Value.int .i64 p.h = Value.int .i64 p.h
          show Value.int .i64 p.h = Value.int .i64 p.h
          first | rfl | exact vint (by rw [wrap64 (by omega) (by omega)]; omega) | exact rev_none hi (by omega) | exact rev_zero_0 (by omega) hi (by omega) | exact rev_zero_w (by omega) hi (by omega) | exact rev_turn_w (by omega) hi (by omega)
        refine ⟨?_, ?_⟩
        · -- e46: Value.bool p.pt.x.neg = Value.bool p.pt.x.neg
          show Value.bool p.pt.x.neg = Value.bool p.pt.x.neg
          first | rfl | exact vint (by rw [wrap64 (by omega) (by omega)]; omega) | exact rev_none hi (by omega) | exact rev_zero_0 (by omega) hi (by omega) | exact rev_zero_w (by omega) hi (by omega) | exact rev_turn_w (by omega) hi (by omega)
        refine ⟨?_, ?_⟩
        · -- e47: Value.bool p.pt.y.neg = Value.bool p.pt.y.neg
          show Value.bool p.pt.y.neg = Value.bool p.pt.y.neg
          first | rfl | exact vint (by rw [wrap64 (by omega) (by omega)]; omega) | exact rev_none hi (by omega) | exact rev_zero_0 (by omega) hi (by omega) | exact rev_zero_w (by omega) hi (by omega) | exact rev_turn_w (by omega) hi (by omega)
        refine ⟨?_, ?_⟩
        · -- e48: l = l
          show l = l
          first | rfl | exact vint (by rw [wrap64 (by omega) (by omega)]; omega) | exact rev_none hi (by omega) | exact rev_zero_0 (by omega) hi (by omega) | exact rev_zero_w (by omega) hi (by omega) | exact rev_turn_w (by omega) hi (by omega)
        refine ⟨?_, ?_⟩
        · -- e49: p.pt.x.num = p.pt.x.num
          show p.pt.x.num = p.pt.x.num
          first | rfl | exact vint (by rw [wrap64 (by omega) (by omega)]; omega) | exact rev_none hi (by omega) | exact rev_zero_0 (by omega) hi (by omega) | exact rev_zero_w (by omega) hi (by omega) | exact rev_turn_w (by omega) hi (by omega)
        refine ⟨?_, ?_⟩
        · -- e50: p.pt.x.den = p.pt.x.den
          show p.pt.x.den = p.pt.x.den
          first | rfl | exact vint (by rw [wrap64 (by omega) (by omega)]; omega) | exact rev_none hi (by omega) | exact rev_zero_0 (by omega) hi (by omega) | exact rev_zero_w (by omega) hi (by omega) | exact rev_turn_w (by omega) hi (by omega)
        refine ⟨?_, ?_⟩
        · -- e51: p.pt.y.num = p.pt.y.num
          show p.pt.y.num = p.pt.y.num
          first | rfl | exact vint (by rw [wrap64 (by omega) (by omega)]; omega) | exact rev_none hi (by omega) | exact rev_zero_0 (by omega) hi (by omega) | exact rev_zero_w (by omega) hi (by omega) | exact rev_turn_w (by omega) hi (by omega)
        refine ⟨?_, ?_⟩
        · -- e52: p.pt.y.den = p.pt.y.den
          show p.pt.y.den = p.pt.y.den
          first | rfl | exact vint (by rw [wrap64 (by omega) (by omega)]; omega) | exact rev_none hi (by omega) | exact rev_zero_0 (by omega) hi (by omega) | exact rev_zero_w (by omega) hi (by omega) | exact rev_turn_w (by omega) hi (by omega)
        -- e53: ((revL p l k) ++ ([[Dat.int (IntKind.i64.wrap (0 - (((l.getD (((l.length : Int) - 1 - (k : Int)).toNat) []).getD 0 (.int 0))).n)), Dat.bool ((afterL p l ((l.length : Int) - 1 - (k : Int)).toNat).pt).x.neg, Dat.sl ((afterL p l ((l.length : Int) - 1 - (k : Int)).toNat).pt).x.num, Dat.sl ((afterL p l ((l.length : Int) - 1 - (k : Int)).toNat).pt).x.den, Dat.bool ((afterL p l ((l.length : Int) - 1 - (k
        show ((revL p l k) ++ ([[Dat.int (IntKind.i64.wrap (0 - (((l.getD (((l.length : Int) - 1 - (k : Int)).toNat) []).getD 0 (.int 0))).n)), Dat.bool ((afterL p l ((l.length : Int) - 1 - (k : Int)).toNat).pt).x.neg, Dat.sl ((afterL p l ((l.length : Int) - 1 - (k : Int)).toNat).pt).x.num, Dat.sl ((afterL p l ((l.length : Int) - 1 - (k : Int)).toNat).pt).x.den, Dat.bool ((afterL p l ((l.length : Int) - 1 - (k : Int)).toNat).pt).y.neg, Dat.sl ((afterL p l ((l.length : Int) - 1 - (k : Int)).toNat).pt).y.num, Dat.sl ((afterL p l ((l.length : Int) - 1 - (k : Int)).toNat).pt).y.den]] : List (List Dat))) = (revL p l (k + 1))
        first | rfl | exact vint (by rw [wrap64 (by omega) (by omega)]; omega) | exact rev_none hi (by omega) | exact rev_zero_0 (by omega) hi (by omega) | exact rev_zero_w (by omega) hi (by omega) | exact rev_turn_w (by omega) hi (by omega)
      · -- c33f: ((((l.getD (((l.length : Int) - 1 - (k : Int)).toNat) []).getD 0 (.int 0))).n == (0 : Int)) = false
        replace c33 : ((((l.getD (((l.length : Int) - 1 - (k : Int)).toNat) []).getD 0 (.int 0))).n == (0 : Int)) = false := c33
        try simp only [Bool.and_eq_true, Bool.or_eq_true, Bool.and_eq_false_iff, Bool.or_eq_false_iff, decide_eq_true_eq, decide_eq_false_iff_not, Bool.not_eq_true', Bool.not_eq_false', bne_iff_ne, ne_eq, beq_iff_eq, Bool.not_eq_true, Bool.not_eq_false, Int.not_lt, Int.not_le, gt_iff_lt, ge_iff_le, beq_eq_false_iff_ne, bne_eq_false_iff_eq] at c33
        -- w54: l05Copy [DA.agg [DC.im (Value.bool ((((l.getD (((l.length : Int) - 1 - (k : Int)).toNat) []).getD 1 (.int 0))).b)), DC.sl 3 [.int] ((((l.getD (((l.length : Int) - 1 - (k : Int)).toNat) []).getD 2 (.int 0))).r), DC.sl 3 [.int] ((((l.getD (((l.length : Int) - 1 - (k : Int)).toNat) []).getD 3 (.int 0))).r), DC
        refine ⟨(plOf (l.getD ((l.length : Int) - 1 - (k : Int)).toNat [])).pt, by
          rfl, by
          show ((plOf (l.getD ((l.length : Int) - 1 - (k : Int)).toNat [])).pt).ok
          first | trivial | exact hpre | exact hL | exact revL_ok hpre.1 hpre.2 (by omega) | exact afterL_ok hpre.1 hpre.2 _ | exact hpre.2.2 _ (by omega), ?_⟩
        have o57 : (revL p l k).length + ([[Dat.int (IntKind.i64.wrap (0 - (((l.getD (((l.length : Int) - 1 - (k : Int)).toNat) []).getD 0 (.int 0))).n)), Dat.bool ((plOf (l.getD ((l.length : Int) - 1 - (k : Int)).toNat [])).pt).x.neg, Dat.sl ((plOf (l.getD ((l.length : Int) - 1 - (k : Int)).toNat [])).pt).x.num, Dat.sl ((plOf (l.getD ((l.length : Int) - 1 - (k : Int)).toNat [])).pt).x.den, Dat.bool ((plOf (l.getD ((l.length : Int) - 1 - (k : Int)).toNat [])).pt).y.neg, Dat.sl ((plOf (l.getD ((l.length : Int) - 1 - (k : Int)).toNat [])).pt).y.num, Dat.sl ((plOf (l.getD ((l.length : Int) - 1 - (k : Int)).toNat [])).pt).y.den]] : List (List Dat)).length ≤ 1073741824 := by
          first | rfl | omega | (simp; done) | (simp; omega)
        refine ⟨o57, ?_⟩
        -- n58
        refine ⟨k + 1, by
          first | trivial | omega | (simp; omega), by
          first | omega | (simp; omega), ?_⟩
        refine ⟨?_, ?_⟩
        · -- e61: Value.int .i64 (IntKind.i64.wrap (((l.length : Int) - 1 - (k : Int)) - (1 : Int))) = Value.int .i64 ((l.length : Int) - 1 - ((k + 1) : Int))
          show Value.int .i64 (IntKind.i64.wrap (((l.length : Int) - 1 - (k : Int)) - (1 : Int))) = Value.int .i64 ((l.length : Int) - 1 - ((k + 1) : Int))
          first | rfl | exact vint (by rw [wrap64 (by omega) (by omega)]; omega) | exact rev_none hi (by omega) | exact rev_zero_0 (by omega) hi (by omega) | exact rev_zero_w (by omega) hi (by omega) | exact rev_turn_w (by omega) hi (by omega)
        refine ⟨?_, ?_⟩
        · -- e62: Value.int .i64 p.h = Value.int .i64 p.h
          show Value.int .i64 p.h = Value.int .i64 p.h
          first | rfl | exact vint (by rw [wrap64 (by omega) (by omega)]; omega) | exact rev_none hi (by omega) | exact rev_zero_0 (by omega) hi (by omega) | exact rev_zero_w (by omega) hi (by omega) | exact rev_turn_w (by omega) hi (by omega)
        refine ⟨?_, ?_⟩
        · -- e63: Value.bool p.pt.x.neg = Value.bool p.pt.x.neg
          show Value.bool p.pt.x.neg = Value.bool p.pt.x.neg
          first | rfl | exact vint (by rw [wrap64 (by omega) (by omega)]; omega) | exact rev_none hi (by omega) | exact rev_zero_0 (by omega) hi (by omega) | exact rev_zero_w (by omega) hi (by omega) | exact rev_turn_w (by omega) hi (by omega)
        refine ⟨?_, ?_⟩
        · -- e64: Value.bool p.pt.y.neg = Value.bool p.pt.y.neg
          show Value.bool p.pt.y.neg = Value.bool p.pt.y.neg
          first | rfl | exact vint (by rw [wrap64 (by omega) (by omega)]; omega) | exact rev_none hi (by omega) | exact rev_zero_0 (by omega) hi (by omega) | exact rev_zero_w (by omega) hi (by omega) | exact rev_turn_w (by omega) hi (by omega)
        refine ⟨?_, ?_⟩
        · -- e65: l = l
          show l = l
          first | rfl | exact vint (by rw [wrap64 (by omega) (by omega)]; omega) | exact rev_none hi (by omega) | exact rev_zero_0 (by omega) hi (by omega) | exact rev_zero_w (by omega) hi (by omega) | exact rev_turn_w (by omega) hi (by omega)
        refine ⟨?_, ?_⟩
        · -- e66: p.pt.x.num = p.pt.x.num
          show p.pt.x.num = p.pt.x.num
          first | rfl | exact vint (by rw [wrap64 (by omega) (by omega)]; omega) | exact rev_none hi (by omega) | exact rev_zero_0 (by omega) hi (by omega) | exact rev_zero_w (by omega) hi (by omega) | exact rev_turn_w (by omega) hi (by omega)
        refine ⟨?_, ?_⟩
        · -- e67: p.pt.x.den = p.pt.x.den
          show p.pt.x.den = p.pt.x.den
          first | rfl | exact vint (by rw [wrap64 (by omega) (by omega)]; omega) | exact rev_none hi (by omega) | exact rev_zero_0 (by omega) hi (by omega) | exact rev_zero_w (by omega) hi (by omega) | exact rev_turn_w (by omega) hi (by omega)
        refine ⟨?_, ?_⟩
        · -- e68: p.pt.y.num = p.pt.y.num
          show p.pt.y.num = p.pt.y.num
          first | rfl | exact vint (by rw [wrap64 (by omega) (by omega)]; omega) | exact rev_none hi (by omega) | exact rev_zero_0 (by omega) hi (by omega) | exact rev_zero_w (by omega) hi (by omega) | exact rev_turn_w (by omega) hi (by omega)
        refine ⟨?_, ?_⟩
        · -- e69: p.pt.y.den = p.pt.y.den
          show p.pt.y.den = p.pt.y.den
          first | rfl | exact vint (by rw [wrap64 (by omega) (by omega)]; omega) | exact rev_none hi (by omega) | exact rev_zero_0 (by omega) hi (by omega) | exact rev_zero_w (by omega) hi (by omega) | exact rev_turn_w (by omega) hi (by omega)
        -- e70: ((revL p l k) ++ ([[Dat.int (IntKind.i64.wrap (0 - (((l.getD (((l.length : Int) - 1 - (k : Int)).toNat) []).getD 0 (.int 0))).n)), Dat.bool ((plOf (l.getD ((l.length : Int) - 1 - (k : Int)).toNat [])).pt).x.neg, Dat.sl ((plOf (l.getD ((l.length : Int) - 1 - (k : Int)).toNat [])).pt).x.num, Dat.sl ((plOf (l.getD ((l.length : Int) - 1 - (k : Int)).toNat [])).pt).x.den, Dat.bool ((plOf (l.getD ((l.le
        show ((revL p l k) ++ ([[Dat.int (IntKind.i64.wrap (0 - (((l.getD (((l.length : Int) - 1 - (k : Int)).toNat) []).getD 0 (.int 0))).n)), Dat.bool ((plOf (l.getD ((l.length : Int) - 1 - (k : Int)).toNat [])).pt).x.neg, Dat.sl ((plOf (l.getD ((l.length : Int) - 1 - (k : Int)).toNat [])).pt).x.num, Dat.sl ((plOf (l.getD ((l.length : Int) - 1 - (k : Int)).toNat [])).pt).x.den, Dat.bool ((plOf (l.getD ((l.length : Int) - 1 - (k : Int)).toNat [])).pt).y.neg, Dat.sl ((plOf (l.getD ((l.length : Int) - 1 - (k : Int)).toNat [])).pt).y.num, Dat.sl ((plOf (l.getD ((l.length : Int) - 1 - (k : Int)).toNat [])).pt).y.den]] : List (List Dat))) = (revL p l (k + 1))
        first | rfl | exact vint (by rw [wrap64 (by omega) (by omega)]; omega) | exact rev_none hi (by omega) | exact rev_zero_0 (by omega) hi (by omega) | exact rev_zero_w (by omega) hi (by omega) | exact rev_turn_w (by omega) hi (by omega)
  · -- c13f: (decide (((l.length : Int) - 1 - (k : Int)) ≥ (0 : Int))) = false
    replace c13 : (decide (((l.length : Int) - 1 - (k : Int)) ≥ (0 : Int))) = false := c13
    try simp only [Bool.and_eq_true, Bool.or_eq_true, Bool.and_eq_false_iff, Bool.or_eq_false_iff, decide_eq_true_eq, decide_eq_false_iff_not, Bool.not_eq_true', Bool.not_eq_false', bne_iff_ne, ne_eq, beq_iff_eq, Bool.not_eq_true, Bool.not_eq_false, Int.not_lt, Int.not_le, gt_iff_lt, ge_iff_le, beq_eq_false_iff_ne, bne_eq_false_iff_eq] at c13
    -- l71: (revL p l k) = revL p l l.length
    show (revL p l k) = revL p l l.length
    first | (rw [show k = l.length by omega]; done) | (rw [show k = l.length by omega]; exact copyL_revL (Nat.le_refl _))
end Go.Proofs.Ytemgpfojmdncjaa
