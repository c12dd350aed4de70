import Derived.Test.YtaleabdmgaeipaaBaRkSu
import Derived.Test.YtaleabdmgaeipaaBaRobN
namespace Go.Proofs.Ytaleabdmgaeipaa
set_option linter.unusedVariables false
set_option linter.unusedSimpArgs false
open Go.RowKit
def iValid_con : Con := { ι := Scn, pre := fun i => True, args := fun i => [.agg [.im (.int .i64 i.low.1), .im (.int .i64 i.low.2), .im (.int .i64 i.high.1), .im (.int .i64 i.high.2), .sl 40 [.int, .int] (vecsD i.robot), .sl 24 [.sl 40 [.int, .int]] (areasD i.obst), .sl 40 [.int, .int] (vecsD i.tables)]], res := fun i => ⟨false, [none], [.im (Value.bool (validScn i))]⟩ }
theorem iValid_ok : iValid_con.Ok Try.prog 59 := genOwn_ok rfl ⟨_, Try.func59, by decide, rfl⟩ (fun _ => Nat.le_of_ble_eq_true rfl) (fun _ => rfl) (fun s => [.im (.bool (validScn s))]) (fun _ => rfl) (fun _ => rfl) (fun i hp w us h => by
  have h : RdRow w [.int, .int, .int, .int, .sl 40 [.int, .int], .sl 24 [.sl 40 [.int, .int]], .sl 40 [.int, .int]] (scnD i) us := h
  have hl := (RdRow.lens _ _ _ h).2
  rw [show valD (iValid_con.args i) us = [.agg us.toArray] from valD_one_agg hl]
  refine (IsValidScene_c i _ w (RdRow.scene h)).mono ?_
  rintro e w' ⟨rfl, hb⟩
  exact ⟨[.bool (validScn i)], rfl, Own.leaf (Fp.mk_bool _), hb⟩)
def sValid_con : Con := { ι := Scn, pre := fun i => True, args := fun i => [.agg [.im (.int .i64 i.low.1), .im (.int .i64 i.low.2), .im (.int .i64 i.high.1), .im (.int .i64 i.high.2), .sl 40 [.int, .int] (vecsD i.robot), .sl 24 [.sl 40 [.int, .int]] (areasD i.obst), .sl 40 [.int, .int] (vecsD i.tables)]], res := fun i => ⟨false, [none], [.im (Value.bool (validScn i))]⟩ }
theorem sValid_ok : sValid_con.Ok Try.prog 57 := genOwn_ok rfl ⟨_, Try.func57, by decide, rfl⟩ (fun _ => Nat.le_of_ble_eq_true rfl) (fun _ => rfl) (fun s => [.im (.bool (validScn s))]) (fun _ => rfl) (fun _ => rfl) (fun i hp w us h => by
  have h : RdRow w [.int, .int, .int, .int, .sl 40 [.int, .int], .sl 24 [.sl 40 [.int, .int]], .sl 40 [.int, .int]] (scnD i) us := h
  have hl := (RdRow.lens _ _ _ h).2
  rw [show valD (sValid_con.args i) us = [.agg us.toArray] from valD_one_agg hl]
  refine (sIsValidScene_c i _ w (RdRow.scene h)).mono ?_
  rintro e w' ⟨rfl, hb⟩
  exact ⟨[.bool (validScn i)], rfl, Own.leaf (Fp.mk_bool _), hb⟩)
theorem isPoly_len {l : List V2} (h : isPoly l = true) : 3 ≤ l.length ∧ l.length ≤ 16 ∧ l.all isVec = true := poly_len h
theorem rotN_vec {v : V2} (h : isVec v = true) (k : Nat) : isVec (rotN k v) = true := insB_rotN h k
theorem turnPoly_len (l : List V2) (k : Nat) : (turnPoly l k).length = l.length := by simp [turnPoly]
theorem turnPoly_snoc {l : List V2} {k n : Nat} (hk : k < l.length) : vecsD (turnPoly (l.take k) n) ++ [[.int (rotN n (l.getD k (0, 0))).1, .int (rotN n (l.getD k (0, 0))).2]] = vecsD (turnPoly (l.take (k + 1)) n) := by
  rw [take_snoc' l (0, 0) k hk]
  simp [turnPoly, vecsD, vecD]
theorem head_rem {k : Int} (h0 : 0 ≤ k) (h1 : k ≤ 3) : IntKind.i64.wrap (Int.tmod k 4) = k ∧ Int.tmod k 4 = k := by
  have : k = 0 ∨ k = 1 ∨ k = 2 ∨ k = 3 := by omega
  rcases this with rfl | rfl | rfl | rfl <;> exact ⟨rfl, rfl⟩
theorem head_rem2 {k : Int} (h0 : 0 ≤ k) (h1 : k ≤ 3) : Int.tmod (IntKind.i64.wrap (Int.tmod k 4 + 4)) 4 = k := by
  have : k = 0 ∨ k = 1 ∨ k = 2 ∨ k = 3 := by omega
  rcases this with rfl | rfl | rfl | rfl <;> rfl
def robotAt (s : Scn) (h : Int) : List V2 := if validScn s = true ∧ 0 ≤ h ∧ h ≤ 3 then turnPoly s.robot h.toNat else []
theorem robotAt_yes {s : Scn} {h : Int} (h1 : validScn s = true) (h2 : 0 ≤ h ∧ h ≤ 3) : robotAt s h = turnPoly s.robot h.toNat := by unfold robotAt; rw [if_pos ⟨h1, h2⟩]
theorem robotAt_no {s : Scn} {h : Int} (h1 : validScn s = false ∨ ¬ (0 ≤ h ∧ h ≤ 3)) : robotAt s h = [] := by
  unfold robotAt
  rw [if_neg]
  rintro ⟨a, b⟩
  rcases h1 with h1 | h1
  · rw [h1] at a; cases a
  · exact h1 b
theorem scn_robot {s : Scn} (h : validScn s = true) : isPoly s.robot = true := by
  simp only [validScn, shape, Bool.and_eq_true] at h
  exact h.1.2.1.1
theorem robotAt_vec (s : Scn) (h : Int) : (robotAt s h).all isVec = true ∧ (robotAt s h).length ≤ 16 := by
  unfold robotAt
  split
  · next hv =>
    have hp := isPoly_len (scn_robot hv.1)
    rw [turnPoly_len]
    refine ⟨?_, hp.2.1⟩
    rw [List.all_eq_true]
    intro x hx
    simp only [turnPoly, List.mem_map] at hx
    obtain ⟨y, hy, rfl⟩ := hx
    exact rotN_vec (List.all_eq_true.1 hp.2.2 y hy) _
  · exact ⟨rfl, Nat.zero_le _⟩
theorem robotAt_ne {s : Scn} {h : Int} (h1 : validScn s = true) (h2 : 0 ≤ h ∧ h ≤ 3) : robotAt s h ≠ [] := by
  rw [robotAt_yes h1 h2]
  intro e
  have hp := isPoly_len (scn_robot h1)
  have := turnPoly_len s.robot h.toNat
  rw [e, List.length_nil] at this
  omega
def isHeading_con : Con := { ι := Int, pre := fun i => True, args := fun i => [.one (.im (.int .i64 i))], res := fun i => ⟨false, [none], [.im (Value.bool (decide (i ≥ 0) && decide (i ≤ 3)))]⟩ }
set_option maxRecDepth 100000 in
theorem isHeading_ok : isHeading_con.Ok Try.prog 60 := by
  refine fn_ok (X := ⟨tt, [(56, within_con)], [], 5⟩) mixed tt_ok (CTok.cons within_ok (CTok.nil _)) Try.func60 (by decide) rfl rfl rfl (fun _ => Nat.le_of_ble_eq_true rfl) (fun _ => Nat.le_of_ble_eq_true rfl) (fun _ => []) ?_
  intro (n : Int) hpre
  have hpre : True := hpre
  refine by_nf (q := ∃ i1 : Int × Int × Int, [DA.one (cI n), DA.one (cI (0 : Int)), DA.one (cI (3 : Int))] = within_con.args i1 ∧ within_con.pre i1 ∧ ((Value.bool (decide (i1.1 ≥ i1.2.1) && decide (i1.1 ≤ i1.2.2)) = Value.bool (decide (n ≥ 0) && decide (n ≤ 3))))) (by kernel_rfl) ?_
  refine ⟨(n, (0 : Int), (3 : Int)), by
    rfl, by
    first | trivial | (first | omega | assumption | exact hpre.1 | exact hpre.2 | (simp; done)), ?_⟩
  show Value.bool (decide (n ≥ (0 : Int)) && decide (n ≤ (3 : Int))) = Value.bool (decide (n ≥ 0) && decide (n ≤ 3))
  rfl
def iTurnVec_con : Con := { ι := Int × Int × Int, pre := fun i => (0 ≤ i.2.2 ∧ i.2.2 ≤ 3) ∧ True ∧ isVec (i.1, i.2.1) = true, args := fun i => [.agg [.im (.int .i64 i.1), .im (.int .i64 i.2.1)], .one (.im (.int .i64 i.2.2))], res := fun i => ⟨false, [some 2], [.im (Value.int .i64 ((rotN i.2.2.toNat (i.1, i.2.1)).1)), .im (Value.int .i64 ((rotN i.2.2.toNat (i.1, i.2.1)).2))]⟩ }
set_option maxRecDepth 100000 in
theorem iTurnVec_ok : iTurnVec_con.Ok Try.prog 80 := by
  refine fn_ok (X := ⟨tt, [], [], 19⟩) mixed tt_ok (CTok.nil _) Try.func80 (by decide) rfl rfl rfl (fun _ => Nat.le_of_ble_eq_true rfl) (fun _ => Nat.le_of_ble_eq_true rfl) (fun (i : Int × Int × Int) => [(2, .mk 3 (Nat) (fun x1 => { tm := [(2, .one (.one (.bp 1 0))), (4, .one (.one (.bp 2 0))), (9, .one (.one (.im (Value.int .i64 ((x1 : Nat) : Int))))), (8, .one (.one (.im (Value.int .i64 i.2.2))))], en := [(1, .box [.im (Value.int .i64 ((rotN x1 (i.1, i.2.1)).1)), .im (Value.int .i64 ((rotN x1 (i.1, i.2.1)).2))]), (2, .box [.im (Value.int .i64 (0 : Int)), .im (Value.int .i64 (0 : Int))])] }) (fun x1 => x1 ≤ i.2.2.toNat) (fun x1 => i.2.2.toNat - x1) (fun _ => []))]) ?_
  rintro ⟨x, y, k⟩ hpre
  have hpre : (0 ≤ k ∧ k ≤ 3) ∧ True ∧ isVec (x, y) = true := hpre
  refine by_nf (q := ((4 : Int) ≠ 0) ∧ (((4 : Int) ≠ 0) ∧ ((∃ x1 : Nat, (x1 ≤ k.toNat) ∧ ((Value.int .i64 (0 : Int) = Value.int .i64 ((x1 : Nat) : Int)) ∧ (Value.int .i64 (Int.tmod (IntKind.i64.wrap ((Int.tmod k (4 : Int)) + (4 : Int))) (4 : Int)) = Value.int .i64 k) ∧ (Value.int .i64 x = Value.int .i64 ((rotN x1 (x, y)).1)) ∧ (Value.int .i64 y = Value.int .i64 ((rotN x1 (x, y)).2)) ∧ (rf (Value.int .i64 (0 : Int))) ∧ (rf (Value.int .i64 (0 : Int))))) ∧ ∀ x1 : Nat, (x1 ≤ k.toNat) → (((decide (((x1 : Nat) : Int) < k)) = true → (∃ y2 : Nat, (y2 ≤ k.toNat) ∧ (k.toNat - y2 < k.toNat - x1) ∧ ((Value.int .i64 (IntKind.i64.wrap (((x1 : Nat) : Int) + (1 : Int))) = Value.int .i64 ((y2 : Nat) : Int)) ∧ (rf (Value.int .i64 k)) ∧ (Value.int .i64 (IntKind.i64.wrap (0 - ((rotN x1 (x, y)).2))) = Value.int .i64 ((rotN y2 (x, y)).1)) ∧ (Value.int .i64 ((rotN x1 (x, y)).1) = Value.int .i64 ((rotN y2 (x, y)).2)) ∧ (rf (Value.int .i64 (0 : Int))) ∧ (rf (Value.int .i64 (0 : Int)))))) ∧ ((decide (((x1 : Nat) : Int) < k)) = false → ((Value.int .i64 ((rotN x1 (x, y)).1) = Value.int .i64 ((rotN k.toNat (x, y)).1)) ∧ (Value.int .i64 ((rotN x1 (x, y)).2) = Value.int .i64 ((rotN k.toNat (x, y)).2)))))))) (by kernel_rfl) ?_
  have hq := fun j => isVec_bd (rotN_vec hpre.2.2 j)
  have hw := head_rem2 hpre.1.1 hpre.1.2
  have o1 : (4 : Int) ≠ 0 := by
    first | rfl | omega | (simp; done) | (simp; omega)
  refine ⟨o1, ?_⟩
  have o2 : (4 : Int) ≠ 0 := by
    first | rfl | omega | (simp; done) | (simp; omega)
  refine ⟨o2, ?_⟩
  refine ⟨⟨0, by
    first | trivial | omega | (simp; omega), ?_⟩, ?_⟩
  · skip
    refine ⟨?_, ?_, ?_, ?_, rfl, rfl⟩
    · show Value.int .i64 (0 : Int) = Value.int .i64 ((0 : Nat) : Int)
      first | rfl | (rw [hw])
    · show Value.int .i64 (Int.tmod (IntKind.i64.wrap ((Int.tmod k (4 : Int)) + (4 : Int))) (4 : Int)) = Value.int .i64 k
      first | rfl | (rw [hw])
    · show Value.int .i64 x = Value.int .i64 ((rotN 0 (x, y)).1)
      first | rfl | (rw [hw])
    show Value.int .i64 y = Value.int .i64 ((rotN 0 (x, y)).2)
    first | rfl | (rw [hw])
  intro (j : Nat) hki3
  have hki3 : j ≤ k.toNat := hki3
  refine ⟨fun c11 => ?_, fun c11 => ?_⟩
  · skip
    try simp only [nrm] at c11
    refine ⟨j + 1, by
      first | trivial | omega | (simp; omega), by
      first | omega | (simp; omega), ?_⟩
    refine ⟨?_, rfl, ?_, ?_, rfl, rfl⟩
    · first | rfl | exact vint (wrap64 (by omega) (by omega)) | exact vint (show IntKind.i64.wrap (0 - (rotN j (x, y)).2) = -(rotN j (x, y)).2 from by have := hq j; rw [wrap64 (by omega) (by omega)]; omega) | exact vint (by rw [wrap64 (by omega) (by omega)]; omega)
    · first | rfl | exact vint (wrap64 (by omega) (by omega)) | exact vint (show IntKind.i64.wrap (0 - (rotN j (x, y)).2) = -(rotN j (x, y)).2 from by have := hq j; rw [wrap64 (by omega) (by omega)]; omega) | exact vint (by rw [wrap64 (by omega) (by omega)]; omega)
    first | rfl | exact vint (wrap64 (by omega) (by omega)) | exact vint (show IntKind.i64.wrap (0 - (rotN j (x, y)).2) = -(rotN j (x, y)).2 from by have := hq j; rw [wrap64 (by omega) (by omega)]; omega) | exact vint (by rw [wrap64 (by omega) (by omega)]; omega)
  · skip
    try simp only [nrm] at c11
    refine ⟨?_, ?_⟩
    · show Value.int .i64 ((rotN j (x, y)).1) = Value.int .i64 ((rotN k.toNat (x, y)).1)
      rw [show k.toNat = j by omega]
    show Value.int .i64 ((rotN j (x, y)).2) = Value.int .i64 ((rotN k.toNat (x, y)).2)
    rw [show k.toNat = j by omega]
def sTurnVec_con : Con := { ι := Int × Int × Int, pre := fun i => (0 ≤ i.2.2 ∧ i.2.2 ≤ 3) ∧ True ∧ isVec (i.1, i.2.1) = true, args := fun i => [.agg [.im (.int .i64 i.1), .im (.int .i64 i.2.1)], .one (.im (.int .i64 i.2.2))], res := fun i => ⟨false, [some 2], [.im (Value.int .i64 ((rotN i.2.2.toNat (i.1, i.2.1)).1)), .im (Value.int .i64 ((rotN i.2.2.toNat (i.1, i.2.1)).2))]⟩ }
set_option maxRecDepth 100000 in
theorem sTurnVec_ok : sTurnVec_con.Ok Try.prog 75 := by
  refine fn_ok (X := ⟨tt, [(27, sIsVec_con)], [], 26⟩) mixed tt_ok (CTok.cons sIsVec_ok (CTok.nil _)) Try.func75 (by decide) rfl rfl rfl (fun _ => Nat.le_of_ble_eq_true rfl) (fun _ => Nat.le_of_ble_eq_true rfl) (fun (i : Int × Int × Int) => [(6, .mk 3 (Nat) (fun x1 => { tm := [(2, .one (.one (.bp 1 0))), (4, .one (.one (.bp 2 0))), (1, .one (.one (.im (Value.int .i64 (i.2.2 - ((x1 : Nat) : Int))))))], en := [(1, .box [.im (Value.int .i64 ((rotN x1 (i.1, i.2.1)).1)), .im (Value.int .i64 ((rotN x1 (i.1, i.2.1)).2))]), (2, .box [.im (Value.int .i64 (0 : Int)), .im (Value.int .i64 (0 : Int))])] }) (fun x1 => x1 ≤ i.2.2.toNat) (fun x1 => i.2.2.toNat - x1) (fun _ => []))]) ?_
  rintro ⟨x, y, k⟩ hpre
  have hpre : (0 ≤ k ∧ k ≤ 3) ∧ True ∧ isVec (x, y) = true := hpre
  refine by_nf (q := ∃ i1 : Int × Int, [DA.agg [cI x, cI y]] = sIsVec_con.args i1 ∧ sIsVec_con.pre i1 ∧ (((!(isVec (i1.1, i1.2))) = true → ((Value.int .i64 (0 : Int) = Value.int .i64 ((rotN k.toNat (x, y)).1)) ∧ (Value.int .i64 (0 : Int) = Value.int .i64 ((rotN k.toNat (x, y)).2)))) ∧ ((!(isVec (i1.1, i1.2))) = false → (((4 : Int) ≠ 0) ∧ (((decide ((Int.tmod k (4 : Int)) < (0 : Int))) = true → ((∃ x1 : Nat, (x1 ≤ k.toNat) ∧ ((Value.int .i64 (IntKind.i64.wrap ((Int.tmod k (4 : Int)) + (4 : Int))) = Value.int .i64 (k - ((x1 : Nat) : Int))) ∧ (Value.int .i64 x = Value.int .i64 ((rotN x1 (x, y)).1)) ∧ (Value.int .i64 y = Value.int .i64 ((rotN x1 (x, y)).2)) ∧ (rf (Value.int .i64 (0 : Int))) ∧ (rf (Value.int .i64 (0 : Int))))) ∧ ∀ x1 : Nat, (x1 ≤ k.toNat) → (((decide ((k - ((x1 : Nat) : Int)) > (0 : Int))) = true → (∃ y2 : Nat, (y2 ≤ k.toNat) ∧ (k.toNat - y2 < k.toNat - x1) ∧ ((Value.int .i64 (IntKind.i64.wrap ((k - ((x1 : Nat) : Int)) - (1 : Int))) = Value.int .i64 (k - ((y2 : Nat) : Int))) ∧ (Value.int .i64 (IntKind.i64.wrap (0 - ((rotN x1 (x, y)).2))) = Value.int .i64 ((rotN y2 (x, y)).1)) ∧ (Value.int .i64 ((rotN x1 (x, y)).1) = Value.int .i64 ((rotN y2 (x, y)).2)) ∧ (rf (Value.int .i64 (0 : Int))) ∧ (rf (Value.int .i64 (0 : Int)))))) ∧ ((decide ((k - ((x1 : Nat) : Int)) > (0 : Int))) = false → ((Value.int .i64 ((rotN x1 (x, y)).1) = Value.int .i64 ((rotN k.toNat (x, y)).1)) ∧ (Value.int .i64 ((rotN x1 (x, y)).2) = Value.int .i64 ((rotN k.toNat (x, y)).2))))))) ∧ ((decide ((Int.tmod k (4 : Int)) < (0 : Int))) = false → ((∃ x1 : Nat, (x1 ≤ k.toNat) ∧ ((Value.int .i64 (Int.tmod k (4 : Int)) = Value.int .i64 (k - ((x1 : Nat) : Int))) ∧ (Value.int .i64 x = Value.int .i64 ((rotN x1 (x, y)).1)) ∧ (Value.int .i64 y = Value.int .i64 ((rotN x1 (x, y)).2)) ∧ (rf (Value.int .i64 (0 : Int))) ∧ (rf (Value.int .i64 (0 : Int))))) ∧ ∀ x1 : Nat, (x1 ≤ k.toNat) → (((decide ((k - ((x1 : Nat) : Int)) > (0 : Int))) = true → (∃ y4 : Nat, (y4 ≤ k.toNat) ∧ (k.toNat - y4 < k.toNat - x1) ∧ ((Value.int .i64 (IntKind.i64.wrap ((k - ((x1 : Nat) : Int)) - (1 : Int))) = Value.int .i64 (k - ((y4 : Nat) : Int))) ∧ (Value.int .i64 (IntKind.i64.wrap (0 - ((rotN x1 (x, y)).2))) = Value.int .i64 ((rotN y4 (x, y)).1)) ∧ (Value.int .i64 ((rotN x1 (x, y)).1) = Value.int .i64 ((rotN y4 (x, y)).2)) ∧ (rf (Value.int .i64 (0 : Int))) ∧ (rf (Value.int .i64 (0 : Int)))))) ∧ ((decide ((k - ((x1 : Nat) : Int)) > (0 : Int))) = false → ((Value.int .i64 ((rotN x1 (x, y)).1) = Value.int .i64 ((rotN k.toNat (x, y)).1)) ∧ (Value.int .i64 ((rotN x1 (x, y)).2) = Value.int .i64 ((rotN k.toNat (x, y)).2)))))))))))) (by kernel_rfl) ?_
  have hq := fun j => isVec_bd (rotN_vec hpre.2.2 j)
  have hw := head_rem hpre.1.1 hpre.1.2
  refine ⟨(x, y), by
    rfl, by
    first | trivial | (first | omega | assumption | exact hpre.1 | exact hpre.2 | (simp; done)), ?_⟩
  refine ⟨fun c4 => ?_, fun c4 => ?_⟩
  · skip
    replace c4 : (!(isVec (x, y))) = true := c4
    try simp only [nrm] at c4
    rw [hpre.2.2] at c4
    cases c4 -- done
  · skip
    replace c4 : (!(isVec (x, y))) = false := c4
    try simp only [nrm] at c4
    have o7 : (4 : Int) ≠ 0 := by
      first | rfl | omega | (simp; done) | (simp; omega)
    refine ⟨o7, ?_⟩
    refine ⟨fun c8 => ?_, fun c8 => ?_⟩
    · skip
      try simp only [nrm] at c8
      rw [hw.2] at c8
      exfalso; omega -- done
    · skip
      try simp only [nrm] at c8
      refine ⟨⟨0, by
        first | trivial | omega | (simp; omega), ?_⟩, ?_⟩
      · skip
        refine ⟨?_, ?_, ?_, rfl, rfl⟩
        · show Value.int .i64 (Int.tmod k (4 : Int)) = Value.int .i64 (k - ((0 : Nat) : Int))
          first | rfl | (rw [hw.2]; exact vint (by omega))
        · show Value.int .i64 x = Value.int .i64 ((rotN 0 (x, y)).1)
          first | rfl | (rw [hw.2]; exact vint (by omega))
        show Value.int .i64 y = Value.int .i64 ((rotN 0 (x, y)).2)
        first | rfl | (rw [hw.2]; exact vint (by omega))
      intro (j : Nat) hki27
      have hki27 : j ≤ k.toNat := hki27
      refine ⟨fun c34 => ?_, fun c34 => ?_⟩
      · skip
        try simp only [nrm] at c34
        refine ⟨j + 1, by
          first | trivial | omega | (simp; omega), by
          first | omega | (simp; omega), ?_⟩
        refine ⟨?_, ?_, ?_, rfl, rfl⟩
        · first | rfl | exact vint (wrap64 (by omega) (by omega)) | exact vint (show IntKind.i64.wrap (0 - (rotN j (x, y)).2) = -(rotN j (x, y)).2 from by have := hq j; rw [wrap64 (by omega) (by omega)]; omega) | exact vint (by rw [wrap64 (by omega) (by omega)]; omega)
        · first | rfl | exact vint (wrap64 (by omega) (by omega)) | exact vint (show IntKind.i64.wrap (0 - (rotN j (x, y)).2) = -(rotN j (x, y)).2 from by have := hq j; rw [wrap64 (by omega) (by omega)]; omega) | exact vint (by rw [wrap64 (by omega) (by omega)]; omega)
        first | rfl | exact vint (wrap64 (by omega) (by omega)) | exact vint (show IntKind.i64.wrap (0 - (rotN j (x, y)).2) = -(rotN j (x, y)).2 from by have := hq j; rw [wrap64 (by omega) (by omega)]; omega) | exact vint (by rw [wrap64 (by omega) (by omega)]; omega)
      · skip
        try simp only [nrm] at c34
        refine ⟨?_, ?_⟩
        · show Value.int .i64 ((rotN j (x, y)).1) = Value.int .i64 ((rotN k.toNat (x, y)).1)
          rw [show k.toNat = j by omega]
        show Value.int .i64 ((rotN j (x, y)).2) = Value.int .i64 ((rotN k.toNat (x, y)).2)
        rw [show k.toNat = j by omega]
def iTurnPoly_con : Con := { ι := (List V2) × Int, pre := fun i => (0 ≤ i.2 ∧ i.2 ≤ 3) ∧ i.1.length ≤ 1048576 ∧ i.1.all isVec = true, args := fun i => [.one (.sl 40 [.int, .int] (vecsD i.1)), .one (.im (.int .i64 i.2))], res := fun i => ⟨false, [none], [.own 40 [.int, .int] (vecsD (turnPoly i.1 i.2.toNat))]⟩ }
set_option maxRecDepth 100000 in
theorem iTurnPoly_ok : iTurnPoly_con.Ok Try.prog 61 := by
  refine fn_ok (X := ⟨tt, [(31, areVecs_con), (80, iTurnVec_con)], [], 26⟩) mixed tt_ok (CTok.cons areVecs_ok (CTok.cons iTurnVec_ok (CTok.nil _))) Try.func61 (by decide) rfl rfl rfl (fun _ => Nat.le_of_ble_eq_true rfl) (fun _ => Nat.le_of_ble_eq_true rfl) (fun (i : (List V2) × Int) => [(5, .mk 3 (Nat) (fun x1 => { tm := [(12, .one (.one (.ext 1))), (13, .one (.one (.im (Value.int .i64 (((vecsD i.1).length : Nat) : Int))))), (14, .one (.one (.im (Value.int .i64 ((x1 : Nat) : Int))))), (1, .one (.one (.im (Value.int .i64 i.2)))), (5, .one (.one (.ext 2)))], en := [(1, .view 40 [.int, .int] (vecsD i.1) []), (2, .own 40 [.int, .int] (vecsD (turnPoly (i.1.take x1) i.2.toNat)))] }) (fun x1 => x1 ≤ i.1.length) (fun x1 => i.1.length - x1) (fun _ => []))]) ?_
  rintro ⟨l, h⟩ hpre
  have hpre : (0 ≤ h ∧ h ≤ 3) ∧ l.length ≤ 1048576 ∧ l.all isVec = true := hpre
  refine by_nf (q := ∃ i1 : (List V2), [DA.one (DC.sl 40 [.int, .int] (vecsD l))] = areVecs_con.args i1 ∧ areVecs_con.pre i1 ∧ (((!(i1.all isVec)) = true → ((([] : List (List Dat)) = vecsD (turnPoly l h.toNat)))) ∧ ((!(i1.all isVec)) = false → ((∃ x1 : Nat, (x1 ≤ l.length) ∧ ((rf (Value.int .i64 (((vecsD l).length : Nat) : Int))) ∧ (Value.int .i64 (0 : Int) = Value.int .i64 ((x1 : Nat) : Int)) ∧ (rf (Value.int .i64 h)) ∧ (rf (vecsD l)) ∧ (([] : List (List Dat)) = (vecsD (turnPoly (l.take x1) h.toNat))))) ∧ ∀ x1 : Nat, (x1 ≤ l.length) → (((decide (((x1 : Nat) : Int) < (((vecsD l).length : Nat) : Int))) = true → ((0 ≤ ((x1 : Nat) : Int) ∧ ((x1 : Nat) : Int) < ((vecsD l).length : Int)) ∧ ((x1 < (vecsD l).length) ∧ (∃ i2 : Int × Int × Int, [DA.agg [cI (((((vecsD l).getD x1 []).getD 0 (.int 0))).n), cI (((((vecsD l).getD x1 []).getD 1 (.int 0))).n)], DA.one (cI h)] = iTurnVec_con.args i2 ∧ iTurnVec_con.pre i2 ∧ (((vecsD (turnPoly (l.take x1) h.toNat)).length + ([[Dat.int ((rotN i2.2.2.toNat (i2.1, i2.2.1)).1), Dat.int ((rotN i2.2.2.toNat (i2.1, i2.2.1)).2)]] : List (List Dat)).length ≤ 1073741824) ∧ (∃ y2 : Nat, (y2 ≤ l.length) ∧ (l.length - y2 < l.length - x1) ∧ ((rf (Value.int .i64 (((vecsD l).length : Nat) : Int))) ∧ (Value.int .i64 (IntKind.i64.wrap (((x1 : Nat) : Int) + (1 : Int))) = Value.int .i64 ((y2 : Nat) : Int)) ∧ (rf (Value.int .i64 h)) ∧ (rf (vecsD l)) ∧ (((vecsD (turnPoly (l.take x1) h.toNat)) ++ ([[Dat.int ((rotN i2.2.2.toNat (i2.1, i2.2.1)).1), Dat.int ((rotN i2.2.2.toNat (i2.1, i2.2.1)).2)]] : List (List Dat))) = (vecsD (turnPoly (l.take y2) h.toNat)))))))))) ∧ ((decide (((x1 : Nat) : Int) < (((vecsD l).length : Nat) : Int))) = false → (((vecsD (turnPoly (l.take x1) h.toNat)) = vecsD (turnPoly l h.toNat))))))))) (by kernel_rfl) ?_
  have hvl := vecsD_length l
  refine ⟨l, by
    rfl, by
    first | trivial | exact ⟨hpre.1, trivial, allVec_getD hpre.2.2 (by omega)⟩, ?_⟩
  refine ⟨fun c4 => ?_, fun c4 => ?_⟩
  · skip
    try simp only [nrm] at c4
    rw [hpre.2.2] at c4
    cases c4 -- done
  · skip
    try simp only [nrm] at c4
    refine ⟨⟨0, by
      first | trivial | omega | (simp; omega), ?_⟩, ?_⟩
    · skip
      refine ⟨rfl, ?_, rfl, rfl, ?_⟩
      · show Value.int .i64 (0 : Int) = Value.int .i64 ((0 : Nat) : Int)
        first | rfl | (rw [vecsD_length])
      show ([] : List (List Dat)) = (vecsD (turnPoly (l.take 0) h.toNat))
      first | rfl | (rw [vecsD_length])
    intro (k : Nat) hki6
    have hki6 : k ≤ l.length := hki6
    refine ⟨fun c13 => ?_, fun c13 => ?_⟩
    · skip
      try simp only [nrm] at c13
      have o14 : 0 ≤ ((k : Nat) : Int) ∧ ((k : Nat) : Int) < ((vecsD l).length : Int) := by
        first | omega | (simp only [vecsD_length, turnPoly_len, List.length_take, List.length_cons, List.length_nil]; omega)
      refine ⟨o14, ?_⟩
      have o15 : k < (vecsD l).length := by
        first | omega | (simp only [vecsD_length, turnPoly_len, List.length_take, List.length_cons, List.length_nil]; omega)
      refine ⟨o15, ?_⟩
      refine ⟨((l.getD k (0, 0)).1, (l.getD k (0, 0)).2, h), by
        rw [vecs_x (by omega), vecs_y (by omega)]; rfl, by
        show (0 ≤ h ∧ h ≤ 3) ∧ True ∧ isVec (((l.getD k (0, 0)).1), ((l.getD k (0, 0)).2)) = true
        first | trivial | exact ⟨hpre.1, trivial, allVec_getD hpre.2.2 (by omega)⟩, ?_⟩
      have o19 : (vecsD (turnPoly (l.take k) h.toNat)).length + ([[Dat.int ((rotN h.toNat (((l.getD k (0, 0)).1), ((l.getD k (0, 0)).2))).1), Dat.int ((rotN h.toNat (((l.getD k (0, 0)).1), ((l.getD k (0, 0)).2))).2)]] : List (List Dat)).length ≤ 1073741824 := by
        first | omega | (simp only [vecsD_length, turnPoly_len, List.length_take, List.length_cons, List.length_nil]; omega)
      refine ⟨o19, ?_⟩
      refine ⟨k + 1, by
        first | trivial | omega | (simp; omega), by
        first | omega | (simp; omega), ?_⟩
      refine ⟨rfl, ?_, rfl, rfl, ?_⟩
      · first | rfl | exact vint (wrap64 (by omega) (by omega)) | exact turnPoly_snoc (by omega)
      show ((vecsD (turnPoly (l.take k) h.toNat)) ++ ([[Dat.int ((rotN h.toNat (((l.getD k (0, 0)).1), ((l.getD k (0, 0)).2))).1), Dat.int ((rotN h.toNat (((l.getD k (0, 0)).1), ((l.getD k (0, 0)).2))).2)]] : List (List Dat))) = (vecsD (turnPoly (l.take (k + 1)) h.toNat))
      first | rfl | exact vint (wrap64 (by omega) (by omega)) | exact turnPoly_snoc (by omega)
    · skip
      try simp only [nrm] at c13
      show (vecsD (turnPoly (l.take k) h.toNat)) = vecsD (turnPoly l h.toNat)
      rw [show k = l.length by omega, List.take_length]
def sTurnPoly_con : Con := { ι := (List V2) × Int, pre := fun i => (0 ≤ i.2 ∧ i.2 ≤ 3) ∧ i.1.length ≤ 1048576 ∧ i.1.all isVec = true, args := fun i => [.one (.sl 40 [.int, .int] (vecsD i.1)), .one (.im (.int .i64 i.2))], res := fun i => ⟨false, [none], [.own 40 [.int, .int] (vecsD (turnPoly i.1 i.2.toNat))]⟩ }
set_option maxRecDepth 100000 in
theorem sTurnPoly_ok : sTurnPoly_con.Ok Try.prog 58 := by
  refine fn_ok (X := ⟨tt, [(27, sIsVec_con), (75, sTurnVec_con)], [], 26⟩) mixed tt_ok (CTok.cons sIsVec_ok (CTok.cons sTurnVec_ok (CTok.nil _))) Try.func58 (by decide) rfl rfl rfl (fun _ => Nat.le_of_ble_eq_true rfl) (fun _ => Nat.le_of_ble_eq_true rfl) (fun (i : (List V2) × Int) => [(3, .mk 3 (Nat) (fun x1 => { tm := [(9, .one (.one (.ext 1))), (10, .one (.one (.im (Value.int .i64 (((vecsD i.1).length : Nat) : Int))))), (11, .one (.one (.im (Value.int .i64 ((x1 : Nat) : Int))))), (1, .one (.one (.im (Value.int .i64 i.2)))), (5, .one (.one (.ext 2)))], en := [(1, .view 40 [.int, .int] (vecsD i.1) []), (2, .own 40 [.int, .int] (vecsD (turnPoly (i.1.take x1) i.2.toNat)))] }) (fun x1 => x1 ≤ i.1.length) (fun x1 => i.1.length - x1) (fun _ => []))]) ?_
  rintro ⟨l, h⟩ hpre
  have hpre : (0 ≤ h ∧ h ≤ 3) ∧ l.length ≤ 1048576 ∧ l.all isVec = true := hpre
  refine by_nf (q := (∃ x1 : Nat, (x1 ≤ l.length) ∧ ((rf (Value.int .i64 (((vecsD l).length : Nat) : Int))) ∧ (Value.int .i64 (0 : Int) = Value.int .i64 ((x1 : Nat) : Int)) ∧ (rf (Value.int .i64 h)) ∧ (rf (vecsD l)) ∧ (([] : List (List Dat)) = (vecsD (turnPoly (l.take x1) h.toNat))))) ∧ ∀ x1 : Nat, (x1 ≤ l.length) → (((decide (((x1 : Nat) : Int) < (((vecsD l).length : Nat) : Int))) = true → ((0 ≤ ((x1 : Nat) : Int) ∧ ((x1 : Nat) : Int) < ((vecsD l).length : Int)) ∧ ((x1 < (vecsD l).length) ∧ (∃ i1 : Int × Int, [DA.agg [cI (((((vecsD l).getD x1 []).getD 0 (.int 0))).n), cI (((((vecsD l).getD x1 []).getD 1 (.int 0))).n)]] = sIsVec_con.args i1 ∧ sIsVec_con.pre i1 ∧ (((!(isVec (i1.1, i1.2))) = true → ((([] : List (List Dat)) = vecsD (turnPoly l h.toNat)))) ∧ ((!(isVec (i1.1, i1.2))) = false → (∃ i2 : Int × Int × Int, [DA.agg [cI (((((vecsD l).getD x1 []).getD 0 (.int 0))).n), cI (((((vecsD l).getD x1 []).getD 1 (.int 0))).n)], DA.one (cI h)] = sTurnVec_con.args i2 ∧ sTurnVec_con.pre i2 ∧ (((vecsD (turnPoly (l.take x1) h.toNat)).length + ([[Dat.int ((rotN i2.2.2.toNat (i2.1, i2.2.1)).1), Dat.int ((rotN i2.2.2.toNat (i2.1, i2.2.1)).2)]] : List (List Dat)).length ≤ 1073741824) ∧ (∃ y2 : Nat, (y2 ≤ l.length) ∧ (l.length - y2 < l.length - x1) ∧ ((rf (Value.int .i64 (((vecsD l).length : Nat) : Int))) ∧ (Value.int .i64 (IntKind.i64.wrap (((x1 : Nat) : Int) + (1 : Int))) = Value.int .i64 ((y2 : Nat) : Int)) ∧ (rf (Value.int .i64 h)) ∧ (rf (vecsD l)) ∧ (((vecsD (turnPoly (l.take x1) h.toNat)) ++ ([[Dat.int ((rotN i2.2.2.toNat (i2.1, i2.2.1)).1), Dat.int ((rotN i2.2.2.toNat (i2.1, i2.2.1)).2)]] : List (List Dat))) = (vecsD (turnPoly (l.take y2) h.toNat))))))))))))) ∧ ((decide (((x1 : Nat) : Int) < (((vecsD l).length : Nat) : Int))) = false → (((vecsD (turnPoly (l.take x1) h.toNat)) = vecsD (turnPoly l h.toNat)))))) (by kernel_rfl) ?_
  have hvl := vecsD_length l
  refine ⟨⟨0, by
    first | trivial | omega | (simp; omega), ?_⟩, ?_⟩
  · skip
    refine ⟨rfl, ?_, rfl, rfl, ?_⟩
    · show Value.int .i64 (0 : Int) = Value.int .i64 ((0 : Nat) : Int)
      first | rfl | (rw [vecsD_length])
    show ([] : List (List Dat)) = (vecsD (turnPoly (l.take 0) h.toNat))
    first | rfl | (rw [vecsD_length])
  intro (k : Nat) hki1
  have hki1 : k ≤ l.length := hki1
  refine ⟨fun c8 => ?_, fun c8 => ?_⟩
  · skip
    try simp only [nrm] at c8
    have o9 : 0 ≤ ((k : Nat) : Int) ∧ ((k : Nat) : Int) < ((vecsD l).length : Int) := by
      first | omega | (simp only [vecsD_length, turnPoly_len, List.length_take, List.length_cons, List.length_nil]; omega)
    refine ⟨o9, ?_⟩
    have o10 : k < (vecsD l).length := by
      first | omega | (simp only [vecsD_length, turnPoly_len, List.length_take, List.length_cons, List.length_nil]; omega)
    refine ⟨o10, ?_⟩
    refine ⟨((l.getD k (0, 0)).1, (l.getD k (0, 0)).2), by
      rw [vecs_x (by omega), vecs_y (by omega)]; rfl, by
      first | trivial | exact ⟨hpre.1, trivial, allVec_getD hpre.2.2 (by omega)⟩, ?_⟩
    refine ⟨fun c14 => ?_, fun c14 => ?_⟩
    · skip
      replace c14 : (!(isVec (((l.getD k (0, 0)).1), ((l.getD k (0, 0)).2)))) = true := c14
      try simp only [nrm] at c14
      have q : isVec ((l.getD k (0, 0)).1, (l.getD k (0, 0)).2) = true := allVec_getD hpre.2.2 (by omega)
      rw [q] at c14
      cases c14 -- done
    · skip
      replace c14 : (!(isVec (((l.getD k (0, 0)).1), ((l.getD k (0, 0)).2)))) = false := c14
      try simp only [nrm] at c14
      refine ⟨((l.getD k (0, 0)).1, (l.getD k (0, 0)).2, h), by
        rw [vecs_x (by omega), vecs_y (by omega)]; rfl, by
        show (0 ≤ h ∧ h ≤ 3) ∧ True ∧ isVec (((l.getD k (0, 0)).1), ((l.getD k (0, 0)).2)) = true
        first | trivial | exact ⟨hpre.1, trivial, allVec_getD hpre.2.2 (by omega)⟩, ?_⟩
      have o19 : (vecsD (turnPoly (l.take k) h.toNat)).length + ([[Dat.int ((rotN h.toNat (((l.getD k (0, 0)).1), ((l.getD k (0, 0)).2))).1), Dat.int ((rotN h.toNat (((l.getD k (0, 0)).1), ((l.getD k (0, 0)).2))).2)]] : List (List Dat)).length ≤ 1073741824 := by
        first | omega | (simp only [vecsD_length, turnPoly_len, List.length_take, List.length_cons, List.length_nil]; omega)
      refine ⟨o19, ?_⟩
      refine ⟨k + 1, by
        first | trivial | omega | (simp; omega), by
        first | omega | (simp; omega), ?_⟩
      refine ⟨rfl, ?_, rfl, rfl, ?_⟩
      · first | rfl | exact vint (wrap64 (by omega) (by omega)) | exact turnPoly_snoc (by omega)
      show ((vecsD (turnPoly (l.take k) h.toNat)) ++ ([[Dat.int ((rotN h.toNat (((l.getD k (0, 0)).1), ((l.getD k (0, 0)).2))).1), Dat.int ((rotN h.toNat (((l.getD k (0, 0)).1), ((l.getD k (0, 0)).2))).2)]] : List (List Dat))) = (vecsD (turnPoly (l.take (k + 1)) h.toNat))
      first | rfl | exact vint (wrap64 (by omega) (by omega)) | exact turnPoly_snoc (by omega)
  · skip
    try simp only [nrm] at c8
    show (vecsD (turnPoly (l.take k) h.toNat)) = vecsD (turnPoly l h.toNat)
    rw [show k = l.length by omega, List.take_length]
def iRobotAt_con : Con := { ι := Scn × Int, pre := fun i => True, args := fun i => [.agg [.im (.int .i64 i.1.low.1), .im (.int .i64 i.1.low.2), .im (.int .i64 i.1.high.1), .im (.int .i64 i.1.high.2), .sl 40 [.int, .int] (vecsD i.1.robot), .sl 24 [.sl 40 [.int, .int]] (areasD i.1.obst), .sl 40 [.int, .int] (vecsD i.1.tables)], .one (.im (.int .i64 i.2))], res := fun i => ⟨false, [none], [.own 40 [.int, .int] (vecsD (robotAt i.1 i.2))]⟩ }
set_option maxRecDepth 100000 in
theorem iRobotAt_ok : iRobotAt_con.Ok Try.prog 47 := by
  refine fn_ok (X := ⟨tt, [(59, iValid_con), (60, isHeading_con), (61, iTurnPoly_con)], [], 17⟩) mixed tt_ok (CTok.cons iValid_ok (CTok.cons isHeading_ok (CTok.cons iTurnPoly_ok (CTok.nil _)))) Try.func47 (by decide) rfl rfl rfl (fun _ => Nat.le_of_ble_eq_true rfl) (fun _ => Nat.le_of_ble_eq_true rfl) (fun _ => []) ?_
  rintro ⟨s, h⟩ hpre
  have hpre : True := hpre
  refine by_nf (q := ∃ i1 : Scn, [DA.agg [cI s.low.1, cI s.low.2, cI s.high.1, cI s.high.2, DC.sl 40 [.int, .int] (vecsD s.robot), DC.sl 24 [.sl 40 [.int, .int]] (areasD s.obst), DC.sl 40 [.int, .int] (vecsD s.tables)]] = iValid_con.args i1 ∧ iValid_con.pre i1 ∧ (((!(!(validScn i1))) = true → (∃ i2 : Int, [DA.one (cI h)] = isHeading_con.args i2 ∧ isHeading_con.pre i2 ∧ (((!(decide (i2 ≥ 0) && decide (i2 ≤ 3))) = true → ((([] : List (List Dat)) = vecsD (robotAt s h)))) ∧ ((!(decide (i2 ≥ 0) && decide (i2 ≤ 3))) = false → (∃ i3 : (List V2) × Int, [DA.one (DC.sl 40 [.int, .int] (vecsD s.robot)), DA.one (cI h)] = iTurnPoly_con.args i3 ∧ iTurnPoly_con.pre i3 ∧ ((vecsD (turnPoly i3.1 i3.2.toNat) = vecsD (robotAt s h)))))))) ∧ ((!(!(validScn i1))) = false → ((([] : List (List Dat)) = vecsD (robotAt s h)))))) (by kernel_rfl) ?_
  refine ⟨s, by
    rfl, by
    first | trivial | exact ⟨by omega, by omega, hP.2.2⟩, ?_⟩
  refine ⟨fun c4 => ?_, fun c4 => ?_⟩
  · skip
    try simp only [nrm] at c4
    refine ⟨h, by
      rfl, by
      first | trivial | exact ⟨by omega, by omega, hP.2.2⟩, ?_⟩
    refine ⟨fun c8 => ?_, fun c8 => ?_⟩
    · skip
      try simp only [nrm] at c8
      have hE := robotAt_no (s := s) (h := h) (.inr (by omega))
      show ([] : List (List Dat)) = vecsD (robotAt s h)
      first | (rw [hE]; done) | (rw [hE]; rfl)
    · skip
      try simp only [nrm] at c8
      have hE := robotAt_yes c4 (show 0 ≤ h ∧ h ≤ 3 by omega)
      have hP := isPoly_len (scn_robot c4)
      refine ⟨(s.robot, h), by
        rfl, by
        show (0 ≤ h ∧ h ≤ 3) ∧ s.robot.length ≤ 1048576 ∧ s.robot.all isVec = true
        first | trivial | exact ⟨by omega, by omega, hP.2.2⟩, ?_⟩
      show vecsD (turnPoly s.robot h.toNat) = vecsD (robotAt s h)
      first | (rw [hE]; done) | (rw [hE]; rfl)
  · skip
    try simp only [nrm] at c4
    have hE := robotAt_no (h := h) (.inl c4)
    show ([] : List (List Dat)) = vecsD (robotAt s h)
    first | (rw [hE]; done) | (rw [hE]; rfl)
def sRobotAt_con : Con := { ι := Scn × Int, pre := fun i => True, args := fun i => [.agg [.im (.int .i64 i.1.low.1), .im (.int .i64 i.1.low.2), .im (.int .i64 i.1.high.1), .im (.int .i64 i.1.high.2), .sl 40 [.int, .int] (vecsD i.1.robot), .sl 24 [.sl 40 [.int, .int]] (areasD i.1.obst), .sl 40 [.int, .int] (vecsD i.1.tables)], .one (.im (.int .i64 i.2))], res := fun i => ⟨false, [none], [.own 40 [.int, .int] (vecsD (robotAt i.1 i.2))]⟩ }
set_option maxRecDepth 100000 in
theorem sRobotAt_ok : sRobotAt_con.Ok Try.prog 45 := by
  refine fn_ok (X := ⟨tt, [(57, sValid_con), (48, l01In_con), (58, sTurnPoly_con)], [], 17⟩) mixed tt_ok (CTok.cons sValid_ok (CTok.cons l01In_ok (CTok.cons sTurnPoly_ok (CTok.nil _)))) Try.func45 (by decide) rfl rfl rfl (fun _ => Nat.le_of_ble_eq_true rfl) (fun _ => Nat.le_of_ble_eq_true rfl) (fun _ => []) ?_
  rintro ⟨s, h⟩ hpre
  have hpre : True := hpre
  refine by_nf (q := ∃ i1 : Scn, [DA.agg [cI s.low.1, cI s.low.2, cI s.high.1, cI s.high.2, DC.sl 40 [.int, .int] (vecsD s.robot), DC.sl 24 [.sl 40 [.int, .int]] (areasD s.obst), DC.sl 40 [.int, .int] (vecsD s.tables)]] = sValid_con.args i1 ∧ sValid_con.pre i1 ∧ (((!(!(validScn i1))) = true → (∃ i2 : Int × Int × Int, [DA.one (cI h), DA.one (cI (0 : Int)), DA.one (cI (3 : Int))] = l01In_con.args i2 ∧ l01In_con.pre i2 ∧ (((!(decide (i2.1 ≥ i2.2.1) && decide (i2.1 ≤ i2.2.2))) = true → ((([] : List (List Dat)) = vecsD (robotAt s h)))) ∧ ((!(decide (i2.1 ≥ i2.2.1) && decide (i2.1 ≤ i2.2.2))) = false → (∃ i3 : (List V2) × Int, [DA.one (DC.sl 40 [.int, .int] (vecsD s.robot)), DA.one (cI h)] = sTurnPoly_con.args i3 ∧ sTurnPoly_con.pre i3 ∧ ((vecsD (turnPoly i3.1 i3.2.toNat) = vecsD (robotAt s h)))))))) ∧ ((!(!(validScn i1))) = false → ((([] : List (List Dat)) = vecsD (robotAt s h)))))) (by kernel_rfl) ?_
  refine ⟨s, by
    rfl, by
    first | trivial | exact ⟨by omega, by omega, hP.2.2⟩, ?_⟩
  refine ⟨fun c4 => ?_, fun c4 => ?_⟩
  · skip
    try simp only [nrm] at c4
    refine ⟨(h, (0 : Int), (3 : Int)), by
      rfl, by
      first | trivial | exact ⟨by omega, by omega, hP.2.2⟩, ?_⟩
    refine ⟨fun c8 => ?_, fun c8 => ?_⟩
    · skip
      replace c8 : (!(decide (h ≥ (0 : Int)) && decide (h ≤ (3 : Int)))) = true := c8
      try simp only [nrm] at c8
      have hE := robotAt_no (s := s) (h := h) (.inr (by omega))
      show ([] : List (List Dat)) = vecsD (robotAt s h)
      first | (rw [hE]; done) | (rw [hE]; rfl)
    · skip
      replace c8 : (!(decide (h ≥ (0 : Int)) && decide (h ≤ (3 : Int)))) = false := c8
      try simp only [nrm] at c8
      have hE := robotAt_yes c4 (show 0 ≤ h ∧ h ≤ 3 by omega)
      have hP := isPoly_len (scn_robot c4)
      refine ⟨(s.robot, h), by
        rfl, by
        show (0 ≤ h ∧ h ≤ 3) ∧ s.robot.length ≤ 1048576 ∧ s.robot.all isVec = true
        first | trivial | exact ⟨by omega, by omega, hP.2.2⟩, ?_⟩
      show vecsD (turnPoly s.robot h.toNat) = vecsD (robotAt s h)
      first | (rw [hE]; done) | (rw [hE]; rfl)
  · skip
    try simp only [nrm] at c4
    have hE := robotAt_no (h := h) (.inl c4)
    show ([] : List (List Dat)) = vecsD (robotAt s h)
    first | (rw [hE]; done) | (rw [hE]; rfl)
def blkT (s : Scn) (h : Int) (k : Nat) : List (List V2) := (s.obst.take k).map (obsV (robotAt s h))
def blk (s : Scn) (h : Int) : List (List V2) := if (robotAt s h).length = 0 then [] else blkT s h s.obst.length
theorem blk_no {s : Scn} {h : Int} (e : (robotAt s h).length = 0) : blk s h = [] := by unfold blk; rw [if_pos e]
theorem blk_yes {s : Scn} {h : Int} (e : (robotAt s h).length ≠ 0) : blk s h = blkT s h s.obst.length := by unfold blk; rw [if_neg e]
theorem blkT_len (s : Scn) (h : Int) (k : Nat) : (areasD (blkT s h k)).length ≤ k := by
  rw [areasD_length]; unfold blkT; rw [List.length_map, List.length_take]; omega
theorem blkT_snoc {s : Scn} {h : Int} {k : Nat} (hk : k < s.obst.length) : areasD (blkT s h k) ++ [[.sl (vecsD (obsV (robotAt s h) (s.obst.getD k [])))]] = areasD (blkT s h (k + 1)) := by
  unfold blkT
  rw [take_snoc' s.obst [] k hk]
  simp [areasD]
theorem robot_le (s : Scn) (h : Int) : (robotAt s h).length ≤ 1048576 := by have := (robotAt_vec s h).2; omega
theorem robot_nil {s : Scn} {h : Int} (hn : (validScn s && inR h 0 3) = false) : robotAt s h = [] := robotAt_no (by
  rw [Bool.and_eq_false_iff] at hn
  rcases hn with hn | hn
  · exact .inl hn
  · refine .inr fun hc => ?_
    have : inR h 0 3 = true := inR_iff.2 hc
    rw [hn] at this; cases this)
theorem robot_some {s : Scn} {h : Int} (hn : (validScn s && inR h 0 3) = true) : 0 < (robotAt s h).length := by
  rw [Bool.and_eq_true] at hn
  exact List.length_pos_iff.2 (robotAt_ne hn.1 (inR_iff.1 hn.2))
def iBlkA_con : Con := { ι := Scn × Int, pre := fun i => scnSz i.1 ∧ (validScn i.1 && inR i.2 0 3) = true, args := fun i => [.agg [.im (.int .i64 i.1.low.1), .im (.int .i64 i.1.low.2), .im (.int .i64 i.1.high.1), .im (.int .i64 i.1.high.2), .sl 40 [.int, .int] (vecsD i.1.robot), .sl 24 [.sl 40 [.int, .int]] (areasD i.1.obst), .sl 40 [.int, .int] (vecsD i.1.tables)], .one (.im (.int .i64 i.2))], res := fun i => ⟨false, [none], [.own 24 [.sl 40 [.int, .int]] (areasD (blk i.1 i.2))]⟩ }
set_option maxRecDepth 100000 in
theorem iBlkA_ok : iBlkA_con.Ok Try.prog 21 := by
  refine fn_ok (X := ⟨tt, [(47, iRobotAt_con), (17, iObs_con)], [], 30⟩) mixed tt_ok (CTok.cons iRobotAt_ok (CTok.cons iObs_ok (CTok.nil _))) Try.func21 (by decide) rfl rfl rfl (fun _ => Nat.le_of_ble_eq_true rfl) (fun _ => Nat.le_of_ble_eq_true rfl) (fun (i : Scn × Int) => [(6, .mk 4 (Nat) (fun x1 => { tm := [(16, .one (.one (.ext 1))), (17, .one (.one (.im (Value.int .i64 (((areasD i.1.obst).length : Nat) : Int))))), (18, .one (.one (.im (Value.int .i64 ((x1 : Nat) : Int))))), (6, .one (.one (.ext 2))), (5, .one (.one (.ext 3)))], en := [(1, .view 24 [.sl 40 [.int, .int]] (areasD i.1.obst) []), (2, .own 24 [.sl 40 [.int, .int]] (areasD (blkT i.1 i.2 x1))), (3, .own 40 [.int, .int] (vecsD (robotAt i.1 i.2)))] }) (fun x1 => x1 ≤ i.1.obst.length) (fun x1 => i.1.obst.length - x1) (fun _ => []))]) ?_
  rintro ⟨s, h⟩ hpre
  have hpre : scnSz s ∧ (validScn s && inR h 0 3) = true := hpre
  refine by_nf (q := ∃ i1 : Scn × Int, [DA.agg [cI s.low.1, cI s.low.2, cI s.high.1, cI s.high.2, DC.sl 40 [.int, .int] (vecsD s.robot), DC.sl 24 [.sl 40 [.int, .int]] (areasD s.obst), DC.sl 40 [.int, .int] (vecsD s.tables)], DA.one (cI h)] = iRobotAt_con.args i1 ∧ iRobotAt_con.pre i1 ∧ (∀ b2 : Bool, (b2 = true → vecsD (robotAt i1.1 i1.2) = []) → ((b2 = true → ((([] : List (List Dat)) = areasD (blk s h)))) ∧ (b2 = false → ((∃ x1 : Nat, (x1 ≤ s.obst.length) ∧ ((rf (Value.int .i64 (((areasD s.obst).length : Nat) : Int))) ∧ (Value.int .i64 (0 : Int) = Value.int .i64 ((x1 : Nat) : Int)) ∧ (rf (areasD s.obst)) ∧ (([] : List (List Dat)) = (areasD (blkT s h x1))) ∧ (vecsD (robotAt i1.1 i1.2) = (vecsD (robotAt s h))))) ∧ ∀ x1 : Nat, (x1 ≤ s.obst.length) → (((decide (((x1 : Nat) : Int) < (((areasD s.obst).length : Nat) : Int))) = true → ((0 ≤ ((x1 : Nat) : Int) ∧ ((x1 : Nat) : Int) < ((areasD s.obst).length : Int)) ∧ ((x1 < (areasD s.obst).length) ∧ (∃ i3 : (List V2) × (List V2), [DA.one (DC.sl 40 [.int, .int] (vecsD (robotAt s h))), DA.one (DC.sl 40 [.int, .int] (((((areasD s.obst).getD x1 []).getD 0 (.int 0))).r))] = iObs_con.args i3 ∧ iObs_con.pre i3 ∧ (((areasD (blkT s h x1)).length + ([[Dat.sl (vecsD (obsV i3.1 i3.2))]] : List (List Dat)).length ≤ 1073741824) ∧ (∃ y2 : Nat, (y2 ≤ s.obst.length) ∧ (s.obst.length - y2 < s.obst.length - x1) ∧ ((rf (Value.int .i64 (((areasD s.obst).length : Nat) : Int))) ∧ (Value.int .i64 (IntKind.i64.wrap (((x1 : Nat) : Int) + (1 : Int))) = Value.int .i64 ((y2 : Nat) : Int)) ∧ (rf (areasD s.obst)) ∧ (((areasD (blkT s h x1)) ++ ([[Dat.sl (vecsD (obsV i3.1 i3.2))]] : List (List Dat))) = (areasD (blkT s h y2))) ∧ (rf (vecsD (robotAt s h)))))))))) ∧ ((decide (((x1 : Nat) : Int) < (((areasD s.obst).length : Nat) : Int))) = false → (((areasD (blkT s h x1)) = areasD (blk s h)))))))))) (by kernel_rfl) ?_
  have hv := hpre.2
  have hpre := hpre.1
  have hz := hpre
  obtain ⟨h1, h2, h3, h4⟩ := hpre
  have hrv := robot_le s h
  have hvl := vecsD_length (robotAt s h)
  have hal := areasD_length s.obst
  have hrs := robot_some hv
  refine ⟨(s, h), by
    rfl, by
    first | trivial | (first | omega | assumption | exact hpre.1 | exact hpre.2 | (simp; done)), ?_⟩
  intro b2 q4
  refine ⟨fun c5 => ?_, fun c5 => ?_⟩
  · skip
    try simp only [nrm] at c5
    exfalso
    have hq := congrArg List.length (q4 c5)
    rw [hvl] at hq
    simp only [List.length_nil] at hq
    omega -- done
  · skip
    try simp only [nrm] at c5
    have hE := blk_yes (s := s) (h := h) (by omega)
    refine ⟨⟨0, by
      first | trivial | omega | (simp; omega), ?_⟩, ?_⟩
    · skip
      refine ⟨rfl, ?_, rfl, ?_, rfl⟩
      · show Value.int .i64 (0 : Int) = Value.int .i64 ((0 : Nat) : Int)
        first | rfl | (simp; done)
      show ([] : List (List Dat)) = (areasD (blkT s h 0))
      first | rfl | (simp; done)
    intro (k : Nat) hki7
    have hki7 : k ≤ s.obst.length := hki7
    refine ⟨fun c14 => ?_, fun c14 => ?_⟩
    · skip
      try simp only [nrm] at c14
      have hkl : k < s.obst.length := by omega
      have o15 : 0 ≤ ((k : Nat) : Int) ∧ ((k : Nat) : Int) < ((areasD s.obst).length : Int) := by
        first | rfl | omega | (have := blkT_len s h k; simp only [List.length_cons, List.length_nil]; omega)
      refine ⟨o15, ?_⟩
      have o16 : k < (areasD s.obst).length := by
        first | rfl | omega | (have := blkT_len s h k; simp only [List.length_cons, List.length_nil]; omega)
      refine ⟨o16, ?_⟩
      refine ⟨(robotAt s h, s.obst.getD k []), by
        rw [areasD_at hkl]; rfl, by
        show (robotAt s h).length ≤ 1048576 ∧ (s.obst.getD k []).length ≤ 1048576
        exact ⟨hrv, h3 _ (by simp [List.getD, hkl])⟩, ?_⟩
      have o20 : (areasD (blkT s h k)).length + ([[Dat.sl (vecsD (obsV (robotAt s h) (s.obst.getD k [])))]] : List (List Dat)).length ≤ 1073741824 := by
        first | rfl | omega | (have := blkT_len s h k; simp only [List.length_cons, List.length_nil]; omega)
      refine ⟨o20, ?_⟩
      refine ⟨k + 1, by
        first | trivial | omega | (simp; omega), by
        first | omega | (simp; omega), ?_⟩
      refine ⟨rfl, ?_, rfl, ?_, rfl⟩
      · first | rfl | exact vint (wrap64 (by omega) (by omega))
      show ((areasD (blkT s h k)) ++ ([[Dat.sl (vecsD (obsV (robotAt s h) (s.obst.getD k [])))]] : List (List Dat))) = (areasD (blkT s h (k + 1)))
      exact blkT_snoc hkl
    · skip
      try simp only [nrm] at c14
      show (areasD (blkT s h k)) = areasD (blk s h)
      rw [hE, show k = s.obst.length by omega]
def iBlkB_con : Con := { ι := Scn × Int, pre := fun i => scnSz i.1 ∧ (validScn i.1 && inR i.2 0 3) = false, args := fun i => [.agg [.im (.int .i64 i.1.low.1), .im (.int .i64 i.1.low.2), .im (.int .i64 i.1.high.1), .im (.int .i64 i.1.high.2), .sl 40 [.int, .int] (vecsD i.1.robot), .sl 24 [.sl 40 [.int, .int]] (areasD i.1.obst), .sl 40 [.int, .int] (vecsD i.1.tables)], .one (.im (.int .i64 i.2))], res := fun i => ⟨false, [none], [.own 24 [.sl 40 [.int, .int]] (areasD (blk i.1 i.2))]⟩ }
theorem iBlkB_ok : iBlkB_con.Ok Try.prog 21 := genOwn_ok rfl ⟨_, Try.func21, by decide, rfl⟩ (fun _ => Nat.le_of_ble_eq_true rfl) (fun _ => rfl) (fun i => [.sl 24 [.sl 40 [.int, .int]] (areasD (blk i.1 i.2))]) (fun _ => rfl) (fun _ => rfl) (fun i hp w us h => by
  obtain ⟨s, k⟩ := i
  obtain ⟨cs, v, rfl, h1, h2, h3⟩ := vals_agg_one (t := [.int, .int, .int, .int, .sl 40 [.int, .int], .sl 24 [.sl 40 [.int, .int]], .sl 40 [.int, .int]]) (x := .int) (ds := scnD s) (dx := .int k) h rfl
  have h2 : v = .int .i64 k := by simpa [Rd] using h2
  subst h2
  rw [show valD (iBlkB_con.args (s, k)) (cs ++ [.int .i64 k]) = [.agg cs.toArray, .int .i64 k] from h3 _ _ rfl]
  refine (BlockedNil_c s k _ w (RdRow.scene h1) hp.2).mono ?_
  rintro e w' ⟨rfl, hb⟩
  refine ⟨[.slice none 0 0], rfl, ?_, hb⟩
  have e : blk s k = [] := blk_no (by rw [robot_nil hp.2]; rfl)
  show Own w' w.heap.size w'.heap.size [.sl 24 [.sl 40 [.int, .int]]] [.sl (areasD (blk s k))] [.slice none 0 0]
  rw [e]
  exact Own.nilSl _ _ _ _ _)
def iBlk_con : Con := { ι := Scn × Int, pre := fun i => scnSz i.1, args := fun i => [.agg [.im (.int .i64 i.1.low.1), .im (.int .i64 i.1.low.2), .im (.int .i64 i.1.high.1), .im (.int .i64 i.1.high.2), .sl 40 [.int, .int] (vecsD i.1.robot), .sl 24 [.sl 40 [.int, .int]] (areasD i.1.obst), .sl 40 [.int, .int] (vecsD i.1.tables)], .one (.im (.int .i64 i.2))], res := fun i => ⟨false, [none], [.own 24 [.sl 40 [.int, .int]] (areasD (blk i.1 i.2))]⟩ }
theorem iBlk_ok : iBlk_con.Ok Try.prog 21 where
  enter := iBlkA_ok.enter
  small := fun _ => Nat.le_of_ble_eq_true rfl
  calls := fun i hp F w us mb h => by
    cases hc : (validScn i.1 && inR i.2 0 3) with
    | false =>
      refine (iBlkB_ok.calls i ⟨hp, hc⟩ F w us mb h).mono ?_
      rintro e w' ⟨rs, bs, he, q⟩
      exact ⟨rs, bs, he, ⟨q.res, q.nd, q.fresh, q.turned, q.os, q.tape, q.output, q.size, q.keep⟩⟩
    | true =>
      refine (iBlkA_ok.calls i ⟨hp, hc⟩ F w us mb h).mono ?_
      rintro e w' ⟨rs, bs, he, q⟩
      exact ⟨rs, bs, he, ⟨q.res, q.nd, q.fresh, q.turned, q.os, q.tape, q.output, q.size, q.keep⟩⟩
def sBlk_con : Con := { ι := Scn × Int, pre := fun i => scnSz i.1, args := fun i => [.agg [.im (.int .i64 i.1.low.1), .im (.int .i64 i.1.low.2), .im (.int .i64 i.1.high.1), .im (.int .i64 i.1.high.2), .sl 40 [.int, .int] (vecsD i.1.robot), .sl 24 [.sl 40 [.int, .int]] (areasD i.1.obst), .sl 40 [.int, .int] (vecsD i.1.tables)], .one (.im (.int .i64 i.2))], res := fun i => ⟨false, [none], [.own 24 [.sl 40 [.int, .int]] (areasD (blk i.1 i.2))]⟩ }
set_option maxRecDepth 100000 in
theorem sBlk_ok : sBlk_con.Ok Try.prog 19 := by
  refine fn_ok (X := ⟨tt, [(45, sRobotAt_con), (16, sObs_con)], [], 31⟩) mixed tt_ok (CTok.cons sRobotAt_ok (CTok.cons sObs_ok (CTok.nil _))) Try.func19 (by decide) rfl rfl rfl (fun _ => Nat.le_of_ble_eq_true rfl) (fun _ => Nat.le_of_ble_eq_true rfl) (fun (i : Scn × Int) => [(6, .mk 4 (Nat) (fun x1 => { tm := [(17, .one (.one (.ext 1))), (18, .one (.one (.im (Value.int .i64 (((areasD i.1.obst).length : Nat) : Int))))), (19, .one (.one (.im (Value.int .i64 ((x1 : Nat) : Int))))), (5, .one (.one (.ext 2))), (6, .one (.one (.ext 3)))], en := [(1, .view 24 [.sl 40 [.int, .int]] (areasD i.1.obst) []), (2, .own 24 [.sl 40 [.int, .int]] (areasD (blkT i.1 i.2 x1))), (3, .own 40 [.int, .int] (vecsD (robotAt i.1 i.2)))] }) (fun x1 => x1 ≤ i.1.obst.length) (fun x1 => i.1.obst.length - x1) (fun _ => []))]) ?_
  rintro ⟨s, h⟩ hpre
  have hpre : scnSz s := hpre
  refine by_nf (q := ∃ i1 : Scn × Int, [DA.agg [cI s.low.1, cI s.low.2, cI s.high.1, cI s.high.2, DC.sl 40 [.int, .int] (vecsD s.robot), DC.sl 24 [.sl 40 [.int, .int]] (areasD s.obst), DC.sl 40 [.int, .int] (vecsD s.tables)], DA.one (cI h)] = sRobotAt_con.args i1 ∧ sRobotAt_con.pre i1 ∧ ((((((vecsD (robotAt i1.1 i1.2)).length : Nat) : Int) == (0 : Int)) = true → ((([] : List (List Dat)) = areasD (blk s h)))) ∧ (((((vecsD (robotAt i1.1 i1.2)).length : Nat) : Int) == (0 : Int)) = false → ((∃ x1 : Nat, (x1 ≤ s.obst.length) ∧ ((rf (Value.int .i64 (((areasD s.obst).length : Nat) : Int))) ∧ (Value.int .i64 (0 : Int) = Value.int .i64 ((x1 : Nat) : Int)) ∧ (rf (areasD s.obst)) ∧ (([] : List (List Dat)) = (areasD (blkT s h x1))) ∧ (vecsD (robotAt i1.1 i1.2) = (vecsD (robotAt s h))))) ∧ ∀ x1 : Nat, (x1 ≤ s.obst.length) → (((decide (((x1 : Nat) : Int) < (((areasD s.obst).length : Nat) : Int))) = true → ((0 ≤ ((x1 : Nat) : Int) ∧ ((x1 : Nat) : Int) < ((areasD s.obst).length : Int)) ∧ ((x1 < (areasD s.obst).length) ∧ (∃ i2 : (List V2) × (List V2), [DA.one (DC.sl 40 [.int, .int] (vecsD (robotAt s h))), DA.one (DC.sl 40 [.int, .int] (((((areasD s.obst).getD x1 []).getD 0 (.int 0))).r))] = sObs_con.args i2 ∧ sObs_con.pre i2 ∧ (((areasD (blkT s h x1)).length + ([[Dat.sl (vecsD (obsV i2.1 i2.2))]] : List (List Dat)).length ≤ 1073741824) ∧ (∃ y2 : Nat, (y2 ≤ s.obst.length) ∧ (s.obst.length - y2 < s.obst.length - x1) ∧ ((rf (Value.int .i64 (((areasD s.obst).length : Nat) : Int))) ∧ (Value.int .i64 (IntKind.i64.wrap (((x1 : Nat) : Int) + (1 : Int))) = Value.int .i64 ((y2 : Nat) : Int)) ∧ (rf (areasD s.obst)) ∧ (((areasD (blkT s h x1)) ++ ([[Dat.sl (vecsD (obsV i2.1 i2.2))]] : List (List Dat))) = (areasD (blkT s h y2))) ∧ (rf (vecsD (robotAt s h)))))))))) ∧ ((decide (((x1 : Nat) : Int) < (((areasD s.obst).length : Nat) : Int))) = false → (((areasD (blkT s h x1)) = areasD (blk s h))))))))) (by kernel_rfl) ?_
  have hz := hpre
  obtain ⟨h1, h2, h3, h4⟩ := hpre
  have hrv := robot_le s h
  have hvl := vecsD_length (robotAt s h)
  have hal := areasD_length s.obst
  refine ⟨(s, h), by
    rfl, by
    first | trivial | (first | omega | assumption | exact hpre.1 | exact hpre.2 | (simp; done)), ?_⟩
  refine ⟨fun c4 => ?_, fun c4 => ?_⟩
  · skip
    replace c4 : ((((vecsD (robotAt s h)).length : Nat) : Int) == (0 : Int)) = true := c4
    try simp only [nrm] at c4
    have hE := blk_no (s := s) (h := h) (by omega)
    show ([] : List (List Dat)) = areasD (blk s h)
    first | (rw [hE]; done) | (rw [hE]; rfl)
  · skip
    replace c4 : ((((vecsD (robotAt s h)).length : Nat) : Int) == (0 : Int)) = false := c4
    try simp only [nrm] at c4
    have hE := blk_yes (s := s) (h := h) (by omega)
    refine ⟨⟨0, by
      first | trivial | omega | (simp; omega), ?_⟩, ?_⟩
    · skip
      refine ⟨rfl, ?_, rfl, ?_, rfl⟩
      · show Value.int .i64 (0 : Int) = Value.int .i64 ((0 : Nat) : Int)
        first | rfl | (simp; done)
      show ([] : List (List Dat)) = (areasD (blkT s h 0))
      first | rfl | (simp; done)
    intro (k : Nat) hki6
    have hki6 : k ≤ s.obst.length := hki6
    refine ⟨fun c13 => ?_, fun c13 => ?_⟩
    · skip
      try simp only [nrm] at c13
      have hkl : k < s.obst.length := by omega
      have o14 : 0 ≤ ((k : Nat) : Int) ∧ ((k : Nat) : Int) < ((areasD s.obst).length : Int) := by
        first | rfl | omega | (have := blkT_len s h k; simp only [List.length_cons, List.length_nil]; omega)
      refine ⟨o14, ?_⟩
      have o15 : k < (areasD s.obst).length := by
        first | rfl | omega | (have := blkT_len s h k; simp only [List.length_cons, List.length_nil]; omega)
      refine ⟨o15, ?_⟩
      refine ⟨(robotAt s h, s.obst.getD k []), by
        rw [areasD_at hkl]; rfl, by
        show (robotAt s h).length ≤ 1048576 ∧ (s.obst.getD k []).length ≤ 1048576
        exact ⟨hrv, h3 _ (by simp [List.getD, hkl])⟩, ?_⟩
      have o19 : (areasD (blkT s h k)).length + ([[Dat.sl (vecsD (obsV (robotAt s h) (s.obst.getD k [])))]] : List (List Dat)).length ≤ 1073741824 := by
        first | rfl | omega | (have := blkT_len s h k; simp only [List.length_cons, List.length_nil]; omega)
      refine ⟨o19, ?_⟩
      refine ⟨k + 1, by
        first | trivial | omega | (simp; omega), by
        first | omega | (simp; omega), ?_⟩
      refine ⟨rfl, ?_, rfl, ?_, rfl⟩
      · first | rfl | exact vint (wrap64 (by omega) (by omega))
      show ((areasD (blkT s h k)) ++ ([[Dat.sl (vecsD (obsV (robotAt s h) (s.obst.getD k [])))]] : List (List Dat))) = (areasD (blkT s h (k + 1)))
      exact blkT_snoc hkl
    · skip
      try simp only [nrm] at c13
      show (areasD (blkT s h k)) = areasD (blk s h)
      rw [hE, show k = s.obst.length by omega]
end Go.Proofs.Ytaleabdmgaeipaa
