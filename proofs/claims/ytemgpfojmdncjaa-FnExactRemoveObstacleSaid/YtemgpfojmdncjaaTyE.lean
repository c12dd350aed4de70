/-
  Contracts of the law's own helpers of the types Placement, Step: size, equality, copy, marks. (Printed by wip/tools/gentypes.py.)
-/
import Derived.Test.YtemgpfojmdncjaaProg
import Derived.Test.YtemgpfojmdncjaaTyD
import Derived.Outline
import Derived.Laws.MakeOwn
import Derived.RegionTactic
import Derived.BigRegion
import Derived.Deep.RegionHeld3
import Derived.Deep.DrawnRows
namespace Go.Proofs.Ytemgpfojmdncjaa
set_option linter.unusedVariables false
set_option linter.unusedSimpArgs false
open Go.RowKit
attribute [local go_sem ↓] Go.wp_at_zero Go.wp_at_succ

set_option maxRecDepth 100000 in
set_option maxHeartbeats 4000000 in
theorem szPlacement_c (ds : List Dat) (vs : List Value) (left : Int) (h0 : 0 ≤ left) (h1 : left ≤ 1048576) (w : World) (h : RdRow w [.int, .bool, .sl 3 [.int], .sl 3 [.int], .bool, .sl 3 [.int], .sl 3 [.int]] ds vs) :
    Calls Try.prog 20 #[.agg vs.toArray, .int .i64 left] w fun e w' => ∃ r : Int, e = .returned (.int .i64 r) ∧ szOk (szRow ds) left r ∧ Below w.heap.size w w' := by
  obtain ⟨pd, pds, pv, pvs, rfl, rfl, ph, h_0⟩ := RdRow.cons_inv h
  obtain ⟨px0, rfl, rfl⟩ := Rd.int_inv ph
  obtain ⟨pd, pds, pv, pvs, rfl, rfl, ph, h_1⟩ := RdRow.cons_inv h_0
  obtain ⟨px1, rfl, rfl⟩ := Rd.bool_inv ph
  obtain ⟨pd, pds, pv, pvs, rfl, rfl, ph, h_2⟩ := RdRow.cons_inv h_1
  obtain ⟨pl2, pa2, pc2, rfl, rfl, pe2, pf2, pr2⟩ := Rd.sl_inv ph
  obtain ⟨pd, pds, pv, pvs, rfl, rfl, ph, h_3⟩ := RdRow.cons_inv h_2
  obtain ⟨pl3, pa3, pc3, rfl, rfl, pe3, pf3, pr3⟩ := Rd.sl_inv ph
  obtain ⟨pd, pds, pv, pvs, rfl, rfl, ph, h_4⟩ := RdRow.cons_inv h_3
  obtain ⟨px4, rfl, rfl⟩ := Rd.bool_inv ph
  obtain ⟨pd, pds, pv, pvs, rfl, rfl, ph, h_5⟩ := RdRow.cons_inv h_4
  obtain ⟨pl5, pa5, pc5, rfl, rfl, pe5, pf5, pr5⟩ := Rd.sl_inv ph
  obtain ⟨pd, pds, pv, pvs, rfl, rfl, ph, h_6⟩ := RdRow.cons_inv h_5
  obtain ⟨pl6, pa6, pc6, rfl, rfl, pe6, pf6, pr6⟩ := Rd.sl_inv ph
  obtain ⟨rfl, rfl⟩ := RdRow.nil_inv h_6
  have H2 := Lib.hid pr2
  clear pr2
  have H3 := Lib.hid pr3
  clear pr3
  have H5 := Lib.hid pr5
  clear pr5
  have H6 := Lib.hid pr6
  clear pr6
  have HM : Hid (szOk (szRow [.int px0, .bool px1, .sl pl2, .sl pl3, .bool px4, .sl pl5, .sl pl6]) left (-1)) := .inl rfl
  go_enter Try.func20, Try.ntmps20
  go_wp2_with fail
  refine (szPoint_c [.bool px1, .sl pl2, .sl pl3, .bool px4, .sl pl5, .sl pl6] [.bool px1, .slice pa2 pl2.length pc2, .slice pa3 pl3.length pc3, .bool px4, .slice pa5 pl5.length pc5, .slice pa6 pl6.length pc6] left h0 h1 _ (RdRow.below (by (repeat (first | with_reducible exact Below.refl _ _ | with_reducible assumption | with_reducible refine Below.drew ?_ | with_reducible refine Below.setCell ?_ ?_ _ | with_reducible refine Below.alloc ?_ ?_ _)); all_goals first | (simp; done) | (simp; omega) | omega) _ _ _ (RdRow.mk_cons (Rd.mk_bool px1) (RdRow.mk_cons H2.out (RdRow.mk_cons H3.out (RdRow.mk_cons (Rd.mk_bool px4) (RdRow.mk_cons H5.out (RdRow.mk_cons H6.out RdRow.mk_nil)))))))).mono ?_
  rintro e w1 ⟨r1, rfl, hs1, h1⟩
  have B1 : Below w.heap.size w w1 := Below.trans (by (repeat (first | with_reducible exact Below.refl _ _ | with_reducible assumption | with_reducible refine Below.drew ?_ | with_reducible refine Below.setCell ?_ ?_ _ | with_reducible refine Below.alloc ?_ ?_ _)); all_goals first | (simp; done) | (simp; omega) | omega) (h1.mono (by first | (simp; done) | (simp; omega) | omega))
  have S1 := h1.size
  have T1 := B1.size
  try simp at S1
  obtain ⟨k1, f1⟩ := bcell h1
  try simp at k1
  try simp at f1
  have Hc1 := Lib.hid h1
  clear h1
  have u1_0 : w.heap.size < w1.heap.size := by omega
  rcases hs1 with rfl | ⟨y1, z1⟩
  · go_wp2
    go_ret
    exact ⟨_, rfl, HM.out, B1⟩
  have x1 : r1 ≤ 1048576 := by omega
  have A1 := Lib.hid z1
  clear z1
  go_wp2
  go_ret
  exact ⟨_, rfl, .inr ⟨y1, by have a1 := A1.out; simp only [szRow, Dat.sz] at *; omega⟩, B1⟩

set_option maxRecDepth 100000 in
set_option maxHeartbeats 4000000 in
theorem eqPlacement_c (ds : List Dat) (vs us : List Value) (w : World) (h : RdRow w [.int, .bool, .sl 3 [.int], .sl 3 [.int], .bool, .sl 3 [.int], .sl 3 [.int]] ds vs) (h' : RdRow w [.int, .bool, .sl 3 [.int], .sl 3 [.int], .bool, .sl 3 [.int], .sl 3 [.int]] ds us) :
    Calls Try.prog 26 #[.agg vs.toArray, .agg us.toArray] w fun e w' => e = .returned (.bool true) ∧ Below w.heap.size w w' := by
  obtain ⟨pd, pds, pv, pvs, rfl, rfl, ph, h_0⟩ := RdRow.cons_inv h
  obtain ⟨px0, rfl, rfl⟩ := Rd.int_inv ph
  obtain ⟨pd, pds, pv, pvs, rfl, rfl, ph, h_1⟩ := RdRow.cons_inv h_0
  obtain ⟨px1, rfl, rfl⟩ := Rd.bool_inv ph
  obtain ⟨pd, pds, pv, pvs, rfl, rfl, ph, h_2⟩ := RdRow.cons_inv h_1
  obtain ⟨pl2, pa2, pc2, rfl, rfl, pe2, pf2, pr2⟩ := Rd.sl_inv ph
  obtain ⟨pd, pds, pv, pvs, rfl, rfl, ph, h_3⟩ := RdRow.cons_inv h_2
  obtain ⟨pl3, pa3, pc3, rfl, rfl, pe3, pf3, pr3⟩ := Rd.sl_inv ph
  obtain ⟨pd, pds, pv, pvs, rfl, rfl, ph, h_4⟩ := RdRow.cons_inv h_3
  obtain ⟨px4, rfl, rfl⟩ := Rd.bool_inv ph
  obtain ⟨pd, pds, pv, pvs, rfl, rfl, ph, h_5⟩ := RdRow.cons_inv h_4
  obtain ⟨pl5, pa5, pc5, rfl, rfl, pe5, pf5, pr5⟩ := Rd.sl_inv ph
  obtain ⟨pd, pds, pv, pvs, rfl, rfl, ph, h_6⟩ := RdRow.cons_inv h_5
  obtain ⟨pl6, pa6, pc6, rfl, rfl, pe6, pf6, pr6⟩ := Rd.sl_inv ph
  obtain ⟨rfl, rfl⟩ := RdRow.nil_inv h_6
  obtain ⟨qv, qvs, rfl, qh, h'_0⟩ := RdRow.cons2 h'
  obtain rfl := Rd.int2 qh
  obtain ⟨qv, qvs, rfl, qh, h'_1⟩ := RdRow.cons2 h'_0
  obtain rfl := Rd.bool2 qh
  obtain ⟨qv, qvs, rfl, qh, h'_2⟩ := RdRow.cons2 h'_1
  obtain ⟨qa2, qc2, rfl, qe2, qf2, qr2⟩ := Rd.sl2 qh
  obtain ⟨qv, qvs, rfl, qh, h'_3⟩ := RdRow.cons2 h'_2
  obtain ⟨qa3, qc3, rfl, qe3, qf3, qr3⟩ := Rd.sl2 qh
  obtain ⟨qv, qvs, rfl, qh, h'_4⟩ := RdRow.cons2 h'_3
  obtain rfl := Rd.bool2 qh
  obtain ⟨qv, qvs, rfl, qh, h'_5⟩ := RdRow.cons2 h'_4
  obtain ⟨qa5, qc5, rfl, qe5, qf5, qr5⟩ := Rd.sl2 qh
  obtain ⟨qv, qvs, rfl, qh, h'_6⟩ := RdRow.cons2 h'_5
  obtain ⟨qa6, qc6, rfl, qe6, qf6, qr6⟩ := Rd.sl2 qh
  obtain ⟨-, rfl⟩ := RdRow.nil_inv h'_6
  have H2 := Lib.hid pr2
  have G2 := Lib.hid qr2
  clear pr2 qr2
  have H3 := Lib.hid pr3
  have G3 := Lib.hid qr3
  clear pr3 qr3
  have H5 := Lib.hid pr5
  have G5 := Lib.hid qr5
  clear pr5 qr5
  have H6 := Lib.hid pr6
  have G6 := Lib.hid qr6
  clear pr6 qr6
  go_enter Try.func26, Try.ntmps26
  go_wp2_with fail
  refine (eqPoint_c [.bool px1, .sl pl2, .sl pl3, .bool px4, .sl pl5, .sl pl6] [.bool px1, .slice pa2 pl2.length pc2, .slice pa3 pl3.length pc3, .bool px4, .slice pa5 pl5.length pc5, .slice pa6 pl6.length pc6] [.bool px1, .slice qa2 pl2.length qc2, .slice qa3 pl3.length qc3, .bool px4, .slice qa5 pl5.length qc5, .slice qa6 pl6.length qc6] _ (RdRow.below (by (repeat (first | with_reducible exact Below.refl _ _ | with_reducible assumption | with_reducible refine Below.drew ?_ | with_reducible refine Below.setCell ?_ ?_ _ | with_reducible refine Below.alloc ?_ ?_ _)); all_goals first | (simp; done) | (simp; omega) | omega) _ _ _ (RdRow.mk_cons (Rd.mk_bool px1) (RdRow.mk_cons H2.out (RdRow.mk_cons H3.out (RdRow.mk_cons (Rd.mk_bool px4) (RdRow.mk_cons H5.out (RdRow.mk_cons H6.out RdRow.mk_nil))))))) (RdRow.below (by (repeat (first | with_reducible exact Below.refl _ _ | with_reducible assumption | with_reducible refine Below.drew ?_ | with_reducible refine Below.setCell ?_ ?_ _ | with_reducible refine Below.alloc ?_ ?_ _)); all_goals first | (simp; done) | (simp; omega) | omega) _ _ _ (RdRow.mk_cons (Rd.mk_bool px1) (RdRow.mk_cons G2.out (RdRow.mk_cons G3.out (RdRow.mk_cons (Rd.mk_bool px4) (RdRow.mk_cons G5.out (RdRow.mk_cons G6.out RdRow.mk_nil)))))))).mono ?_
  rintro e w1 ⟨rfl, h1⟩
  have B1 : Below w.heap.size w w1 := Below.trans (by (repeat (first | with_reducible exact Below.refl _ _ | with_reducible assumption | with_reducible refine Below.drew ?_ | with_reducible refine Below.setCell ?_ ?_ _ | with_reducible refine Below.alloc ?_ ?_ _)); all_goals first | (simp; done) | (simp; omega) | omega) (h1.mono (by first | (simp; done) | (simp; omega) | omega))
  have S1 := h1.size
  have T1 := B1.size
  try simp at S1
  obtain ⟨k1, f1⟩ := bcell h1
  try simp at k1
  try simp at f1
  have Hc1 := Lib.hid h1
  clear h1
  have u1_0 : w.heap.size < w1.heap.size := by omega
  have u1_1 : w.heap.size + 1 < w1.heap.size := by omega
  go_wp2
  go_ret
  exact ⟨rfl, (by (repeat (first | with_reducible exact Below.refl _ _ | with_reducible assumption | with_reducible refine Below.drew ?_ | with_reducible refine Below.setCell ?_ ?_ _ | with_reducible refine Below.alloc ?_ ?_ _)); all_goals first | (simp; done) | (simp; omega) | omega)⟩

set_option maxRecDepth 100000 in
set_option maxHeartbeats 4000000 in
theorem toPlacement_c (ds : List Dat) (hsz : szRow ds ≤ 1048576) (vs : List Value) (w : World) (h : RdRow w [.int, .bool, .sl 3 [.int], .sl 3 [.int], .bool, .sl 3 [.int], .sl 3 [.int]] ds vs) :
    Calls Try.prog 23 #[.agg vs.toArray] w fun e w' => ∃ us : List Value, e = .returned (.agg us.toArray) ∧ Own w' w.heap.size w'.heap.size [.int, .bool, .sl 3 [.int], .sl 3 [.int], .bool, .sl 3 [.int], .sl 3 [.int]] ds us ∧ Below w.heap.size w w' := by
  obtain ⟨pd, pds, pv, pvs, rfl, rfl, ph, h_0⟩ := RdRow.cons_inv h
  obtain ⟨px0, rfl, rfl⟩ := Rd.int_inv ph
  obtain ⟨pd, pds, pv, pvs, rfl, rfl, ph, h_1⟩ := RdRow.cons_inv h_0
  obtain ⟨px1, rfl, rfl⟩ := Rd.bool_inv ph
  obtain ⟨pd, pds, pv, pvs, rfl, rfl, ph, h_2⟩ := RdRow.cons_inv h_1
  obtain ⟨pl2, pa2, pc2, rfl, rfl, pe2, pf2, pr2⟩ := Rd.sl_inv ph
  obtain ⟨pd, pds, pv, pvs, rfl, rfl, ph, h_3⟩ := RdRow.cons_inv h_2
  obtain ⟨pl3, pa3, pc3, rfl, rfl, pe3, pf3, pr3⟩ := Rd.sl_inv ph
  obtain ⟨pd, pds, pv, pvs, rfl, rfl, ph, h_4⟩ := RdRow.cons_inv h_3
  obtain ⟨px4, rfl, rfl⟩ := Rd.bool_inv ph
  obtain ⟨pd, pds, pv, pvs, rfl, rfl, ph, h_5⟩ := RdRow.cons_inv h_4
  obtain ⟨pl5, pa5, pc5, rfl, rfl, pe5, pf5, pr5⟩ := Rd.sl_inv ph
  obtain ⟨pd, pds, pv, pvs, rfl, rfl, ph, h_6⟩ := RdRow.cons_inv h_5
  obtain ⟨pl6, pa6, pc6, rfl, rfl, pe6, pf6, pr6⟩ := Rd.sl_inv ph
  obtain ⟨rfl, rfl⟩ := RdRow.nil_inv h_6
  have H2 := Lib.hid pr2
  clear pr2
  have H3 := Lib.hid pr3
  clear pr3
  have H5 := Lib.hid pr5
  clear pr5
  have H6 := Lib.hid pr6
  clear pr6
  simp only [szRow, Dat.sz] at hsz
  have HZ := Lib.hid hsz
  clear hsz
  go_enter Try.func23, Try.ntmps23
  go_wp2_with fail
  refine (toPoint_c [.bool px1, .sl pl2, .sl pl3, .bool px4, .sl pl5, .sl pl6] (by have hz := HZ.out; simp only [szRow, Dat.sz]; omega) [.bool px1, .slice pa2 pl2.length pc2, .slice pa3 pl3.length pc3, .bool px4, .slice pa5 pl5.length pc5, .slice pa6 pl6.length pc6] _ (RdRow.below (by (repeat (first | with_reducible exact Below.refl _ _ | with_reducible assumption | with_reducible refine Below.drew ?_ | with_reducible refine Below.setCell ?_ ?_ _ | with_reducible refine Below.alloc ?_ ?_ _)); all_goals first | (simp; done) | (simp; omega) | omega) _ _ _ (RdRow.mk_cons (Rd.mk_bool px1) (RdRow.mk_cons H2.out (RdRow.mk_cons H3.out (RdRow.mk_cons (Rd.mk_bool px4) (RdRow.mk_cons H5.out (RdRow.mk_cons H6.out RdRow.mk_nil)))))))).mono ?_
  rintro e w1 ⟨u1, rfl, ho1, h1⟩
  have B1 : Below w.heap.size w w1 := Below.trans (by (repeat (first | with_reducible exact Below.refl _ _ | with_reducible assumption | with_reducible refine Below.drew ?_ | with_reducible refine Below.setCell ?_ ?_ _ | with_reducible refine Below.alloc ?_ ?_ _)); all_goals first | (simp; done) | (simp; omega) | omega) (h1.mono (by first | (simp; done) | (simp; omega) | omega))
  have S1 := h1.size
  have T1 := B1.size
  try simp at S1
  obtain ⟨k1, f1⟩ := bcell h1
  try simp at k1
  try simp at f1
  have Hc1 := Lib.hid h1
  clear h1
  have u1_0 : w.heap.size < w1.heap.size := by omega
  have u1_1 : w.heap.size + 1 < w1.heap.size := by omega
  have u1_2 : w.heap.size + 1 + 1 < w1.heap.size := by omega
  obtain ⟨ub2, uc2, ub3, uc3, ub5, uc5, ub6, uc6, rfl⟩ : ∃ ub2 uc2 ub3 uc3 ub5 uc5 ub6 uc6, u1 = [.bool px1, .slice ub2 pl2.length uc2, .slice ub3 pl3.length uc3, .bool px4, .slice ub5 pl5.length uc5, .slice ub6 pl6.length uc6] := by
    have q := ho1.rd
    obtain ⟨v1, q1, rfl, e1, q_1⟩ := RdRow.cons2 q
    obtain rfl := Rd.bool2 e1
    obtain ⟨v2, q2, rfl, e2, q_2⟩ := RdRow.cons2 q_1
    obtain ⟨a2, c2, rfl, -⟩ := Rd.sl2 e2
    obtain ⟨v3, q3, rfl, e3, q_3⟩ := RdRow.cons2 q_2
    obtain ⟨a3, c3, rfl, -⟩ := Rd.sl2 e3
    obtain ⟨v4, q4, rfl, e4, q_4⟩ := RdRow.cons2 q_3
    obtain rfl := Rd.bool2 e4
    obtain ⟨v5, q5, rfl, e5, q_5⟩ := RdRow.cons2 q_4
    obtain ⟨a5, c5, rfl, -⟩ := Rd.sl2 e5
    obtain ⟨v6, q6, rfl, e6, q_6⟩ := RdRow.cons2 q_5
    obtain ⟨a6, c6, rfl, -⟩ := Rd.sl2 e6
    obtain ⟨-, rfl⟩ := RdRow.nil_inv q_6
    exact ⟨a2, c2, a3, c3, a5, c5, a6, c6, rfl⟩
  have P1 : OnlyIn (fun b => b < w.heap.size + 3) w w1 := OnlyIn.trans (by (repeat (first | with_reducible exact OnlyIn.refl _ _ | with_reducible refine OnlyIn.setCell ?_ ?_ _ | with_reducible refine OnlyIn.alloc ?_ _)); all_goals (show _ < _; first | (simp; done) | (simp; omega) | omega)) (OnlyIn.of_below Hc1.out)
  have O1 := Lib.hid ho1
  have PP1 := Lib.hid P1
  clear ho1 P1
  have r0_ : w1.cell? ⟨w.heap.size + 1 + 1, 0, none⟩ = some (.int .i64 px0) := by go_simp
  have s0_ : w1.cell? ⟨w.heap.size + 1, 0, none⟩ = some (.int .i64 0) := by go_simp
  have f0_ : w1.frozen? ⟨w.heap.size + 1, 0, none⟩ = false := by go_simp
  have r1_ : w1.cell? ⟨w.heap.size + 1 + 1, 1, none⟩ = some (.bool false) := by go_simp
  have s1_ : w1.cell? ⟨w.heap.size + 1, 1, none⟩ = some (.bool false) := by go_simp
  have f1_ : w1.frozen? ⟨w.heap.size + 1, 1, none⟩ = false := by go_simp
  have g1_ : w1.frozen? ⟨w.heap.size + 1 + 1, 1, none⟩ = false := by go_simp
  have r2_ : w1.cell? ⟨w.heap.size + 1 + 1, 2, none⟩ = some (.slice none 0 0) := by go_simp
  have s2_ : w1.cell? ⟨w.heap.size + 1, 2, none⟩ = some (.slice none 0 0) := by go_simp
  have f2_ : w1.frozen? ⟨w.heap.size + 1, 2, none⟩ = false := by go_simp
  have g2_ : w1.frozen? ⟨w.heap.size + 1 + 1, 2, none⟩ = false := by go_simp
  have r3_ : w1.cell? ⟨w.heap.size + 1 + 1, 3, none⟩ = some (.slice none 0 0) := by go_simp
  have s3_ : w1.cell? ⟨w.heap.size + 1, 3, none⟩ = some (.slice none 0 0) := by go_simp
  have f3_ : w1.frozen? ⟨w.heap.size + 1, 3, none⟩ = false := by go_simp
  have g3_ : w1.frozen? ⟨w.heap.size + 1 + 1, 3, none⟩ = false := by go_simp
  have r4_ : w1.cell? ⟨w.heap.size + 1 + 1, 4, none⟩ = some (.bool false) := by go_simp
  have s4_ : w1.cell? ⟨w.heap.size + 1, 4, none⟩ = some (.bool false) := by go_simp
  have f4_ : w1.frozen? ⟨w.heap.size + 1, 4, none⟩ = false := by go_simp
  have g4_ : w1.frozen? ⟨w.heap.size + 1 + 1, 4, none⟩ = false := by go_simp
  have r5_ : w1.cell? ⟨w.heap.size + 1 + 1, 5, none⟩ = some (.slice none 0 0) := by go_simp
  have s5_ : w1.cell? ⟨w.heap.size + 1, 5, none⟩ = some (.slice none 0 0) := by go_simp
  have f5_ : w1.frozen? ⟨w.heap.size + 1, 5, none⟩ = false := by go_simp
  have g5_ : w1.frozen? ⟨w.heap.size + 1 + 1, 5, none⟩ = false := by go_simp
  have r6_ : w1.cell? ⟨w.heap.size + 1 + 1, 6, none⟩ = some (.slice none 0 0) := by go_simp
  have s6_ : w1.cell? ⟨w.heap.size + 1, 6, none⟩ = some (.slice none 0 0) := by go_simp
  have f6_ : w1.frozen? ⟨w.heap.size + 1, 6, none⟩ = false := by go_simp
  have g6_ : w1.frozen? ⟨w.heap.size + 1 + 1, 6, none⟩ = false := by go_simp
  clear k1 f1
  have q0_ : (((((((((((((w1.setCell ⟨w.heap.size + 1 + 1, 1, none⟩ (.bool px1)).setCell ⟨w.heap.size + 1 + 1, 2, none⟩ (.slice ub2 pl2.length uc2)).setCell ⟨w.heap.size + 1 + 1, 3, none⟩ (.slice ub3 pl3.length uc3)).setCell ⟨w.heap.size + 1 + 1, 4, none⟩ (.bool px4)).setCell ⟨w.heap.size + 1 + 1, 5, none⟩ (.slice ub5 pl5.length uc5)).setCell ⟨w.heap.size + 1 + 1, 6, none⟩ (.slice ub6 pl6.length uc6)).setCell ⟨w.heap.size + 1, 0, none⟩ (.int .i64 px0)).setCell ⟨w.heap.size + 1, 1, none⟩ (.bool px1)).setCell ⟨w.heap.size + 1, 2, none⟩ (.slice ub2 pl2.length uc2)).setCell ⟨w.heap.size + 1, 3, none⟩ (.slice ub3 pl3.length uc3)).setCell ⟨w.heap.size + 1, 4, none⟩ (.bool px4)).setCell ⟨w.heap.size + 1, 5, none⟩ (.slice ub5 pl5.length uc5)).setCell ⟨w.heap.size + 1, 6, none⟩ (.slice ub6 pl6.length uc6)).cell? ⟨w.heap.size + 1, 0, none⟩ = some (.int .i64 px0) := by go_simp
  have q1_ : (((((((((((((w1.setCell ⟨w.heap.size + 1 + 1, 1, none⟩ (.bool px1)).setCell ⟨w.heap.size + 1 + 1, 2, none⟩ (.slice ub2 pl2.length uc2)).setCell ⟨w.heap.size + 1 + 1, 3, none⟩ (.slice ub3 pl3.length uc3)).setCell ⟨w.heap.size + 1 + 1, 4, none⟩ (.bool px4)).setCell ⟨w.heap.size + 1 + 1, 5, none⟩ (.slice ub5 pl5.length uc5)).setCell ⟨w.heap.size + 1 + 1, 6, none⟩ (.slice ub6 pl6.length uc6)).setCell ⟨w.heap.size + 1, 0, none⟩ (.int .i64 px0)).setCell ⟨w.heap.size + 1, 1, none⟩ (.bool px1)).setCell ⟨w.heap.size + 1, 2, none⟩ (.slice ub2 pl2.length uc2)).setCell ⟨w.heap.size + 1, 3, none⟩ (.slice ub3 pl3.length uc3)).setCell ⟨w.heap.size + 1, 4, none⟩ (.bool px4)).setCell ⟨w.heap.size + 1, 5, none⟩ (.slice ub5 pl5.length uc5)).setCell ⟨w.heap.size + 1, 6, none⟩ (.slice ub6 pl6.length uc6)).cell? ⟨w.heap.size + 1, 1, none⟩ = some (.bool px1) := by go_simp
  have q2_ : (((((((((((((w1.setCell ⟨w.heap.size + 1 + 1, 1, none⟩ (.bool px1)).setCell ⟨w.heap.size + 1 + 1, 2, none⟩ (.slice ub2 pl2.length uc2)).setCell ⟨w.heap.size + 1 + 1, 3, none⟩ (.slice ub3 pl3.length uc3)).setCell ⟨w.heap.size + 1 + 1, 4, none⟩ (.bool px4)).setCell ⟨w.heap.size + 1 + 1, 5, none⟩ (.slice ub5 pl5.length uc5)).setCell ⟨w.heap.size + 1 + 1, 6, none⟩ (.slice ub6 pl6.length uc6)).setCell ⟨w.heap.size + 1, 0, none⟩ (.int .i64 px0)).setCell ⟨w.heap.size + 1, 1, none⟩ (.bool px1)).setCell ⟨w.heap.size + 1, 2, none⟩ (.slice ub2 pl2.length uc2)).setCell ⟨w.heap.size + 1, 3, none⟩ (.slice ub3 pl3.length uc3)).setCell ⟨w.heap.size + 1, 4, none⟩ (.bool px4)).setCell ⟨w.heap.size + 1, 5, none⟩ (.slice ub5 pl5.length uc5)).setCell ⟨w.heap.size + 1, 6, none⟩ (.slice ub6 pl6.length uc6)).cell? ⟨w.heap.size + 1, 2, none⟩ = some (.slice ub2 pl2.length uc2) := by go_simp
  have q3_ : (((((((((((((w1.setCell ⟨w.heap.size + 1 + 1, 1, none⟩ (.bool px1)).setCell ⟨w.heap.size + 1 + 1, 2, none⟩ (.slice ub2 pl2.length uc2)).setCell ⟨w.heap.size + 1 + 1, 3, none⟩ (.slice ub3 pl3.length uc3)).setCell ⟨w.heap.size + 1 + 1, 4, none⟩ (.bool px4)).setCell ⟨w.heap.size + 1 + 1, 5, none⟩ (.slice ub5 pl5.length uc5)).setCell ⟨w.heap.size + 1 + 1, 6, none⟩ (.slice ub6 pl6.length uc6)).setCell ⟨w.heap.size + 1, 0, none⟩ (.int .i64 px0)).setCell ⟨w.heap.size + 1, 1, none⟩ (.bool px1)).setCell ⟨w.heap.size + 1, 2, none⟩ (.slice ub2 pl2.length uc2)).setCell ⟨w.heap.size + 1, 3, none⟩ (.slice ub3 pl3.length uc3)).setCell ⟨w.heap.size + 1, 4, none⟩ (.bool px4)).setCell ⟨w.heap.size + 1, 5, none⟩ (.slice ub5 pl5.length uc5)).setCell ⟨w.heap.size + 1, 6, none⟩ (.slice ub6 pl6.length uc6)).cell? ⟨w.heap.size + 1, 3, none⟩ = some (.slice ub3 pl3.length uc3) := by go_simp
  have q4_ : (((((((((((((w1.setCell ⟨w.heap.size + 1 + 1, 1, none⟩ (.bool px1)).setCell ⟨w.heap.size + 1 + 1, 2, none⟩ (.slice ub2 pl2.length uc2)).setCell ⟨w.heap.size + 1 + 1, 3, none⟩ (.slice ub3 pl3.length uc3)).setCell ⟨w.heap.size + 1 + 1, 4, none⟩ (.bool px4)).setCell ⟨w.heap.size + 1 + 1, 5, none⟩ (.slice ub5 pl5.length uc5)).setCell ⟨w.heap.size + 1 + 1, 6, none⟩ (.slice ub6 pl6.length uc6)).setCell ⟨w.heap.size + 1, 0, none⟩ (.int .i64 px0)).setCell ⟨w.heap.size + 1, 1, none⟩ (.bool px1)).setCell ⟨w.heap.size + 1, 2, none⟩ (.slice ub2 pl2.length uc2)).setCell ⟨w.heap.size + 1, 3, none⟩ (.slice ub3 pl3.length uc3)).setCell ⟨w.heap.size + 1, 4, none⟩ (.bool px4)).setCell ⟨w.heap.size + 1, 5, none⟩ (.slice ub5 pl5.length uc5)).setCell ⟨w.heap.size + 1, 6, none⟩ (.slice ub6 pl6.length uc6)).cell? ⟨w.heap.size + 1, 4, none⟩ = some (.bool px4) := by go_simp
  have q5_ : (((((((((((((w1.setCell ⟨w.heap.size + 1 + 1, 1, none⟩ (.bool px1)).setCell ⟨w.heap.size + 1 + 1, 2, none⟩ (.slice ub2 pl2.length uc2)).setCell ⟨w.heap.size + 1 + 1, 3, none⟩ (.slice ub3 pl3.length uc3)).setCell ⟨w.heap.size + 1 + 1, 4, none⟩ (.bool px4)).setCell ⟨w.heap.size + 1 + 1, 5, none⟩ (.slice ub5 pl5.length uc5)).setCell ⟨w.heap.size + 1 + 1, 6, none⟩ (.slice ub6 pl6.length uc6)).setCell ⟨w.heap.size + 1, 0, none⟩ (.int .i64 px0)).setCell ⟨w.heap.size + 1, 1, none⟩ (.bool px1)).setCell ⟨w.heap.size + 1, 2, none⟩ (.slice ub2 pl2.length uc2)).setCell ⟨w.heap.size + 1, 3, none⟩ (.slice ub3 pl3.length uc3)).setCell ⟨w.heap.size + 1, 4, none⟩ (.bool px4)).setCell ⟨w.heap.size + 1, 5, none⟩ (.slice ub5 pl5.length uc5)).setCell ⟨w.heap.size + 1, 6, none⟩ (.slice ub6 pl6.length uc6)).cell? ⟨w.heap.size + 1, 5, none⟩ = some (.slice ub5 pl5.length uc5) := by go_simp
  have q6_ : (((((((((((((w1.setCell ⟨w.heap.size + 1 + 1, 1, none⟩ (.bool px1)).setCell ⟨w.heap.size + 1 + 1, 2, none⟩ (.slice ub2 pl2.length uc2)).setCell ⟨w.heap.size + 1 + 1, 3, none⟩ (.slice ub3 pl3.length uc3)).setCell ⟨w.heap.size + 1 + 1, 4, none⟩ (.bool px4)).setCell ⟨w.heap.size + 1 + 1, 5, none⟩ (.slice ub5 pl5.length uc5)).setCell ⟨w.heap.size + 1 + 1, 6, none⟩ (.slice ub6 pl6.length uc6)).setCell ⟨w.heap.size + 1, 0, none⟩ (.int .i64 px0)).setCell ⟨w.heap.size + 1, 1, none⟩ (.bool px1)).setCell ⟨w.heap.size + 1, 2, none⟩ (.slice ub2 pl2.length uc2)).setCell ⟨w.heap.size + 1, 3, none⟩ (.slice ub3 pl3.length uc3)).setCell ⟨w.heap.size + 1, 4, none⟩ (.bool px4)).setCell ⟨w.heap.size + 1, 5, none⟩ (.slice ub5 pl5.length uc5)).setCell ⟨w.heap.size + 1, 6, none⟩ (.slice ub6 pl6.length uc6)).cell? ⟨w.heap.size + 1, 6, none⟩ = some (.slice ub6 pl6.length uc6) := by go_simp
  have QQ := Lib.hid (And.intro q0_ (And.intro q1_ (And.intro q2_ (And.intro q3_ (And.intro q4_ (And.intro q5_ (q6_)))))))
  clear q0_ q1_ q2_ q3_ q4_ q5_ q6_
  have PF : OnlyIn (fun b => b < w.heap.size + 3) w1 (((((((((((((w1.setCell ⟨w.heap.size + 1 + 1, 1, none⟩ (.bool px1)).setCell ⟨w.heap.size + 1 + 1, 2, none⟩ (.slice ub2 pl2.length uc2)).setCell ⟨w.heap.size + 1 + 1, 3, none⟩ (.slice ub3 pl3.length uc3)).setCell ⟨w.heap.size + 1 + 1, 4, none⟩ (.bool px4)).setCell ⟨w.heap.size + 1 + 1, 5, none⟩ (.slice ub5 pl5.length uc5)).setCell ⟨w.heap.size + 1 + 1, 6, none⟩ (.slice ub6 pl6.length uc6)).setCell ⟨w.heap.size + 1, 0, none⟩ (.int .i64 px0)).setCell ⟨w.heap.size + 1, 1, none⟩ (.bool px1)).setCell ⟨w.heap.size + 1, 2, none⟩ (.slice ub2 pl2.length uc2)).setCell ⟨w.heap.size + 1, 3, none⟩ (.slice ub3 pl3.length uc3)).setCell ⟨w.heap.size + 1, 4, none⟩ (.bool px4)).setCell ⟨w.heap.size + 1, 5, none⟩ (.slice ub5 pl5.length uc5)).setCell ⟨w.heap.size + 1, 6, none⟩ (.slice ub6 pl6.length uc6)) := (by (repeat (first | with_reducible exact OnlyIn.refl _ _ | with_reducible refine OnlyIn.setCell ?_ ?_ _ | with_reducible refine OnlyIn.alloc ?_ _)); all_goals (show _ < _; first | (simp; done) | (simp; omega) | omega))
  have BF : Below w.heap.size w (((((((((((((w1.setCell ⟨w.heap.size + 1 + 1, 1, none⟩ (.bool px1)).setCell ⟨w.heap.size + 1 + 1, 2, none⟩ (.slice ub2 pl2.length uc2)).setCell ⟨w.heap.size + 1 + 1, 3, none⟩ (.slice ub3 pl3.length uc3)).setCell ⟨w.heap.size + 1 + 1, 4, none⟩ (.bool px4)).setCell ⟨w.heap.size + 1 + 1, 5, none⟩ (.slice ub5 pl5.length uc5)).setCell ⟨w.heap.size + 1 + 1, 6, none⟩ (.slice ub6 pl6.length uc6)).setCell ⟨w.heap.size + 1, 0, none⟩ (.int .i64 px0)).setCell ⟨w.heap.size + 1, 1, none⟩ (.bool px1)).setCell ⟨w.heap.size + 1, 2, none⟩ (.slice ub2 pl2.length uc2)).setCell ⟨w.heap.size + 1, 3, none⟩ (.slice ub3 pl3.length uc3)).setCell ⟨w.heap.size + 1, 4, none⟩ (.bool px4)).setCell ⟨w.heap.size + 1, 5, none⟩ (.slice ub5 pl5.length uc5)).setCell ⟨w.heap.size + 1, 6, none⟩ (.slice ub6 pl6.length uc6)) := (by (repeat (first | with_reducible exact Below.refl _ _ | with_reducible assumption | with_reducible refine Below.drew ?_ | with_reducible refine Below.setCell ?_ ?_ _ | with_reducible refine Below.alloc ?_ ?_ _)); all_goals first | (simp; done) | (simp; omega) | omega)
  have FIN : Own (((((((((((((w1.setCell ⟨w.heap.size + 1 + 1, 1, none⟩ (.bool px1)).setCell ⟨w.heap.size + 1 + 1, 2, none⟩ (.slice ub2 pl2.length uc2)).setCell ⟨w.heap.size + 1 + 1, 3, none⟩ (.slice ub3 pl3.length uc3)).setCell ⟨w.heap.size + 1 + 1, 4, none⟩ (.bool px4)).setCell ⟨w.heap.size + 1 + 1, 5, none⟩ (.slice ub5 pl5.length uc5)).setCell ⟨w.heap.size + 1 + 1, 6, none⟩ (.slice ub6 pl6.length uc6)).setCell ⟨w.heap.size + 1, 0, none⟩ (.int .i64 px0)).setCell ⟨w.heap.size + 1, 1, none⟩ (.bool px1)).setCell ⟨w.heap.size + 1, 2, none⟩ (.slice ub2 pl2.length uc2)).setCell ⟨w.heap.size + 1, 3, none⟩ (.slice ub3 pl3.length uc3)).setCell ⟨w.heap.size + 1, 4, none⟩ (.bool px4)).setCell ⟨w.heap.size + 1, 5, none⟩ (.slice ub5 pl5.length uc5)).setCell ⟨w.heap.size + 1, 6, none⟩ (.slice ub6 pl6.length uc6)) w.heap.size (((((((((((((w1.setCell ⟨w.heap.size + 1 + 1, 1, none⟩ (.bool px1)).setCell ⟨w.heap.size + 1 + 1, 2, none⟩ (.slice ub2 pl2.length uc2)).setCell ⟨w.heap.size + 1 + 1, 3, none⟩ (.slice ub3 pl3.length uc3)).setCell ⟨w.heap.size + 1 + 1, 4, none⟩ (.bool px4)).setCell ⟨w.heap.size + 1 + 1, 5, none⟩ (.slice ub5 pl5.length uc5)).setCell ⟨w.heap.size + 1 + 1, 6, none⟩ (.slice ub6 pl6.length uc6)).setCell ⟨w.heap.size + 1, 0, none⟩ (.int .i64 px0)).setCell ⟨w.heap.size + 1, 1, none⟩ (.bool px1)).setCell ⟨w.heap.size + 1, 2, none⟩ (.slice ub2 pl2.length uc2)).setCell ⟨w.heap.size + 1, 3, none⟩ (.slice ub3 pl3.length uc3)).setCell ⟨w.heap.size + 1, 4, none⟩ (.bool px4)).setCell ⟨w.heap.size + 1, 5, none⟩ (.slice ub5 pl5.length uc5)).setCell ⟨w.heap.size + 1, 6, none⟩ (.slice ub6 pl6.length uc6)).heap.size [.int, .bool, .sl 3 [.int], .sl 3 [.int], .bool, .sl 3 [.int], .sl 3 [.int]] [.int px0, .bool px1, .sl pl2, .sl pl3, .bool px4, .sl pl5, .sl pl6] [.int .i64 px0, .bool px1, .slice ub2 pl2.length uc2, .slice ub3 pl3.length uc3, .bool px4, .slice ub5 pl5.length uc5, .slice ub6 pl6.length uc6] := by
    have hsz_ : (((((((((((((w1.setCell ⟨w.heap.size + 1 + 1, 1, none⟩ (.bool px1)).setCell ⟨w.heap.size + 1 + 1, 2, none⟩ (.slice ub2 pl2.length uc2)).setCell ⟨w.heap.size + 1 + 1, 3, none⟩ (.slice ub3 pl3.length uc3)).setCell ⟨w.heap.size + 1 + 1, 4, none⟩ (.bool px4)).setCell ⟨w.heap.size + 1 + 1, 5, none⟩ (.slice ub5 pl5.length uc5)).setCell ⟨w.heap.size + 1 + 1, 6, none⟩ (.slice ub6 pl6.length uc6)).setCell ⟨w.heap.size + 1, 0, none⟩ (.int .i64 px0)).setCell ⟨w.heap.size + 1, 1, none⟩ (.bool px1)).setCell ⟨w.heap.size + 1, 2, none⟩ (.slice ub2 pl2.length uc2)).setCell ⟨w.heap.size + 1, 3, none⟩ (.slice ub3 pl3.length uc3)).setCell ⟨w.heap.size + 1, 4, none⟩ (.bool px4)).setCell ⟨w.heap.size + 1, 5, none⟩ (.slice ub5 pl5.length uc5)).setCell ⟨w.heap.size + 1, 6, none⟩ (.slice ub6 pl6.length uc6)).heap.size = w1.heap.size := by simp [World.setCell]
    rw [hsz_]
    have own1 : Own (((((((((((((w1.setCell ⟨w.heap.size + 1 + 1, 1, none⟩ (.bool px1)).setCell ⟨w.heap.size + 1 + 1, 2, none⟩ (.slice ub2 pl2.length uc2)).setCell ⟨w.heap.size + 1 + 1, 3, none⟩ (.slice ub3 pl3.length uc3)).setCell ⟨w.heap.size + 1 + 1, 4, none⟩ (.bool px4)).setCell ⟨w.heap.size + 1 + 1, 5, none⟩ (.slice ub5 pl5.length uc5)).setCell ⟨w.heap.size + 1 + 1, 6, none⟩ (.slice ub6 pl6.length uc6)).setCell ⟨w.heap.size + 1, 0, none⟩ (.int .i64 px0)).setCell ⟨w.heap.size + 1, 1, none⟩ (.bool px1)).setCell ⟨w.heap.size + 1, 2, none⟩ (.slice ub2 pl2.length uc2)).setCell ⟨w.heap.size + 1, 3, none⟩ (.slice ub3 pl3.length uc3)).setCell ⟨w.heap.size + 1, 4, none⟩ (.bool px4)).setCell ⟨w.heap.size + 1, 5, none⟩ (.slice ub5 pl5.length uc5)).setCell ⟨w.heap.size + 1, 6, none⟩ (.slice ub6 pl6.length uc6)) (w.heap.size + 3) w1.heap.size [.bool, .sl 3 [.int], .sl 3 [.int], .bool, .sl 3 [.int], .sl 3 [.int]] [.bool px1, .sl pl2, .sl pl3, .bool px4, .sl pl5, .sl pl6] [.bool px1, .slice ub2 pl2.length uc2, .slice ub3 pl3.length uc3, .bool px4, .slice ub5 pl5.length uc5, .slice ub6 pl6.length uc6] := by
      have o := O1.out
      simp only [World.size_alloc] at o
      exact (o.only (PF) (fun b hb => .inl (by omega))).mono (by omega) (Nat.le_refl _)
    exact (((Own.nil _ w.heap.size (w.heap.size + 3)).append (Own.leaf (hi := w.heap.size + 3) (Fp.mk_int _)) (by omega) (by omega)).append own1 (by omega) (by omega)).mono (Nat.le_refl _) (by omega)
  have FF := Lib.hid FIN
  clear FIN PF
  go_wp2
  obtain ⟨q0_, q1_, q2_, q3_, q4_, q5_, q6_⟩ := QQ.out
  exact bodyPost_ret (v := .agg #[.int .i64 px0, .bool px1, .slice ub2 pl2.length uc2, .slice ub3 pl3.length uc3, .bool px4, .slice ub5 pl5.length uc5, .slice ub6 pl6.length uc6]) (by simp [results, Try.results23, go_sem, q0_, q1_, q2_, q3_, q4_, q5_, q6_]) rfl ⟨_, rfl, FF.out, BF⟩

set_option maxRecDepth 100000 in
set_option maxHeartbeats 4000000 in
theorem markPlacement_c (ds : List Dat) (k : Int) (hk0 : 0 ≤ k) (hk1 : k + (cntV ds : Int) ≤ 4611686018427387904) (bs : List Nat) (hn : bs.Nodup) (vs : List Value) (w : World) (h : FpRow w [.int, .bool, .sl 3 [.int], .sl 3 [.int], .bool, .sl 3 [.int], .sl 3 [.int]] ds vs bs) :
    Calls Try.prog 28 #[.agg vs.toArray, .int .i64 k] w fun e w' => e = .returned (.int .i64 (k + (cntV ds : Int))) ∧ FpRow w' [.int, .bool, .sl 3 [.int], .sl 3 [.int], .bool, .sl 3 [.int], .sl 3 [.int]] (mkV k ds) vs bs ∧ OnlyIn (fun b => b ∈ bs) w w' := by
  have hrd := FpRow.rd _ _ _ _ h
  have hlt := FpRow.lt _ _ _ _ h
  obtain ⟨pd, pds, pv, pvs, rfl, rfl, ph, hrd_0⟩ := RdRow.cons_inv hrd
  obtain ⟨px0, rfl, rfl⟩ := Rd.int_inv ph
  obtain ⟨pd, pds, pv, pvs, rfl, rfl, ph, hrd_1⟩ := RdRow.cons_inv hrd_0
  obtain ⟨px1, rfl, rfl⟩ := Rd.bool_inv ph
  obtain ⟨pd, pds, pv, pvs, rfl, rfl, ph, hrd_2⟩ := RdRow.cons_inv hrd_1
  obtain ⟨pl2, pa2, pc2, rfl, rfl, pe2, pf2, pr2⟩ := Rd.sl_inv ph
  obtain ⟨pd, pds, pv, pvs, rfl, rfl, ph, hrd_3⟩ := RdRow.cons_inv hrd_2
  obtain ⟨pl3, pa3, pc3, rfl, rfl, pe3, pf3, pr3⟩ := Rd.sl_inv ph
  obtain ⟨pd, pds, pv, pvs, rfl, rfl, ph, hrd_4⟩ := RdRow.cons_inv hrd_3
  obtain ⟨px4, rfl, rfl⟩ := Rd.bool_inv ph
  obtain ⟨pd, pds, pv, pvs, rfl, rfl, ph, hrd_5⟩ := RdRow.cons_inv hrd_4
  obtain ⟨pl5, pa5, pc5, rfl, rfl, pe5, pf5, pr5⟩ := Rd.sl_inv ph
  obtain ⟨pd, pds, pv, pvs, rfl, rfl, ph, hrd_6⟩ := RdRow.cons_inv hrd_5
  obtain ⟨pl6, pa6, pc6, rfl, rfl, pe6, pf6, pr6⟩ := Rd.sl_inv ph
  obtain ⟨rfl, rfl⟩ := RdRow.nil_inv hrd_6
  clear pr2
  clear pr3
  clear pr5
  clear pr6
  have hfin : k + (cntRows pl2 : Int) + (cntRows pl3 : Int) + (cntRows pl5 : Int) + (cntRows pl6 : Int) = k + (cntV [.int px0, .bool px1, .sl pl2, .sl pl3, .bool px4, .sl pl5, .sl pl6] : Int) := by simp only [cntV, Dat.cntV]; omega
  rw [← hfin] at hk1
  have HF := Lib.hid hfin
  clear hfin
  have y3a : 0 ≤ k + (cntRows pl2 : Int) := by omega
  have y3b : k + (cntRows pl2 : Int) ≤ 4611686018427387904 := by omega
  have y4a : 0 ≤ k + (cntRows pl2 : Int) + (cntRows pl3 : Int) := by omega
  have y4b : k + (cntRows pl2 : Int) + (cntRows pl3 : Int) ≤ 4611686018427387904 := by omega
  have y6a : 0 ≤ k + (cntRows pl2 : Int) + (cntRows pl3 : Int) + (cntRows pl5 : Int) := by omega
  have y6b : k + (cntRows pl2 : Int) + (cntRows pl3 : Int) + (cntRows pl5 : Int) ≤ 4611686018427387904 := by omega
  have y7a : 0 ≤ k + (cntRows pl2 : Int) + (cntRows pl3 : Int) + (cntRows pl5 : Int) + (cntRows pl6 : Int) := by omega
  have y7b : k + (cntRows pl2 : Int) + (cntRows pl3 : Int) + (cntRows pl5 : Int) + (cntRows pl6 : Int) ≤ 4611686018427387904 := by omega
  have hmk : mkV k [.int px0, .bool px1, .sl pl2, .sl pl3, .bool px4, .sl pl5, .sl pl6] = [.int px0, .bool px1, .sl (mkRows (k) pl2), .sl (mkRows (k + (cntRows pl2 : Int)) pl3), .bool px4, .sl (mkRows (k + (cntRows pl2 : Int) + (cntRows pl3 : Int)) pl5), .sl (mkRows (k + (cntRows pl2 : Int) + (cntRows pl3 : Int) + (cntRows pl5 : Int)) pl6)] := by simp [mkV, Dat.mkV, Dat.cntV]
  rw [hmk]
  clear hmk
  have HLT := Lib.hid hlt
  have HN := Lib.hid hn
  have F := Lib.hid (FpRow.below ((Below.refl _ _).alloc (Nat.le_refl _) _) h : FpRow (w.alloc (.cells #[.int .i64 px0, .bool px1, .slice pa2 pl2.length pc2, .slice pa3 pl3.length pc3, .bool px4, .slice pa5 pl5.length pc5, .slice pa6 pl6.length pc6] 62)) [.int, .bool, .sl 3 [.int], .sl 3 [.int], .bool, .sl 3 [.int], .sl 3 [.int]] [.int px0, .bool px1, .sl pl2, .sl pl3, .bool px4, .sl pl5, .sl pl6] [.int .i64 px0, .bool px1, .slice pa2 pl2.length pc2, .slice pa3 pl3.length pc3, .bool px4, .slice pa5 pl5.length pc5, .slice pa6 pl6.length pc6] bs)
  have N : Hid (OnlyIn (fun b => b ∈ bs) w (w.alloc (.cells #[.int .i64 px0, .bool px1, .slice pa2 pl2.length pc2, .slice pa3 pl3.length pc3, .bool px4, .slice pa5 pl5.length pc5, .slice pa6 pl6.length pc6] 62))) := (OnlyIn.refl _ _).alloc _
  clear h hlt hn
  have c0 : (w.alloc (.cells #[.int .i64 px0, .bool px1, .slice pa2 pl2.length pc2, .slice pa3 pl3.length pc3, .bool px4, .slice pa5 pl5.length pc5, .slice pa6 pl6.length pc6] 62)).cell? ⟨w.heap.size, 0, none⟩ = some (.int .i64 px0) := by go_simp
  have c1 : (w.alloc (.cells #[.int .i64 px0, .bool px1, .slice pa2 pl2.length pc2, .slice pa3 pl3.length pc3, .bool px4, .slice pa5 pl5.length pc5, .slice pa6 pl6.length pc6] 62)).cell? ⟨w.heap.size, 1, none⟩ = some (.bool px1) := by go_simp
  have c2 : (w.alloc (.cells #[.int .i64 px0, .bool px1, .slice pa2 pl2.length pc2, .slice pa3 pl3.length pc3, .bool px4, .slice pa5 pl5.length pc5, .slice pa6 pl6.length pc6] 62)).cell? ⟨w.heap.size, 2, none⟩ = some (.slice pa2 pl2.length pc2) := by go_simp
  have c3 : (w.alloc (.cells #[.int .i64 px0, .bool px1, .slice pa2 pl2.length pc2, .slice pa3 pl3.length pc3, .bool px4, .slice pa5 pl5.length pc5, .slice pa6 pl6.length pc6] 62)).cell? ⟨w.heap.size, 3, none⟩ = some (.slice pa3 pl3.length pc3) := by go_simp
  have c4 : (w.alloc (.cells #[.int .i64 px0, .bool px1, .slice pa2 pl2.length pc2, .slice pa3 pl3.length pc3, .bool px4, .slice pa5 pl5.length pc5, .slice pa6 pl6.length pc6] 62)).cell? ⟨w.heap.size, 4, none⟩ = some (.bool px4) := by go_simp
  have c5 : (w.alloc (.cells #[.int .i64 px0, .bool px1, .slice pa2 pl2.length pc2, .slice pa3 pl3.length pc3, .bool px4, .slice pa5 pl5.length pc5, .slice pa6 pl6.length pc6] 62)).cell? ⟨w.heap.size, 5, none⟩ = some (.slice pa5 pl5.length pc5) := by go_simp
  have c6 : (w.alloc (.cells #[.int .i64 px0, .bool px1, .slice pa2 pl2.length pc2, .slice pa3 pl3.length pc3, .bool px4, .slice pa5 pl5.length pc5, .slice pa6 pl6.length pc6] 62)).cell? ⟨w.heap.size, 6, none⟩ = some (.slice pa6 pl6.length pc6) := by go_simp
  have C0_0 := Lib.hid c0
  clear c0
  have C1_0 := Lib.hid c1
  clear c1
  have C2_0 := Lib.hid c2
  clear c2
  have C3_0 := Lib.hid c3
  clear c3
  have C4_0 := Lib.hid c4
  clear c4
  have C5_0 := Lib.hid c5
  clear c5
  have C6_0 := Lib.hid c6
  clear c6
  have Z_0 : Hid (w.heap.size < (w.alloc (.cells #[.int .i64 px0, .bool px1, .slice pa2 pl2.length pc2, .slice pa3 pl3.length pc3, .bool px4, .slice pa5 pl5.length pc5, .slice pa6 pl6.length pc6] 62)).heap.size) := by show _ < _; simp
  go_enter Try.func28, Try.ntmps28
  obtain ⟨b1, p1, o1, s1, q1⟩ := FpRow.range (t1 := [.int]) (t2 := [.bool, .sl 3 [.int], .sl 3 [.int], .bool, .sl 3 [.int], .sl 3 [.int]]) (t3 := []) (d1 := [.int px0]) (d2 := [.bool px1, .sl pl2, .sl pl3, .bool px4, .sl pl5, .sl pl6]) (d3 := []) (v1 := [.int .i64 px0]) (v2 := [.bool px1, .slice pa2 pl2.length pc2, .slice pa3 pl3.length pc3, .bool px4, .slice pa5 pl5.length pc5, .slice pa6 pl6.length pc6]) (v3 := []) F.out HN.out rfl rfl rfl rfl
  have P1 := Lib.hid (And.intro p1 (And.intro o1 (And.intro s1 q1)))
  clear p1 o1 s1 q1
  go_wp2_with fail
  refine (markPoint_c [.bool px1, .sl pl2, .sl pl3, .bool px4, .sl pl5, .sl pl6] (k) (by omega) (by simp only [cntV, Dat.cntV]; omega) b1 P1.out.2.1 [.bool px1, .slice pa2 pl2.length pc2, .slice pa3 pl3.length pc3, .bool px4, .slice pa5 pl5.length pc5, .slice pa6 pl6.length pc6] _ P1.out.1).mono ?_
  rintro e w1 ⟨rfl, hf, ho⟩
  have hf : FpRow w1 [.bool, .sl 3 [.int], .sl 3 [.int], .bool, .sl 3 [.int], .sl 3 [.int]] [.bool px1, .sl (mkRows (k) pl2), .sl (mkRows (k + (cntRows pl2 : Int)) pl3), .bool px4, .sl (mkRows (k + (cntRows pl2 : Int) + (cntRows pl3 : Int)) pl5), .sl (mkRows (k + (cntRows pl2 : Int) + (cntRows pl3 : Int) + (cntRows pl5 : Int)) pl6)] [.bool px1, .slice pa2 pl2.length pc2, .slice pa3 pl3.length pc3, .bool px4, .slice pa5 pl5.length pc5, .slice pa6 pl6.length pc6] b1 := by simpa [mkV, Dat.mkV, Dat.cntV] using hf
  have e1_ : k + (cntV [.bool px1, .sl pl2, .sl pl3, .bool px4, .sl pl5, .sl pl6] : Int) = k + (cntRows pl2 : Int) + (cntRows pl3 : Int) + (cntRows pl5 : Int) + (cntRows pl6 : Int) := by simp only [cntV, Dat.cntV]; omega
  rw [e1_]
  clear e1_
  have F1 : Hid (FpRow w1 [.int, .bool, .sl 3 [.int], .sl 3 [.int], .bool, .sl 3 [.int], .sl 3 [.int]] [.int px0, .bool px1, .sl (mkRows (k) pl2), .sl (mkRows (k + (cntRows pl2 : Int)) pl3), .bool px4, .sl (mkRows (k + (cntRows pl2 : Int) + (cntRows pl3 : Int)) pl5), .sl (mkRows (k + (cntRows pl2 : Int) + (cntRows pl3 : Int) + (cntRows pl5 : Int)) pl6)] [.int .i64 px0, .bool px1, .slice pa2 pl2.length pc2, .slice pa3 pl3.length pc3, .bool px4, .slice pa5 pl5.length pc5, .slice pa6 pl6.length pc6] bs) := P1.out.2.2.2 w1 [.bool px1, .sl (mkRows (k) pl2), .sl (mkRows (k + (cntRows pl2 : Int)) pl3), .bool px4, .sl (mkRows (k + (cntRows pl2 : Int) + (cntRows pl3 : Int)) pl5), .sl (mkRows (k + (cntRows pl2 : Int) + (cntRows pl3 : Int) + (cntRows pl5 : Int)) pl6)] ho hf
  have N1 : Hid (OnlyIn (fun b => b ∈ bs) w w1) := N.out.trans (ho.mono (fun b hb => P1.out.2.2.1 b hb))
  have nb1 : ¬ w.heap.size ∈ b1 := fun hb => Nat.lt_irrefl _ (HLT.out _ (P1.out.2.2.1 _ hb))
  have Z_1 : Hid (w.heap.size < w1.heap.size) := Nat.lt_of_lt_of_le Z_0.out ho.size
  clear hf ho nb1
  go_wp2
  go_ret
  exact ⟨ret_int HF.out, F1.out, N1.out⟩

set_option maxRecDepth 100000 in
set_option maxHeartbeats 4000000 in
theorem heldPlacement_c (ds : List Dat) (k : Int) (hk0 : 0 ≤ k) (hk1 : k + (cntV ds : Int) ≤ 4611686018427387904) (w0 : World) (vs0 : List Value) (h0 : RdRow w0 [.int, .bool, .sl 3 [.int], .sl 3 [.int], .bool, .sl 3 [.int], .sl 3 [.int]] ds vs0) (vs : List Value) (w : World) (h : RdRow w [.int, .bool, .sl 3 [.int], .sl 3 [.int], .bool, .sl 3 [.int], .sl 3 [.int]] (mkV k ds) vs) :
    Calls Try.prog 30 #[.agg vs.toArray, .int .i64 k] w fun e w' => e = .returned (.int .i64 (k + (cntV ds : Int))) ∧ Below w.heap.size w w' := by
  obtain ⟨pd, pds, pv, pvs, rfl, rfl, ph, h0_0⟩ := RdRow.cons_inv h0
  obtain ⟨px0, rfl, rfl⟩ := Rd.int_inv ph
  obtain ⟨pd, pds, pv, pvs, rfl, rfl, ph, h0_1⟩ := RdRow.cons_inv h0_0
  obtain ⟨px1, rfl, rfl⟩ := Rd.bool_inv ph
  obtain ⟨pd, pds, pv, pvs, rfl, rfl, ph, h0_2⟩ := RdRow.cons_inv h0_1
  obtain ⟨pl2, pa2, pc2, rfl, rfl, pe2, pf2, pr2⟩ := Rd.sl_inv ph
  obtain ⟨pd, pds, pv, pvs, rfl, rfl, ph, h0_3⟩ := RdRow.cons_inv h0_2
  obtain ⟨pl3, pa3, pc3, rfl, rfl, pe3, pf3, pr3⟩ := Rd.sl_inv ph
  obtain ⟨pd, pds, pv, pvs, rfl, rfl, ph, h0_4⟩ := RdRow.cons_inv h0_3
  obtain ⟨px4, rfl, rfl⟩ := Rd.bool_inv ph
  obtain ⟨pd, pds, pv, pvs, rfl, rfl, ph, h0_5⟩ := RdRow.cons_inv h0_4
  obtain ⟨pl5, pa5, pc5, rfl, rfl, pe5, pf5, pr5⟩ := Rd.sl_inv ph
  obtain ⟨pd, pds, pv, pvs, rfl, rfl, ph, h0_6⟩ := RdRow.cons_inv h0_5
  obtain ⟨pl6, pa6, pc6, rfl, rfl, pe6, pf6, pr6⟩ := Rd.sl_inv ph
  obtain ⟨rfl, rfl⟩ := RdRow.nil_inv h0_6
  have P2 := Lib.hid pr2
  clear pr2
  have P3 := Lib.hid pr3
  clear pr3
  have P5 := Lib.hid pr5
  clear pr5
  have P6 := Lib.hid pr6
  clear pr6
  have hmk : mkV k [.int px0, .bool px1, .sl pl2, .sl pl3, .bool px4, .sl pl5, .sl pl6] = [.int px0, .bool px1, .sl (mkRows (k) pl2), .sl (mkRows (k + (cntRows pl2 : Int)) pl3), .bool px4, .sl (mkRows (k + (cntRows pl2 : Int) + (cntRows pl3 : Int)) pl5), .sl (mkRows (k + (cntRows pl2 : Int) + (cntRows pl3 : Int) + (cntRows pl5 : Int)) pl6)] := by simp [mkV, Dat.mkV, Dat.cntV]
  rw [hmk] at h
  clear hmk
  obtain ⟨qv, qvs, rfl, qh, h_0⟩ := RdRow.cons2 h
  obtain rfl := Rd.int2 qh
  obtain ⟨qv, qvs, rfl, qh, h_1⟩ := RdRow.cons2 h_0
  obtain rfl := Rd.bool2 qh
  obtain ⟨qv, qvs, rfl, qh, h_2⟩ := RdRow.cons2 h_1
  obtain ⟨qa2, qc2, rfl, qe2, qf2, qr2⟩ := Rd.sl2 qh
  rw [mkRows_length] at qe2 qr2
  obtain ⟨qv, qvs, rfl, qh, h_3⟩ := RdRow.cons2 h_2
  obtain ⟨qa3, qc3, rfl, qe3, qf3, qr3⟩ := Rd.sl2 qh
  rw [mkRows_length] at qe3 qr3
  obtain ⟨qv, qvs, rfl, qh, h_4⟩ := RdRow.cons2 h_3
  obtain rfl := Rd.bool2 qh
  obtain ⟨qv, qvs, rfl, qh, h_5⟩ := RdRow.cons2 h_4
  obtain ⟨qa5, qc5, rfl, qe5, qf5, qr5⟩ := Rd.sl2 qh
  rw [mkRows_length] at qe5 qr5
  obtain ⟨qv, qvs, rfl, qh, h_6⟩ := RdRow.cons2 h_5
  obtain ⟨qa6, qc6, rfl, qe6, qf6, qr6⟩ := Rd.sl2 qh
  rw [mkRows_length] at qe6 qr6
  obtain ⟨-, rfl⟩ := RdRow.nil_inv h_6
  simp only [mkRows_length]
  have H2 := Lib.hid qr2
  clear qr2
  have H3 := Lib.hid qr3
  clear qr3
  have H5 := Lib.hid qr5
  clear qr5
  have H6 := Lib.hid qr6
  clear qr6
  have hfin : k + (cntRows pl2 : Int) + (cntRows pl3 : Int) + (cntRows pl5 : Int) + (cntRows pl6 : Int) = k + (cntV [.int px0, .bool px1, .sl pl2, .sl pl3, .bool px4, .sl pl5, .sl pl6] : Int) := by simp only [cntV, Dat.cntV]; omega
  rw [← hfin] at hk1
  have HF := Lib.hid hfin
  clear hfin
  have y3a : 0 ≤ k + (cntRows pl2 : Int) := by omega
  have y3b : k + (cntRows pl2 : Int) ≤ 4611686018427387904 := by omega
  have y4a : 0 ≤ k + (cntRows pl2 : Int) + (cntRows pl3 : Int) := by omega
  have y4b : k + (cntRows pl2 : Int) + (cntRows pl3 : Int) ≤ 4611686018427387904 := by omega
  have y6a : 0 ≤ k + (cntRows pl2 : Int) + (cntRows pl3 : Int) + (cntRows pl5 : Int) := by omega
  have y6b : k + (cntRows pl2 : Int) + (cntRows pl3 : Int) + (cntRows pl5 : Int) ≤ 4611686018427387904 := by omega
  have y7a : 0 ≤ k + (cntRows pl2 : Int) + (cntRows pl3 : Int) + (cntRows pl5 : Int) + (cntRows pl6 : Int) := by omega
  have y7b : k + (cntRows pl2 : Int) + (cntRows pl3 : Int) + (cntRows pl5 : Int) + (cntRows pl6 : Int) ≤ 4611686018427387904 := by omega
  go_enter Try.func30, Try.ntmps30
  go_wp2_with fail
  refine (heldPoint_c [.bool px1, .sl pl2, .sl pl3, .bool px4, .sl pl5, .sl pl6] (k) (by omega) (by simp only [cntV, Dat.cntV]; omega) _ _ (RdRow.mk_cons (Rd.mk_bool px1) (RdRow.mk_cons P2.out (RdRow.mk_cons P3.out (RdRow.mk_cons (Rd.mk_bool px4) (RdRow.mk_cons P5.out (RdRow.mk_cons P6.out RdRow.mk_nil)))))) [.bool px1, .slice qa2 pl2.length qc2, .slice qa3 pl3.length qc3, .bool px4, .slice qa5 pl5.length qc5, .slice qa6 pl6.length qc6] _ (RdRow.below (w := w) (by (repeat (first | with_reducible exact Below.refl _ _ | with_reducible assumption | with_reducible refine Below.drew ?_ | with_reducible refine Below.setCell ?_ ?_ _ | with_reducible refine Below.alloc ?_ ?_ _)); all_goals first | (simp; done) | (simp; omega) | omega) _ _ _ (by have q : RdRow w [.bool, .sl 3 [.int], .sl 3 [.int], .bool, .sl 3 [.int], .sl 3 [.int]] [.bool px1, .sl (mkRows (k) pl2), .sl (mkRows (k + (cntRows pl2 : Int)) pl3), .bool px4, .sl (mkRows (k + (cntRows pl2 : Int) + (cntRows pl3 : Int)) pl5), .sl (mkRows (k + (cntRows pl2 : Int) + (cntRows pl3 : Int) + (cntRows pl5 : Int)) pl6)] [.bool px1, .slice qa2 pl2.length qc2, .slice qa3 pl3.length qc3, .bool px4, .slice qa5 pl5.length qc5, .slice qa6 pl6.length qc6] := (RdRow.mk_cons (Rd.mk_bool px1) (RdRow.mk_cons H2.out (RdRow.mk_cons H3.out (RdRow.mk_cons (Rd.mk_bool px4) (RdRow.mk_cons H5.out (RdRow.mk_cons H6.out RdRow.mk_nil)))))); simpa [mkV, Dat.mkV, Dat.cntV] using q))).mono ?_
  rintro e w1 ⟨rfl, h1⟩
  have B1 : Below w.heap.size w w1 := Below.trans (by (repeat (first | with_reducible exact Below.refl _ _ | with_reducible assumption | with_reducible refine Below.drew ?_ | with_reducible refine Below.setCell ?_ ?_ _ | with_reducible refine Below.alloc ?_ ?_ _)); all_goals first | (simp; done) | (simp; omega) | omega) (h1.mono (by first | (simp; done) | (simp; omega) | omega))
  have S1 := h1.size
  have T1 := B1.size
  try simp at S1
  obtain ⟨k1, f1⟩ := bcell h1
  try simp at k1
  try simp at f1
  have Hc1 := Lib.hid h1
  clear h1
  have u1_0 : w.heap.size < w1.heap.size := by omega
  have e1_ : k + (cntV [.bool px1, .sl pl2, .sl pl3, .bool px4, .sl pl5, .sl pl6] : Int) = k + (cntRows pl2 : Int) + (cntRows pl3 : Int) + (cntRows pl5 : Int) + (cntRows pl6 : Int) := by simp only [cntV, Dat.cntV]; omega
  rw [e1_]
  clear e1_
  go_wp2
  go_ret
  exact ⟨ret_int HF.out, (by (repeat (first | with_reducible exact Below.refl _ _ | with_reducible assumption | with_reducible refine Below.drew ?_ | with_reducible refine Below.setCell ?_ ?_ _ | with_reducible refine Below.alloc ?_ ?_ _)); all_goals first | (simp; done) | (simp; omega) | omega)⟩

set_option maxRecDepth 100000 in
set_option maxHeartbeats 4000000 in
theorem szStep_c (ds : List Dat) (vs : List Value) (left : Int) (h0 : 0 ≤ left) (h1 : left ≤ 1048576) (w : World) (h : RdRow w [.int, .bool, .sl 3 [.int], .sl 3 [.int], .bool, .sl 3 [.int], .sl 3 [.int]] ds vs) :
    Calls Try.prog 63 #[.agg vs.toArray, .int .i64 left] w fun e w' => ∃ r : Int, e = .returned (.int .i64 r) ∧ szOk (szRow ds) left r ∧ Below w.heap.size w w' := by
  obtain ⟨pd, pds, pv, pvs, rfl, rfl, ph, h_0⟩ := RdRow.cons_inv h
  obtain ⟨px0, rfl, rfl⟩ := Rd.int_inv ph
  obtain ⟨pd, pds, pv, pvs, rfl, rfl, ph, h_1⟩ := RdRow.cons_inv h_0
  obtain ⟨px1, rfl, rfl⟩ := Rd.bool_inv ph
  obtain ⟨pd, pds, pv, pvs, rfl, rfl, ph, h_2⟩ := RdRow.cons_inv h_1
  obtain ⟨pl2, pa2, pc2, rfl, rfl, pe2, pf2, pr2⟩ := Rd.sl_inv ph
  obtain ⟨pd, pds, pv, pvs, rfl, rfl, ph, h_3⟩ := RdRow.cons_inv h_2
  obtain ⟨pl3, pa3, pc3, rfl, rfl, pe3, pf3, pr3⟩ := Rd.sl_inv ph
  obtain ⟨pd, pds, pv, pvs, rfl, rfl, ph, h_4⟩ := RdRow.cons_inv h_3
  obtain ⟨px4, rfl, rfl⟩ := Rd.bool_inv ph
  obtain ⟨pd, pds, pv, pvs, rfl, rfl, ph, h_5⟩ := RdRow.cons_inv h_4
  obtain ⟨pl5, pa5, pc5, rfl, rfl, pe5, pf5, pr5⟩ := Rd.sl_inv ph
  obtain ⟨pd, pds, pv, pvs, rfl, rfl, ph, h_6⟩ := RdRow.cons_inv h_5
  obtain ⟨pl6, pa6, pc6, rfl, rfl, pe6, pf6, pr6⟩ := Rd.sl_inv ph
  obtain ⟨rfl, rfl⟩ := RdRow.nil_inv h_6
  have H2 := Lib.hid pr2
  clear pr2
  have H3 := Lib.hid pr3
  clear pr3
  have H5 := Lib.hid pr5
  clear pr5
  have H6 := Lib.hid pr6
  clear pr6
  have HM : Hid (szOk (szRow [.int px0, .bool px1, .sl pl2, .sl pl3, .bool px4, .sl pl5, .sl pl6]) left (-1)) := .inl rfl
  go_enter Try.func63, Try.ntmps63
  go_wp2_with fail
  refine (szPoint_c [.bool px1, .sl pl2, .sl pl3, .bool px4, .sl pl5, .sl pl6] [.bool px1, .slice pa2 pl2.length pc2, .slice pa3 pl3.length pc3, .bool px4, .slice pa5 pl5.length pc5, .slice pa6 pl6.length pc6] left h0 h1 _ (RdRow.below (by (repeat (first | with_reducible exact Below.refl _ _ | with_reducible assumption | with_reducible refine Below.drew ?_ | with_reducible refine Below.setCell ?_ ?_ _ | with_reducible refine Below.alloc ?_ ?_ _)); all_goals first | (simp; done) | (simp; omega) | omega) _ _ _ (RdRow.mk_cons (Rd.mk_bool px1) (RdRow.mk_cons H2.out (RdRow.mk_cons H3.out (RdRow.mk_cons (Rd.mk_bool px4) (RdRow.mk_cons H5.out (RdRow.mk_cons H6.out RdRow.mk_nil)))))))).mono ?_
  rintro e w1 ⟨r1, rfl, hs1, h1⟩
  have B1 : Below w.heap.size w w1 := Below.trans (by (repeat (first | with_reducible exact Below.refl _ _ | with_reducible assumption | with_reducible refine Below.drew ?_ | with_reducible refine Below.setCell ?_ ?_ _ | with_reducible refine Below.alloc ?_ ?_ _)); all_goals first | (simp; done) | (simp; omega) | omega) (h1.mono (by first | (simp; done) | (simp; omega) | omega))
  have S1 := h1.size
  have T1 := B1.size
  try simp at S1
  obtain ⟨k1, f1⟩ := bcell h1
  try simp at k1
  try simp at f1
  have Hc1 := Lib.hid h1
  clear h1
  have u1_0 : w.heap.size < w1.heap.size := by omega
  rcases hs1 with rfl | ⟨y1, z1⟩
  · go_wp2
    go_ret
    exact ⟨_, rfl, HM.out, B1⟩
  have x1 : r1 ≤ 1048576 := by omega
  have A1 := Lib.hid z1
  clear z1
  go_wp2
  go_ret
  exact ⟨_, rfl, .inr ⟨y1, by have a1 := A1.out; simp only [szRow, Dat.sz] at *; omega⟩, B1⟩

set_option maxRecDepth 100000 in
set_option maxHeartbeats 4000000 in
theorem eqStep_c (ds : List Dat) (vs us : List Value) (w : World) (h : RdRow w [.int, .bool, .sl 3 [.int], .sl 3 [.int], .bool, .sl 3 [.int], .sl 3 [.int]] ds vs) (h' : RdRow w [.int, .bool, .sl 3 [.int], .sl 3 [.int], .bool, .sl 3 [.int], .sl 3 [.int]] ds us) :
    Calls Try.prog 71 #[.agg vs.toArray, .agg us.toArray] w fun e w' => e = .returned (.bool true) ∧ Below w.heap.size w w' := by
  obtain ⟨pd, pds, pv, pvs, rfl, rfl, ph, h_0⟩ := RdRow.cons_inv h
  obtain ⟨px0, rfl, rfl⟩ := Rd.int_inv ph
  obtain ⟨pd, pds, pv, pvs, rfl, rfl, ph, h_1⟩ := RdRow.cons_inv h_0
  obtain ⟨px1, rfl, rfl⟩ := Rd.bool_inv ph
  obtain ⟨pd, pds, pv, pvs, rfl, rfl, ph, h_2⟩ := RdRow.cons_inv h_1
  obtain ⟨pl2, pa2, pc2, rfl, rfl, pe2, pf2, pr2⟩ := Rd.sl_inv ph
  obtain ⟨pd, pds, pv, pvs, rfl, rfl, ph, h_3⟩ := RdRow.cons_inv h_2
  obtain ⟨pl3, pa3, pc3, rfl, rfl, pe3, pf3, pr3⟩ := Rd.sl_inv ph
  obtain ⟨pd, pds, pv, pvs, rfl, rfl, ph, h_4⟩ := RdRow.cons_inv h_3
  obtain ⟨px4, rfl, rfl⟩ := Rd.bool_inv ph
  obtain ⟨pd, pds, pv, pvs, rfl, rfl, ph, h_5⟩ := RdRow.cons_inv h_4
  obtain ⟨pl5, pa5, pc5, rfl, rfl, pe5, pf5, pr5⟩ := Rd.sl_inv ph
  obtain ⟨pd, pds, pv, pvs, rfl, rfl, ph, h_6⟩ := RdRow.cons_inv h_5
  obtain ⟨pl6, pa6, pc6, rfl, rfl, pe6, pf6, pr6⟩ := Rd.sl_inv ph
  obtain ⟨rfl, rfl⟩ := RdRow.nil_inv h_6
  obtain ⟨qv, qvs, rfl, qh, h'_0⟩ := RdRow.cons2 h'
  obtain rfl := Rd.int2 qh
  obtain ⟨qv, qvs, rfl, qh, h'_1⟩ := RdRow.cons2 h'_0
  obtain rfl := Rd.bool2 qh
  obtain ⟨qv, qvs, rfl, qh, h'_2⟩ := RdRow.cons2 h'_1
  obtain ⟨qa2, qc2, rfl, qe2, qf2, qr2⟩ := Rd.sl2 qh
  obtain ⟨qv, qvs, rfl, qh, h'_3⟩ := RdRow.cons2 h'_2
  obtain ⟨qa3, qc3, rfl, qe3, qf3, qr3⟩ := Rd.sl2 qh
  obtain ⟨qv, qvs, rfl, qh, h'_4⟩ := RdRow.cons2 h'_3
  obtain rfl := Rd.bool2 qh
  obtain ⟨qv, qvs, rfl, qh, h'_5⟩ := RdRow.cons2 h'_4
  obtain ⟨qa5, qc5, rfl, qe5, qf5, qr5⟩ := Rd.sl2 qh
  obtain ⟨qv, qvs, rfl, qh, h'_6⟩ := RdRow.cons2 h'_5
  obtain ⟨qa6, qc6, rfl, qe6, qf6, qr6⟩ := Rd.sl2 qh
  obtain ⟨-, rfl⟩ := RdRow.nil_inv h'_6
  have H2 := Lib.hid pr2
  have G2 := Lib.hid qr2
  clear pr2 qr2
  have H3 := Lib.hid pr3
  have G3 := Lib.hid qr3
  clear pr3 qr3
  have H5 := Lib.hid pr5
  have G5 := Lib.hid qr5
  clear pr5 qr5
  have H6 := Lib.hid pr6
  have G6 := Lib.hid qr6
  clear pr6 qr6
  go_enter Try.func71, Try.ntmps71
  go_wp2_with fail
  refine (eqPoint_c [.bool px1, .sl pl2, .sl pl3, .bool px4, .sl pl5, .sl pl6] [.bool px1, .slice pa2 pl2.length pc2, .slice pa3 pl3.length pc3, .bool px4, .slice pa5 pl5.length pc5, .slice pa6 pl6.length pc6] [.bool px1, .slice qa2 pl2.length qc2, .slice qa3 pl3.length qc3, .bool px4, .slice qa5 pl5.length qc5, .slice qa6 pl6.length qc6] _ (RdRow.below (by (repeat (first | with_reducible exact Below.refl _ _ | with_reducible assumption | with_reducible refine Below.drew ?_ | with_reducible refine Below.setCell ?_ ?_ _ | with_reducible refine Below.alloc ?_ ?_ _)); all_goals first | (simp; done) | (simp; omega) | omega) _ _ _ (RdRow.mk_cons (Rd.mk_bool px1) (RdRow.mk_cons H2.out (RdRow.mk_cons H3.out (RdRow.mk_cons (Rd.mk_bool px4) (RdRow.mk_cons H5.out (RdRow.mk_cons H6.out RdRow.mk_nil))))))) (RdRow.below (by (repeat (first | with_reducible exact Below.refl _ _ | with_reducible assumption | with_reducible refine Below.drew ?_ | with_reducible refine Below.setCell ?_ ?_ _ | with_reducible refine Below.alloc ?_ ?_ _)); all_goals first | (simp; done) | (simp; omega) | omega) _ _ _ (RdRow.mk_cons (Rd.mk_bool px1) (RdRow.mk_cons G2.out (RdRow.mk_cons G3.out (RdRow.mk_cons (Rd.mk_bool px4) (RdRow.mk_cons G5.out (RdRow.mk_cons G6.out RdRow.mk_nil)))))))).mono ?_
  rintro e w1 ⟨rfl, h1⟩
  have B1 : Below w.heap.size w w1 := Below.trans (by (repeat (first | with_reducible exact Below.refl _ _ | with_reducible assumption | with_reducible refine Below.drew ?_ | with_reducible refine Below.setCell ?_ ?_ _ | with_reducible refine Below.alloc ?_ ?_ _)); all_goals first | (simp; done) | (simp; omega) | omega) (h1.mono (by first | (simp; done) | (simp; omega) | omega))
  have S1 := h1.size
  have T1 := B1.size
  try simp at S1
  obtain ⟨k1, f1⟩ := bcell h1
  try simp at k1
  try simp at f1
  have Hc1 := Lib.hid h1
  clear h1
  have u1_0 : w.heap.size < w1.heap.size := by omega
  have u1_1 : w.heap.size + 1 < w1.heap.size := by omega
  go_wp2
  go_ret
  exact ⟨rfl, (by (repeat (first | with_reducible exact Below.refl _ _ | with_reducible assumption | with_reducible refine Below.drew ?_ | with_reducible refine Below.setCell ?_ ?_ _ | with_reducible refine Below.alloc ?_ ?_ _)); all_goals first | (simp; done) | (simp; omega) | omega)⟩

set_option maxRecDepth 100000 in
set_option maxHeartbeats 4000000 in
theorem toStep_c (ds : List Dat) (hsz : szRow ds ≤ 1048576) (vs : List Value) (w : World) (h : RdRow w [.int, .bool, .sl 3 [.int], .sl 3 [.int], .bool, .sl 3 [.int], .sl 3 [.int]] ds vs) :
    Calls Try.prog 67 #[.agg vs.toArray] w fun e w' => ∃ us : List Value, e = .returned (.agg us.toArray) ∧ Own w' w.heap.size w'.heap.size [.int, .bool, .sl 3 [.int], .sl 3 [.int], .bool, .sl 3 [.int], .sl 3 [.int]] ds us ∧ Below w.heap.size w w' := by
  obtain ⟨pd, pds, pv, pvs, rfl, rfl, ph, h_0⟩ := RdRow.cons_inv h
  obtain ⟨px0, rfl, rfl⟩ := Rd.int_inv ph
  obtain ⟨pd, pds, pv, pvs, rfl, rfl, ph, h_1⟩ := RdRow.cons_inv h_0
  obtain ⟨px1, rfl, rfl⟩ := Rd.bool_inv ph
  obtain ⟨pd, pds, pv, pvs, rfl, rfl, ph, h_2⟩ := RdRow.cons_inv h_1
  obtain ⟨pl2, pa2, pc2, rfl, rfl, pe2, pf2, pr2⟩ := Rd.sl_inv ph
  obtain ⟨pd, pds, pv, pvs, rfl, rfl, ph, h_3⟩ := RdRow.cons_inv h_2
  obtain ⟨pl3, pa3, pc3, rfl, rfl, pe3, pf3, pr3⟩ := Rd.sl_inv ph
  obtain ⟨pd, pds, pv, pvs, rfl, rfl, ph, h_4⟩ := RdRow.cons_inv h_3
  obtain ⟨px4, rfl, rfl⟩ := Rd.bool_inv ph
  obtain ⟨pd, pds, pv, pvs, rfl, rfl, ph, h_5⟩ := RdRow.cons_inv h_4
  obtain ⟨pl5, pa5, pc5, rfl, rfl, pe5, pf5, pr5⟩ := Rd.sl_inv ph
  obtain ⟨pd, pds, pv, pvs, rfl, rfl, ph, h_6⟩ := RdRow.cons_inv h_5
  obtain ⟨pl6, pa6, pc6, rfl, rfl, pe6, pf6, pr6⟩ := Rd.sl_inv ph
  obtain ⟨rfl, rfl⟩ := RdRow.nil_inv h_6
  have H2 := Lib.hid pr2
  clear pr2
  have H3 := Lib.hid pr3
  clear pr3
  have H5 := Lib.hid pr5
  clear pr5
  have H6 := Lib.hid pr6
  clear pr6
  simp only [szRow, Dat.sz] at hsz
  have HZ := Lib.hid hsz
  clear hsz
  go_enter Try.func67, Try.ntmps67
  go_wp2_with fail
  refine (toPoint_c [.bool px1, .sl pl2, .sl pl3, .bool px4, .sl pl5, .sl pl6] (by have hz := HZ.out; simp only [szRow, Dat.sz]; omega) [.bool px1, .slice pa2 pl2.length pc2, .slice pa3 pl3.length pc3, .bool px4, .slice pa5 pl5.length pc5, .slice pa6 pl6.length pc6] _ (RdRow.below (by (repeat (first | with_reducible exact Below.refl _ _ | with_reducible assumption | with_reducible refine Below.drew ?_ | with_reducible refine Below.setCell ?_ ?_ _ | with_reducible refine Below.alloc ?_ ?_ _)); all_goals first | (simp; done) | (simp; omega) | omega) _ _ _ (RdRow.mk_cons (Rd.mk_bool px1) (RdRow.mk_cons H2.out (RdRow.mk_cons H3.out (RdRow.mk_cons (Rd.mk_bool px4) (RdRow.mk_cons H5.out (RdRow.mk_cons H6.out RdRow.mk_nil)))))))).mono ?_
  rintro e w1 ⟨u1, rfl, ho1, h1⟩
  have B1 : Below w.heap.size w w1 := Below.trans (by (repeat (first | with_reducible exact Below.refl _ _ | with_reducible assumption | with_reducible refine Below.drew ?_ | with_reducible refine Below.setCell ?_ ?_ _ | with_reducible refine Below.alloc ?_ ?_ _)); all_goals first | (simp; done) | (simp; omega) | omega) (h1.mono (by first | (simp; done) | (simp; omega) | omega))
  have S1 := h1.size
  have T1 := B1.size
  try simp at S1
  obtain ⟨k1, f1⟩ := bcell h1
  try simp at k1
  try simp at f1
  have Hc1 := Lib.hid h1
  clear h1
  have u1_0 : w.heap.size < w1.heap.size := by omega
  have u1_1 : w.heap.size + 1 < w1.heap.size := by omega
  have u1_2 : w.heap.size + 1 + 1 < w1.heap.size := by omega
  obtain ⟨ub2, uc2, ub3, uc3, ub5, uc5, ub6, uc6, rfl⟩ : ∃ ub2 uc2 ub3 uc3 ub5 uc5 ub6 uc6, u1 = [.bool px1, .slice ub2 pl2.length uc2, .slice ub3 pl3.length uc3, .bool px4, .slice ub5 pl5.length uc5, .slice ub6 pl6.length uc6] := by
    have q := ho1.rd
    obtain ⟨v1, q1, rfl, e1, q_1⟩ := RdRow.cons2 q
    obtain rfl := Rd.bool2 e1
    obtain ⟨v2, q2, rfl, e2, q_2⟩ := RdRow.cons2 q_1
    obtain ⟨a2, c2, rfl, -⟩ := Rd.sl2 e2
    obtain ⟨v3, q3, rfl, e3, q_3⟩ := RdRow.cons2 q_2
    obtain ⟨a3, c3, rfl, -⟩ := Rd.sl2 e3
    obtain ⟨v4, q4, rfl, e4, q_4⟩ := RdRow.cons2 q_3
    obtain rfl := Rd.bool2 e4
    obtain ⟨v5, q5, rfl, e5, q_5⟩ := RdRow.cons2 q_4
    obtain ⟨a5, c5, rfl, -⟩ := Rd.sl2 e5
    obtain ⟨v6, q6, rfl, e6, q_6⟩ := RdRow.cons2 q_5
    obtain ⟨a6, c6, rfl, -⟩ := Rd.sl2 e6
    obtain ⟨-, rfl⟩ := RdRow.nil_inv q_6
    exact ⟨a2, c2, a3, c3, a5, c5, a6, c6, rfl⟩
  have P1 : OnlyIn (fun b => b < w.heap.size + 3) w w1 := OnlyIn.trans (by (repeat (first | with_reducible exact OnlyIn.refl _ _ | with_reducible refine OnlyIn.setCell ?_ ?_ _ | with_reducible refine OnlyIn.alloc ?_ _)); all_goals (show _ < _; first | (simp; done) | (simp; omega) | omega)) (OnlyIn.of_below Hc1.out)
  have O1 := Lib.hid ho1
  have PP1 := Lib.hid P1
  clear ho1 P1
  have r0_ : w1.cell? ⟨w.heap.size + 1 + 1, 0, none⟩ = some (.int .i64 px0) := by go_simp
  have s0_ : w1.cell? ⟨w.heap.size + 1, 0, none⟩ = some (.int .i64 0) := by go_simp
  have f0_ : w1.frozen? ⟨w.heap.size + 1, 0, none⟩ = false := by go_simp
  have r1_ : w1.cell? ⟨w.heap.size + 1 + 1, 1, none⟩ = some (.bool false) := by go_simp
  have s1_ : w1.cell? ⟨w.heap.size + 1, 1, none⟩ = some (.bool false) := by go_simp
  have f1_ : w1.frozen? ⟨w.heap.size + 1, 1, none⟩ = false := by go_simp
  have g1_ : w1.frozen? ⟨w.heap.size + 1 + 1, 1, none⟩ = false := by go_simp
  have r2_ : w1.cell? ⟨w.heap.size + 1 + 1, 2, none⟩ = some (.slice none 0 0) := by go_simp
  have s2_ : w1.cell? ⟨w.heap.size + 1, 2, none⟩ = some (.slice none 0 0) := by go_simp
  have f2_ : w1.frozen? ⟨w.heap.size + 1, 2, none⟩ = false := by go_simp
  have g2_ : w1.frozen? ⟨w.heap.size + 1 + 1, 2, none⟩ = false := by go_simp
  have r3_ : w1.cell? ⟨w.heap.size + 1 + 1, 3, none⟩ = some (.slice none 0 0) := by go_simp
  have s3_ : w1.cell? ⟨w.heap.size + 1, 3, none⟩ = some (.slice none 0 0) := by go_simp
  have f3_ : w1.frozen? ⟨w.heap.size + 1, 3, none⟩ = false := by go_simp
  have g3_ : w1.frozen? ⟨w.heap.size + 1 + 1, 3, none⟩ = false := by go_simp
  have r4_ : w1.cell? ⟨w.heap.size + 1 + 1, 4, none⟩ = some (.bool false) := by go_simp
  have s4_ : w1.cell? ⟨w.heap.size + 1, 4, none⟩ = some (.bool false) := by go_simp
  have f4_ : w1.frozen? ⟨w.heap.size + 1, 4, none⟩ = false := by go_simp
  have g4_ : w1.frozen? ⟨w.heap.size + 1 + 1, 4, none⟩ = false := by go_simp
  have r5_ : w1.cell? ⟨w.heap.size + 1 + 1, 5, none⟩ = some (.slice none 0 0) := by go_simp
  have s5_ : w1.cell? ⟨w.heap.size + 1, 5, none⟩ = some (.slice none 0 0) := by go_simp
  have f5_ : w1.frozen? ⟨w.heap.size + 1, 5, none⟩ = false := by go_simp
  have g5_ : w1.frozen? ⟨w.heap.size + 1 + 1, 5, none⟩ = false := by go_simp
  have r6_ : w1.cell? ⟨w.heap.size + 1 + 1, 6, none⟩ = some (.slice none 0 0) := by go_simp
  have s6_ : w1.cell? ⟨w.heap.size + 1, 6, none⟩ = some (.slice none 0 0) := by go_simp
  have f6_ : w1.frozen? ⟨w.heap.size + 1, 6, none⟩ = false := by go_simp
  have g6_ : w1.frozen? ⟨w.heap.size + 1 + 1, 6, none⟩ = false := by go_simp
  clear k1 f1
  have q0_ : (((((((((((((w1.setCell ⟨w.heap.size + 1 + 1, 1, none⟩ (.bool px1)).setCell ⟨w.heap.size + 1 + 1, 2, none⟩ (.slice ub2 pl2.length uc2)).setCell ⟨w.heap.size + 1 + 1, 3, none⟩ (.slice ub3 pl3.length uc3)).setCell ⟨w.heap.size + 1 + 1, 4, none⟩ (.bool px4)).setCell ⟨w.heap.size + 1 + 1, 5, none⟩ (.slice ub5 pl5.length uc5)).setCell ⟨w.heap.size + 1 + 1, 6, none⟩ (.slice ub6 pl6.length uc6)).setCell ⟨w.heap.size + 1, 0, none⟩ (.int .i64 px0)).setCell ⟨w.heap.size + 1, 1, none⟩ (.bool px1)).setCell ⟨w.heap.size + 1, 2, none⟩ (.slice ub2 pl2.length uc2)).setCell ⟨w.heap.size + 1, 3, none⟩ (.slice ub3 pl3.length uc3)).setCell ⟨w.heap.size + 1, 4, none⟩ (.bool px4)).setCell ⟨w.heap.size + 1, 5, none⟩ (.slice ub5 pl5.length uc5)).setCell ⟨w.heap.size + 1, 6, none⟩ (.slice ub6 pl6.length uc6)).cell? ⟨w.heap.size + 1, 0, none⟩ = some (.int .i64 px0) := by go_simp
  have q1_ : (((((((((((((w1.setCell ⟨w.heap.size + 1 + 1, 1, none⟩ (.bool px1)).setCell ⟨w.heap.size + 1 + 1, 2, none⟩ (.slice ub2 pl2.length uc2)).setCell ⟨w.heap.size + 1 + 1, 3, none⟩ (.slice ub3 pl3.length uc3)).setCell ⟨w.heap.size + 1 + 1, 4, none⟩ (.bool px4)).setCell ⟨w.heap.size + 1 + 1, 5, none⟩ (.slice ub5 pl5.length uc5)).setCell ⟨w.heap.size + 1 + 1, 6, none⟩ (.slice ub6 pl6.length uc6)).setCell ⟨w.heap.size + 1, 0, none⟩ (.int .i64 px0)).setCell ⟨w.heap.size + 1, 1, none⟩ (.bool px1)).setCell ⟨w.heap.size + 1, 2, none⟩ (.slice ub2 pl2.length uc2)).setCell ⟨w.heap.size + 1, 3, none⟩ (.slice ub3 pl3.length uc3)).setCell ⟨w.heap.size + 1, 4, none⟩ (.bool px4)).setCell ⟨w.heap.size + 1, 5, none⟩ (.slice ub5 pl5.length uc5)).setCell ⟨w.heap.size + 1, 6, none⟩ (.slice ub6 pl6.length uc6)).cell? ⟨w.heap.size + 1, 1, none⟩ = some (.bool px1) := by go_simp
  have q2_ : (((((((((((((w1.setCell ⟨w.heap.size + 1 + 1, 1, none⟩ (.bool px1)).setCell ⟨w.heap.size + 1 + 1, 2, none⟩ (.slice ub2 pl2.length uc2)).setCell ⟨w.heap.size + 1 + 1, 3, none⟩ (.slice ub3 pl3.length uc3)).setCell ⟨w.heap.size + 1 + 1, 4, none⟩ (.bool px4)).setCell ⟨w.heap.size + 1 + 1, 5, none⟩ (.slice ub5 pl5.length uc5)).setCell ⟨w.heap.size + 1 + 1, 6, none⟩ (.slice ub6 pl6.length uc6)).setCell ⟨w.heap.size + 1, 0, none⟩ (.int .i64 px0)).setCell ⟨w.heap.size + 1, 1, none⟩ (.bool px1)).setCell ⟨w.heap.size + 1, 2, none⟩ (.slice ub2 pl2.length uc2)).setCell ⟨w.heap.size + 1, 3, none⟩ (.slice ub3 pl3.length uc3)).setCell ⟨w.heap.size + 1, 4, none⟩ (.bool px4)).setCell ⟨w.heap.size + 1, 5, none⟩ (.slice ub5 pl5.length uc5)).setCell ⟨w.heap.size + 1, 6, none⟩ (.slice ub6 pl6.length uc6)).cell? ⟨w.heap.size + 1, 2, none⟩ = some (.slice ub2 pl2.length uc2) := by go_simp
  have q3_ : (((((((((((((w1.setCell ⟨w.heap.size + 1 + 1, 1, none⟩ (.bool px1)).setCell ⟨w.heap.size + 1 + 1, 2, none⟩ (.slice ub2 pl2.length uc2)).setCell ⟨w.heap.size + 1 + 1, 3, none⟩ (.slice ub3 pl3.length uc3)).setCell ⟨w.heap.size + 1 + 1, 4, none⟩ (.bool px4)).setCell ⟨w.heap.size + 1 + 1, 5, none⟩ (.slice ub5 pl5.length uc5)).setCell ⟨w.heap.size + 1 + 1, 6, none⟩ (.slice ub6 pl6.length uc6)).setCell ⟨w.heap.size + 1, 0, none⟩ (.int .i64 px0)).setCell ⟨w.heap.size + 1, 1, none⟩ (.bool px1)).setCell ⟨w.heap.size + 1, 2, none⟩ (.slice ub2 pl2.length uc2)).setCell ⟨w.heap.size + 1, 3, none⟩ (.slice ub3 pl3.length uc3)).setCell ⟨w.heap.size + 1, 4, none⟩ (.bool px4)).setCell ⟨w.heap.size + 1, 5, none⟩ (.slice ub5 pl5.length uc5)).setCell ⟨w.heap.size + 1, 6, none⟩ (.slice ub6 pl6.length uc6)).cell? ⟨w.heap.size + 1, 3, none⟩ = some (.slice ub3 pl3.length uc3) := by go_simp
  have q4_ : (((((((((((((w1.setCell ⟨w.heap.size + 1 + 1, 1, none⟩ (.bool px1)).setCell ⟨w.heap.size + 1 + 1, 2, none⟩ (.slice ub2 pl2.length uc2)).setCell ⟨w.heap.size + 1 + 1, 3, none⟩ (.slice ub3 pl3.length uc3)).setCell ⟨w.heap.size + 1 + 1, 4, none⟩ (.bool px4)).setCell ⟨w.heap.size + 1 + 1, 5, none⟩ (.slice ub5 pl5.length uc5)).setCell ⟨w.heap.size + 1 + 1, 6, none⟩ (.slice ub6 pl6.length uc6)).setCell ⟨w.heap.size + 1, 0, none⟩ (.int .i64 px0)).setCell ⟨w.heap.size + 1, 1, none⟩ (.bool px1)).setCell ⟨w.heap.size + 1, 2, none⟩ (.slice ub2 pl2.length uc2)).setCell ⟨w.heap.size + 1, 3, none⟩ (.slice ub3 pl3.length uc3)).setCell ⟨w.heap.size + 1, 4, none⟩ (.bool px4)).setCell ⟨w.heap.size + 1, 5, none⟩ (.slice ub5 pl5.length uc5)).setCell ⟨w.heap.size + 1, 6, none⟩ (.slice ub6 pl6.length uc6)).cell? ⟨w.heap.size + 1, 4, none⟩ = some (.bool px4) := by go_simp
  have q5_ : (((((((((((((w1.setCell ⟨w.heap.size + 1 + 1, 1, none⟩ (.bool px1)).setCell ⟨w.heap.size + 1 + 1, 2, none⟩ (.slice ub2 pl2.length uc2)).setCell ⟨w.heap.size + 1 + 1, 3, none⟩ (.slice ub3 pl3.length uc3)).setCell ⟨w.heap.size + 1 + 1, 4, none⟩ (.bool px4)).setCell ⟨w.heap.size + 1 + 1, 5, none⟩ (.slice ub5 pl5.length uc5)).setCell ⟨w.heap.size + 1 + 1, 6, none⟩ (.slice ub6 pl6.length uc6)).setCell ⟨w.heap.size + 1, 0, none⟩ (.int .i64 px0)).setCell ⟨w.heap.size + 1, 1, none⟩ (.bool px1)).setCell ⟨w.heap.size + 1, 2, none⟩ (.slice ub2 pl2.length uc2)).setCell ⟨w.heap.size + 1, 3, none⟩ (.slice ub3 pl3.length uc3)).setCell ⟨w.heap.size + 1, 4, none⟩ (.bool px4)).setCell ⟨w.heap.size + 1, 5, none⟩ (.slice ub5 pl5.length uc5)).setCell ⟨w.heap.size + 1, 6, none⟩ (.slice ub6 pl6.length uc6)).cell? ⟨w.heap.size + 1, 5, none⟩ = some (.slice ub5 pl5.length uc5) := by go_simp
  have q6_ : (((((((((((((w1.setCell ⟨w.heap.size + 1 + 1, 1, none⟩ (.bool px1)).setCell ⟨w.heap.size + 1 + 1, 2, none⟩ (.slice ub2 pl2.length uc2)).setCell ⟨w.heap.size + 1 + 1, 3, none⟩ (.slice ub3 pl3.length uc3)).setCell ⟨w.heap.size + 1 + 1, 4, none⟩ (.bool px4)).setCell ⟨w.heap.size + 1 + 1, 5, none⟩ (.slice ub5 pl5.length uc5)).setCell ⟨w.heap.size + 1 + 1, 6, none⟩ (.slice ub6 pl6.length uc6)).setCell ⟨w.heap.size + 1, 0, none⟩ (.int .i64 px0)).setCell ⟨w.heap.size + 1, 1, none⟩ (.bool px1)).setCell ⟨w.heap.size + 1, 2, none⟩ (.slice ub2 pl2.length uc2)).setCell ⟨w.heap.size + 1, 3, none⟩ (.slice ub3 pl3.length uc3)).setCell ⟨w.heap.size + 1, 4, none⟩ (.bool px4)).setCell ⟨w.heap.size + 1, 5, none⟩ (.slice ub5 pl5.length uc5)).setCell ⟨w.heap.size + 1, 6, none⟩ (.slice ub6 pl6.length uc6)).cell? ⟨w.heap.size + 1, 6, none⟩ = some (.slice ub6 pl6.length uc6) := by go_simp
  have QQ := Lib.hid (And.intro q0_ (And.intro q1_ (And.intro q2_ (And.intro q3_ (And.intro q4_ (And.intro q5_ (q6_)))))))
  clear q0_ q1_ q2_ q3_ q4_ q5_ q6_
  have PF : OnlyIn (fun b => b < w.heap.size + 3) w1 (((((((((((((w1.setCell ⟨w.heap.size + 1 + 1, 1, none⟩ (.bool px1)).setCell ⟨w.heap.size + 1 + 1, 2, none⟩ (.slice ub2 pl2.length uc2)).setCell ⟨w.heap.size + 1 + 1, 3, none⟩ (.slice ub3 pl3.length uc3)).setCell ⟨w.heap.size + 1 + 1, 4, none⟩ (.bool px4)).setCell ⟨w.heap.size + 1 + 1, 5, none⟩ (.slice ub5 pl5.length uc5)).setCell ⟨w.heap.size + 1 + 1, 6, none⟩ (.slice ub6 pl6.length uc6)).setCell ⟨w.heap.size + 1, 0, none⟩ (.int .i64 px0)).setCell ⟨w.heap.size + 1, 1, none⟩ (.bool px1)).setCell ⟨w.heap.size + 1, 2, none⟩ (.slice ub2 pl2.length uc2)).setCell ⟨w.heap.size + 1, 3, none⟩ (.slice ub3 pl3.length uc3)).setCell ⟨w.heap.size + 1, 4, none⟩ (.bool px4)).setCell ⟨w.heap.size + 1, 5, none⟩ (.slice ub5 pl5.length uc5)).setCell ⟨w.heap.size + 1, 6, none⟩ (.slice ub6 pl6.length uc6)) := (by (repeat (first | with_reducible exact OnlyIn.refl _ _ | with_reducible refine OnlyIn.setCell ?_ ?_ _ | with_reducible refine OnlyIn.alloc ?_ _)); all_goals (show _ < _; first | (simp; done) | (simp; omega) | omega))
  have BF : Below w.heap.size w (((((((((((((w1.setCell ⟨w.heap.size + 1 + 1, 1, none⟩ (.bool px1)).setCell ⟨w.heap.size + 1 + 1, 2, none⟩ (.slice ub2 pl2.length uc2)).setCell ⟨w.heap.size + 1 + 1, 3, none⟩ (.slice ub3 pl3.length uc3)).setCell ⟨w.heap.size + 1 + 1, 4, none⟩ (.bool px4)).setCell ⟨w.heap.size + 1 + 1, 5, none⟩ (.slice ub5 pl5.length uc5)).setCell ⟨w.heap.size + 1 + 1, 6, none⟩ (.slice ub6 pl6.length uc6)).setCell ⟨w.heap.size + 1, 0, none⟩ (.int .i64 px0)).setCell ⟨w.heap.size + 1, 1, none⟩ (.bool px1)).setCell ⟨w.heap.size + 1, 2, none⟩ (.slice ub2 pl2.length uc2)).setCell ⟨w.heap.size + 1, 3, none⟩ (.slice ub3 pl3.length uc3)).setCell ⟨w.heap.size + 1, 4, none⟩ (.bool px4)).setCell ⟨w.heap.size + 1, 5, none⟩ (.slice ub5 pl5.length uc5)).setCell ⟨w.heap.size + 1, 6, none⟩ (.slice ub6 pl6.length uc6)) := (by (repeat (first | with_reducible exact Below.refl _ _ | with_reducible assumption | with_reducible refine Below.drew ?_ | with_reducible refine Below.setCell ?_ ?_ _ | with_reducible refine Below.alloc ?_ ?_ _)); all_goals first | (simp; done) | (simp; omega) | omega)
  have FIN : Own (((((((((((((w1.setCell ⟨w.heap.size + 1 + 1, 1, none⟩ (.bool px1)).setCell ⟨w.heap.size + 1 + 1, 2, none⟩ (.slice ub2 pl2.length uc2)).setCell ⟨w.heap.size + 1 + 1, 3, none⟩ (.slice ub3 pl3.length uc3)).setCell ⟨w.heap.size + 1 + 1, 4, none⟩ (.bool px4)).setCell ⟨w.heap.size + 1 + 1, 5, none⟩ (.slice ub5 pl5.length uc5)).setCell ⟨w.heap.size + 1 + 1, 6, none⟩ (.slice ub6 pl6.length uc6)).setCell ⟨w.heap.size + 1, 0, none⟩ (.int .i64 px0)).setCell ⟨w.heap.size + 1, 1, none⟩ (.bool px1)).setCell ⟨w.heap.size + 1, 2, none⟩ (.slice ub2 pl2.length uc2)).setCell ⟨w.heap.size + 1, 3, none⟩ (.slice ub3 pl3.length uc3)).setCell ⟨w.heap.size + 1, 4, none⟩ (.bool px4)).setCell ⟨w.heap.size + 1, 5, none⟩ (.slice ub5 pl5.length uc5)).setCell ⟨w.heap.size + 1, 6, none⟩ (.slice ub6 pl6.length uc6)) w.heap.size (((((((((((((w1.setCell ⟨w.heap.size + 1 + 1, 1, none⟩ (.bool px1)).setCell ⟨w.heap.size + 1 + 1, 2, none⟩ (.slice ub2 pl2.length uc2)).setCell ⟨w.heap.size + 1 + 1, 3, none⟩ (.slice ub3 pl3.length uc3)).setCell ⟨w.heap.size + 1 + 1, 4, none⟩ (.bool px4)).setCell ⟨w.heap.size + 1 + 1, 5, none⟩ (.slice ub5 pl5.length uc5)).setCell ⟨w.heap.size + 1 + 1, 6, none⟩ (.slice ub6 pl6.length uc6)).setCell ⟨w.heap.size + 1, 0, none⟩ (.int .i64 px0)).setCell ⟨w.heap.size + 1, 1, none⟩ (.bool px1)).setCell ⟨w.heap.size + 1, 2, none⟩ (.slice ub2 pl2.length uc2)).setCell ⟨w.heap.size + 1, 3, none⟩ (.slice ub3 pl3.length uc3)).setCell ⟨w.heap.size + 1, 4, none⟩ (.bool px4)).setCell ⟨w.heap.size + 1, 5, none⟩ (.slice ub5 pl5.length uc5)).setCell ⟨w.heap.size + 1, 6, none⟩ (.slice ub6 pl6.length uc6)).heap.size [.int, .bool, .sl 3 [.int], .sl 3 [.int], .bool, .sl 3 [.int], .sl 3 [.int]] [.int px0, .bool px1, .sl pl2, .sl pl3, .bool px4, .sl pl5, .sl pl6] [.int .i64 px0, .bool px1, .slice ub2 pl2.length uc2, .slice ub3 pl3.length uc3, .bool px4, .slice ub5 pl5.length uc5, .slice ub6 pl6.length uc6] := by
    have hsz_ : (((((((((((((w1.setCell ⟨w.heap.size + 1 + 1, 1, none⟩ (.bool px1)).setCell ⟨w.heap.size + 1 + 1, 2, none⟩ (.slice ub2 pl2.length uc2)).setCell ⟨w.heap.size + 1 + 1, 3, none⟩ (.slice ub3 pl3.length uc3)).setCell ⟨w.heap.size + 1 + 1, 4, none⟩ (.bool px4)).setCell ⟨w.heap.size + 1 + 1, 5, none⟩ (.slice ub5 pl5.length uc5)).setCell ⟨w.heap.size + 1 + 1, 6, none⟩ (.slice ub6 pl6.length uc6)).setCell ⟨w.heap.size + 1, 0, none⟩ (.int .i64 px0)).setCell ⟨w.heap.size + 1, 1, none⟩ (.bool px1)).setCell ⟨w.heap.size + 1, 2, none⟩ (.slice ub2 pl2.length uc2)).setCell ⟨w.heap.size + 1, 3, none⟩ (.slice ub3 pl3.length uc3)).setCell ⟨w.heap.size + 1, 4, none⟩ (.bool px4)).setCell ⟨w.heap.size + 1, 5, none⟩ (.slice ub5 pl5.length uc5)).setCell ⟨w.heap.size + 1, 6, none⟩ (.slice ub6 pl6.length uc6)).heap.size = w1.heap.size := by simp [World.setCell]
    rw [hsz_]
    have own1 : Own (((((((((((((w1.setCell ⟨w.heap.size + 1 + 1, 1, none⟩ (.bool px1)).setCell ⟨w.heap.size + 1 + 1, 2, none⟩ (.slice ub2 pl2.length uc2)).setCell ⟨w.heap.size + 1 + 1, 3, none⟩ (.slice ub3 pl3.length uc3)).setCell ⟨w.heap.size + 1 + 1, 4, none⟩ (.bool px4)).setCell ⟨w.heap.size + 1 + 1, 5, none⟩ (.slice ub5 pl5.length uc5)).setCell ⟨w.heap.size + 1 + 1, 6, none⟩ (.slice ub6 pl6.length uc6)).setCell ⟨w.heap.size + 1, 0, none⟩ (.int .i64 px0)).setCell ⟨w.heap.size + 1, 1, none⟩ (.bool px1)).setCell ⟨w.heap.size + 1, 2, none⟩ (.slice ub2 pl2.length uc2)).setCell ⟨w.heap.size + 1, 3, none⟩ (.slice ub3 pl3.length uc3)).setCell ⟨w.heap.size + 1, 4, none⟩ (.bool px4)).setCell ⟨w.heap.size + 1, 5, none⟩ (.slice ub5 pl5.length uc5)).setCell ⟨w.heap.size + 1, 6, none⟩ (.slice ub6 pl6.length uc6)) (w.heap.size + 3) w1.heap.size [.bool, .sl 3 [.int], .sl 3 [.int], .bool, .sl 3 [.int], .sl 3 [.int]] [.bool px1, .sl pl2, .sl pl3, .bool px4, .sl pl5, .sl pl6] [.bool px1, .slice ub2 pl2.length uc2, .slice ub3 pl3.length uc3, .bool px4, .slice ub5 pl5.length uc5, .slice ub6 pl6.length uc6] := by
      have o := O1.out
      simp only [World.size_alloc] at o
      exact (o.only (PF) (fun b hb => .inl (by omega))).mono (by omega) (Nat.le_refl _)
    exact (((Own.nil _ w.heap.size (w.heap.size + 3)).append (Own.leaf (hi := w.heap.size + 3) (Fp.mk_int _)) (by omega) (by omega)).append own1 (by omega) (by omega)).mono (Nat.le_refl _) (by omega)
  have FF := Lib.hid FIN
  clear FIN PF
  go_wp2
  obtain ⟨q0_, q1_, q2_, q3_, q4_, q5_, q6_⟩ := QQ.out
  exact bodyPost_ret (v := .agg #[.int .i64 px0, .bool px1, .slice ub2 pl2.length uc2, .slice ub3 pl3.length uc3, .bool px4, .slice ub5 pl5.length uc5, .slice ub6 pl6.length uc6]) (by simp [results, Try.results67, go_sem, q0_, q1_, q2_, q3_, q4_, q5_, q6_]) rfl ⟨_, rfl, FF.out, BF⟩
end Go.Proofs.Ytemgpfojmdncjaa
