import Derived.Test.YtblmlkdefjoebaaGreatProg
import Derived.Test.YtblmlkdefjoebaaGreatFaTyB
import Derived.Outline
import Derived.Laws.MakeOwn
import Derived.RegionTactic
import Derived.BigRegion
import Derived.Deep.RegionHeld3
import Derived.Deep.DrawnRows
namespace Go.Proofs.YtblmlkdefjoebaaGreat
set_option maxRecDepth 100000
set_option linter.unusedVariables false
set_option linter.unusedSimpArgs false
open Go.RowKit
attribute [local go_sem ↓] Go.wp_at_zero Go.wp_at_succ
set_option maxHeartbeats 4000000 in
theorem eqPoint_c (ds : List Dat) (vs us : List Value) (w : World) (h : RdRow w [.bool, .sl 3 [.int], .sl 3 [.int], .bool, .sl 3 [.int], .sl 3 [.int]] ds vs) (h' : RdRow w [.bool, .sl 3 [.int], .sl 3 [.int], .bool, .sl 3 [.int], .sl 3 [.int]] ds us) :
    Calls Tryz.prog 37 #[.agg vs.toArray, .agg us.toArray] w fun e w' => e = .returned (.bool true) ∧ Below w.heap.size w w' := by
  obtain ⟨pd, pds, pv, pvs, rfl, rfl, ph, h_0⟩ := RdRow.cons_inv h
  obtain ⟨px0, rfl, rfl⟩ := Rd.bool_inv ph
  obtain ⟨pd, pds, pv, pvs, rfl, rfl, ph, h_1⟩ := RdRow.cons_inv h_0
  obtain ⟨pl1, pa1, pc1, rfl, rfl, pe1, pf1, pr1⟩ := Rd.sl_inv ph
  obtain ⟨pd, pds, pv, pvs, rfl, rfl, ph, h_2⟩ := RdRow.cons_inv h_1
  obtain ⟨pl2, pa2, pc2, rfl, rfl, pe2, pf2, pr2⟩ := Rd.sl_inv ph
  obtain ⟨pd, pds, pv, pvs, rfl, rfl, ph, h_3⟩ := RdRow.cons_inv h_2
  obtain ⟨px3, rfl, rfl⟩ := Rd.bool_inv ph
  obtain ⟨pd, pds, pv, pvs, rfl, rfl, ph, h_4⟩ := RdRow.cons_inv h_3
  obtain ⟨pl4, pa4, pc4, rfl, rfl, pe4, pf4, pr4⟩ := Rd.sl_inv ph
  obtain ⟨pd, pds, pv, pvs, rfl, rfl, ph, h_5⟩ := RdRow.cons_inv h_4
  obtain ⟨pl5, pa5, pc5, rfl, rfl, pe5, pf5, pr5⟩ := Rd.sl_inv ph
  obtain ⟨rfl, rfl⟩ := RdRow.nil_inv h_5
  obtain ⟨qv, qvs, rfl, qh, h'_0⟩ := RdRow.cons2 h'
  obtain rfl := Rd.bool2 qh
  obtain ⟨qv, qvs, rfl, qh, h'_1⟩ := RdRow.cons2 h'_0
  obtain ⟨qa1, qc1, rfl, qe1, qf1, qr1⟩ := Rd.sl2 qh
  obtain ⟨qv, qvs, rfl, qh, h'_2⟩ := RdRow.cons2 h'_1
  obtain ⟨qa2, qc2, rfl, qe2, qf2, qr2⟩ := Rd.sl2 qh
  obtain ⟨qv, qvs, rfl, qh, h'_3⟩ := RdRow.cons2 h'_2
  obtain rfl := Rd.bool2 qh
  obtain ⟨qv, qvs, rfl, qh, h'_4⟩ := RdRow.cons2 h'_3
  obtain ⟨qa4, qc4, rfl, qe4, qf4, qr4⟩ := Rd.sl2 qh
  obtain ⟨qv, qvs, rfl, qh, h'_5⟩ := RdRow.cons2 h'_4
  obtain ⟨qa5, qc5, rfl, qe5, qf5, qr5⟩ := Rd.sl2 qh
  obtain ⟨-, rfl⟩ := RdRow.nil_inv h'_5
  have H1 := Lib.hid pr1
  have G1 := Lib.hid qr1
  clear pr1 qr1
  have H2 := Lib.hid pr2
  have G2 := Lib.hid qr2
  clear pr2 qr2
  have H4 := Lib.hid pr4
  have G4 := Lib.hid qr4
  clear pr4 qr4
  have H5 := Lib.hid pr5
  have G5 := Lib.hid qr5
  clear pr5 qr5
  go_enter Tryz.func37, Tryz.ntmps37
  go_wp2_with fail
  refine (eqRat_c [.bool px0, .sl pl1, .sl pl2] [.bool px0, .slice pa1 pl1.length pc1, .slice pa2 pl2.length pc2] [.bool px0, .slice qa1 pl1.length qc1, .slice qa2 pl2.length qc2] _ (RdRow.below (by (repeat (first | with_reducible exact Below.refl _ _ | with_reducible assumption | with_reducible refine Below.drew ?_ | with_reducible refine Below.setCell ?_ ?_ _ | with_reducible refine Below.alloc ?_ ?_ _)); all_goals first | (simp; done) | (simp; omega) | omega) _ _ _ (RdRow.mk_cons (Rd.mk_bool px0) (RdRow.mk_cons H1.out (RdRow.mk_cons H2.out RdRow.mk_nil)))) (RdRow.below (by (repeat (first | with_reducible exact Below.refl _ _ | with_reducible assumption | with_reducible refine Below.drew ?_ | with_reducible refine Below.setCell ?_ ?_ _ | with_reducible refine Below.alloc ?_ ?_ _)); all_goals first | (simp; done) | (simp; omega) | omega) _ _ _ (RdRow.mk_cons (Rd.mk_bool px0) (RdRow.mk_cons G1.out (RdRow.mk_cons G2.out RdRow.mk_nil))))).mono ?_
  rintro e w1 ⟨rfl, h1⟩
  have B1 : Below w.heap.size w w1 := Below.trans (by (repeat (first | with_reducible exact Below.refl _ _ | with_reducible assumption | with_reducible refine Below.drew ?_ | with_reducible refine Below.setCell ?_ ?_ _ | with_reducible refine Below.alloc ?_ ?_ _)); all_goals first | (simp; done) | (simp; omega) | omega) (h1.mono (by first | (simp; done) | (simp; omega) | omega))
  have S1 := h1.size
  have T1 := B1.size
  try simp at S1
  obtain ⟨k1, f1⟩ := bcell h1
  try simp at k1
  try simp at f1
  have Hc1 := Lib.hid h1
  clear h1
  have u1_0 : w.heap.size < w1.heap.size := by omega
  have u1_1 : w.heap.size + 1 < w1.heap.size := by omega
  go_wp2_with fail
  refine (eqRat_c [.bool px3, .sl pl4, .sl pl5] [.bool px3, .slice pa4 pl4.length pc4, .slice pa5 pl5.length pc5] [.bool px3, .slice qa4 pl4.length qc4, .slice qa5 pl5.length qc5] _ (RdRow.below (by (repeat (first | with_reducible exact Below.refl _ _ | with_reducible assumption | with_reducible refine Below.drew ?_ | with_reducible refine Below.setCell ?_ ?_ _ | with_reducible refine Below.alloc ?_ ?_ _)); all_goals first | (simp; done) | (simp; omega) | omega) _ _ _ (RdRow.mk_cons (Rd.mk_bool px3) (RdRow.mk_cons H4.out (RdRow.mk_cons H5.out RdRow.mk_nil)))) (RdRow.below (by (repeat (first | with_reducible exact Below.refl _ _ | with_reducible assumption | with_reducible refine Below.drew ?_ | with_reducible refine Below.setCell ?_ ?_ _ | with_reducible refine Below.alloc ?_ ?_ _)); all_goals first | (simp; done) | (simp; omega) | omega) _ _ _ (RdRow.mk_cons (Rd.mk_bool px3) (RdRow.mk_cons G4.out (RdRow.mk_cons G5.out RdRow.mk_nil))))).mono ?_
  rintro e w2 ⟨rfl, h2⟩
  have B2 : Below w.heap.size w w2 := Below.trans (by (repeat (first | with_reducible exact Below.refl _ _ | with_reducible assumption | with_reducible refine Below.drew ?_ | with_reducible refine Below.setCell ?_ ?_ _ | with_reducible refine Below.alloc ?_ ?_ _)); all_goals first | (simp; done) | (simp; omega) | omega) (h2.mono (by first | (simp; done) | (simp; omega) | omega))
  have S2 := h2.size
  have T2 := B2.size
  try simp at S2
  obtain ⟨k2, f2⟩ := bcell h2
  try simp at k2
  try simp at f2
  have Hc2 := Lib.hid h2
  clear h2
  have u2_0 : w.heap.size < w2.heap.size := by omega
  have u2_1 : w.heap.size + 1 < w2.heap.size := by omega
  go_wp2
  go_ret
  exact ⟨rfl, (by (repeat (first | with_reducible exact Below.refl _ _ | with_reducible assumption | with_reducible refine Below.drew ?_ | with_reducible refine Below.setCell ?_ ?_ _ | with_reducible refine Below.alloc ?_ ?_ _)); all_goals first | (simp; done) | (simp; omega) | omega)⟩
set_option maxHeartbeats 4000000 in
theorem toPoint_c (ds : List Dat) (hsz : szRow ds ≤ 1048576) (vs : List Value) (w : World) (h : RdRow w [.bool, .sl 3 [.int], .sl 3 [.int], .bool, .sl 3 [.int], .sl 3 [.int]] ds vs) :
    Calls Tryz.prog 34 #[.agg vs.toArray] w fun e w' => ∃ us : List Value, e = .returned (.agg us.toArray) ∧ Own w' w.heap.size w'.heap.size [.bool, .sl 3 [.int], .sl 3 [.int], .bool, .sl 3 [.int], .sl 3 [.int]] ds us ∧ Below w.heap.size w w' := by
  obtain ⟨pd, pds, pv, pvs, rfl, rfl, ph, h_0⟩ := RdRow.cons_inv h
  obtain ⟨px0, rfl, rfl⟩ := Rd.bool_inv ph
  obtain ⟨pd, pds, pv, pvs, rfl, rfl, ph, h_1⟩ := RdRow.cons_inv h_0
  obtain ⟨pl1, pa1, pc1, rfl, rfl, pe1, pf1, pr1⟩ := Rd.sl_inv ph
  obtain ⟨pd, pds, pv, pvs, rfl, rfl, ph, h_2⟩ := RdRow.cons_inv h_1
  obtain ⟨pl2, pa2, pc2, rfl, rfl, pe2, pf2, pr2⟩ := Rd.sl_inv ph
  obtain ⟨pd, pds, pv, pvs, rfl, rfl, ph, h_3⟩ := RdRow.cons_inv h_2
  obtain ⟨px3, rfl, rfl⟩ := Rd.bool_inv ph
  obtain ⟨pd, pds, pv, pvs, rfl, rfl, ph, h_4⟩ := RdRow.cons_inv h_3
  obtain ⟨pl4, pa4, pc4, rfl, rfl, pe4, pf4, pr4⟩ := Rd.sl_inv ph
  obtain ⟨pd, pds, pv, pvs, rfl, rfl, ph, h_5⟩ := RdRow.cons_inv h_4
  obtain ⟨pl5, pa5, pc5, rfl, rfl, pe5, pf5, pr5⟩ := Rd.sl_inv ph
  obtain ⟨rfl, rfl⟩ := RdRow.nil_inv h_5
  have H1 := Lib.hid pr1
  clear pr1
  have H2 := Lib.hid pr2
  clear pr2
  have H4 := Lib.hid pr4
  clear pr4
  have H5 := Lib.hid pr5
  clear pr5
  simp only [szRow, Dat.sz] at hsz
  have HZ := Lib.hid hsz
  clear hsz
  go_enter Tryz.func34, Tryz.ntmps34
  go_wp2_with fail
  refine (toRat_c [.bool px0, .sl pl1, .sl pl2] (by have hz := HZ.out; simp only [szRow, Dat.sz]; omega) [.bool px0, .slice pa1 pl1.length pc1, .slice pa2 pl2.length pc2] _ (RdRow.below (by (repeat (first | with_reducible exact Below.refl _ _ | with_reducible assumption | with_reducible refine Below.drew ?_ | with_reducible refine Below.setCell ?_ ?_ _ | with_reducible refine Below.alloc ?_ ?_ _)); all_goals first | (simp; done) | (simp; omega) | omega) _ _ _ (RdRow.mk_cons (Rd.mk_bool px0) (RdRow.mk_cons H1.out (RdRow.mk_cons H2.out RdRow.mk_nil))))).mono ?_
  rintro e w1 ⟨u1, rfl, ho1, h1⟩
  have B1 : Below w.heap.size w w1 := Below.trans (by (repeat (first | with_reducible exact Below.refl _ _ | with_reducible assumption | with_reducible refine Below.drew ?_ | with_reducible refine Below.setCell ?_ ?_ _ | with_reducible refine Below.alloc ?_ ?_ _)); all_goals first | (simp; done) | (simp; omega) | omega) (h1.mono (by first | (simp; done) | (simp; omega) | omega))
  have S1 := h1.size
  have T1 := B1.size
  try simp at S1
  obtain ⟨k1, f1⟩ := bcell h1
  try simp at k1
  try simp at f1
  have Hc1 := Lib.hid h1
  clear h1
  have u1_0 : w.heap.size < w1.heap.size := by omega
  have u1_1 : w.heap.size + 1 < w1.heap.size := by omega
  have u1_2 : w.heap.size + 1 + 1 < w1.heap.size := by omega
  obtain ⟨ub1, uc1, ub2, uc2, rfl⟩ : ∃ ub1 uc1 ub2 uc2, u1 = [.bool px0, .slice ub1 pl1.length uc1, .slice ub2 pl2.length uc2] := by
    have q := ho1.rd
    obtain ⟨v0, q0, rfl, e0, q_0⟩ := RdRow.cons2 q
    obtain rfl := Rd.bool2 e0
    obtain ⟨v1, q1, rfl, e1, q_1⟩ := RdRow.cons2 q_0
    obtain ⟨a1, c1, rfl, -⟩ := Rd.sl2 e1
    obtain ⟨v2, q2, rfl, e2, q_2⟩ := RdRow.cons2 q_1
    obtain ⟨a2, c2, rfl, -⟩ := Rd.sl2 e2
    obtain ⟨-, rfl⟩ := RdRow.nil_inv q_2
    exact ⟨a1, c1, a2, c2, rfl⟩
  have P1 : OnlyIn (fun b => b < w.heap.size + 3) w w1 := OnlyIn.trans (by (repeat (first | with_reducible exact OnlyIn.refl _ _ | with_reducible refine OnlyIn.setCell ?_ ?_ _ | with_reducible refine OnlyIn.alloc ?_ _)); all_goals (show _ < _; first | (simp; done) | (simp; omega) | omega)) (OnlyIn.of_below Hc1.out)
  have O1 := Lib.hid ho1
  have PP1 := Lib.hid P1
  clear ho1 P1
  go_wp2_with fail
  refine (toRat_c [.bool px3, .sl pl4, .sl pl5] (by have hz := HZ.out; simp only [szRow, Dat.sz]; omega) [.bool px3, .slice pa4 pl4.length pc4, .slice pa5 pl5.length pc5] _ (RdRow.below (by (repeat (first | with_reducible exact Below.refl _ _ | with_reducible assumption | with_reducible refine Below.drew ?_ | with_reducible refine Below.setCell ?_ ?_ _ | with_reducible refine Below.alloc ?_ ?_ _)); all_goals first | (simp; done) | (simp; omega) | omega) _ _ _ (RdRow.mk_cons (Rd.mk_bool px3) (RdRow.mk_cons H4.out (RdRow.mk_cons H5.out RdRow.mk_nil))))).mono ?_
  rintro e w2 ⟨u2, rfl, ho2, h2⟩
  have B2 : Below w.heap.size w w2 := Below.trans (by (repeat (first | with_reducible exact Below.refl _ _ | with_reducible assumption | with_reducible refine Below.drew ?_ | with_reducible refine Below.setCell ?_ ?_ _ | with_reducible refine Below.alloc ?_ ?_ _)); all_goals first | (simp; done) | (simp; omega) | omega) (h2.mono (by first | (simp; done) | (simp; omega) | omega))
  have S2 := h2.size
  have T2 := B2.size
  try simp at S2
  obtain ⟨k2, f2⟩ := bcell h2
  try simp at k2
  try simp at f2
  have Hc2 := Lib.hid h2
  clear h2
  have u2_0 : w.heap.size < w2.heap.size := by omega
  have u2_1 : w.heap.size + 1 < w2.heap.size := by omega
  have u2_2 : w.heap.size + 1 + 1 < w2.heap.size := by omega
  obtain ⟨ub4, uc4, ub5, uc5, rfl⟩ : ∃ ub4 uc4 ub5 uc5, u2 = [.bool px3, .slice ub4 pl4.length uc4, .slice ub5 pl5.length uc5] := by
    have q := ho2.rd
    obtain ⟨v3, q3, rfl, e3, q_3⟩ := RdRow.cons2 q
    obtain rfl := Rd.bool2 e3
    obtain ⟨v4, q4, rfl, e4, q_4⟩ := RdRow.cons2 q_3
    obtain ⟨a4, c4, rfl, -⟩ := Rd.sl2 e4
    obtain ⟨v5, q5, rfl, e5, q_5⟩ := RdRow.cons2 q_4
    obtain ⟨a5, c5, rfl, -⟩ := Rd.sl2 e5
    obtain ⟨-, rfl⟩ := RdRow.nil_inv q_5
    exact ⟨a4, c4, a5, c5, rfl⟩
  have P2 : OnlyIn (fun b => b < w.heap.size + 3) w1 w2 := OnlyIn.trans (by (repeat (first | with_reducible exact OnlyIn.refl _ _ | with_reducible refine OnlyIn.setCell ?_ ?_ _ | with_reducible refine OnlyIn.alloc ?_ _)); all_goals (show _ < _; first | (simp; done) | (simp; omega) | omega)) (OnlyIn.of_below Hc2.out)
  have O2 := Lib.hid ho2
  have PP2 := Lib.hid P2
  clear ho2 P2
  have r0_ : w2.cell? ⟨w.heap.size + 1 + 1, 0, none⟩ = some (.bool px0) := by go_simp
  have s0_ : w2.cell? ⟨w.heap.size + 1, 0, none⟩ = some (.bool false) := by go_simp
  have f0_ : w2.frozen? ⟨w.heap.size + 1, 0, none⟩ = false := by go_simp
  have r1_ : w2.cell? ⟨w.heap.size + 1 + 1, 1, none⟩ = some (.slice ub1 pl1.length uc1) := by go_simp
  have s1_ : w2.cell? ⟨w.heap.size + 1, 1, none⟩ = some (.slice none 0 0) := by go_simp
  have f1_ : w2.frozen? ⟨w.heap.size + 1, 1, none⟩ = false := by go_simp
  have r2_ : w2.cell? ⟨w.heap.size + 1 + 1, 2, none⟩ = some (.slice ub2 pl2.length uc2) := by go_simp
  have s2_ : w2.cell? ⟨w.heap.size + 1, 2, none⟩ = some (.slice none 0 0) := by go_simp
  have f2_ : w2.frozen? ⟨w.heap.size + 1, 2, none⟩ = false := by go_simp
  have r3_ : w2.cell? ⟨w.heap.size + 1 + 1, 3, none⟩ = some (.bool false) := by go_simp
  have s3_ : w2.cell? ⟨w.heap.size + 1, 3, none⟩ = some (.bool false) := by go_simp
  have f3_ : w2.frozen? ⟨w.heap.size + 1, 3, none⟩ = false := by go_simp
  have g3_ : w2.frozen? ⟨w.heap.size + 1 + 1, 3, none⟩ = false := by go_simp
  have r4_ : w2.cell? ⟨w.heap.size + 1 + 1, 4, none⟩ = some (.slice none 0 0) := by go_simp
  have s4_ : w2.cell? ⟨w.heap.size + 1, 4, none⟩ = some (.slice none 0 0) := by go_simp
  have f4_ : w2.frozen? ⟨w.heap.size + 1, 4, none⟩ = false := by go_simp
  have g4_ : w2.frozen? ⟨w.heap.size + 1 + 1, 4, none⟩ = false := by go_simp
  have r5_ : w2.cell? ⟨w.heap.size + 1 + 1, 5, none⟩ = some (.slice none 0 0) := by go_simp
  have s5_ : w2.cell? ⟨w.heap.size + 1, 5, none⟩ = some (.slice none 0 0) := by go_simp
  have f5_ : w2.frozen? ⟨w.heap.size + 1, 5, none⟩ = false := by go_simp
  have g5_ : w2.frozen? ⟨w.heap.size + 1 + 1, 5, none⟩ = false := by go_simp
  clear k1 f1 k2 f2
  have q0_ : (((((((((w2.setCell ⟨w.heap.size + 1 + 1, 3, none⟩ (.bool px3)).setCell ⟨w.heap.size + 1 + 1, 4, none⟩ (.slice ub4 pl4.length uc4)).setCell ⟨w.heap.size + 1 + 1, 5, none⟩ (.slice ub5 pl5.length uc5)).setCell ⟨w.heap.size + 1, 0, none⟩ (.bool px0)).setCell ⟨w.heap.size + 1, 1, none⟩ (.slice ub1 pl1.length uc1)).setCell ⟨w.heap.size + 1, 2, none⟩ (.slice ub2 pl2.length uc2)).setCell ⟨w.heap.size + 1, 3, none⟩ (.bool px3)).setCell ⟨w.heap.size + 1, 4, none⟩ (.slice ub4 pl4.length uc4)).setCell ⟨w.heap.size + 1, 5, none⟩ (.slice ub5 pl5.length uc5)).cell? ⟨w.heap.size + 1, 0, none⟩ = some (.bool px0) := by go_simp
  have q1_ : (((((((((w2.setCell ⟨w.heap.size + 1 + 1, 3, none⟩ (.bool px3)).setCell ⟨w.heap.size + 1 + 1, 4, none⟩ (.slice ub4 pl4.length uc4)).setCell ⟨w.heap.size + 1 + 1, 5, none⟩ (.slice ub5 pl5.length uc5)).setCell ⟨w.heap.size + 1, 0, none⟩ (.bool px0)).setCell ⟨w.heap.size + 1, 1, none⟩ (.slice ub1 pl1.length uc1)).setCell ⟨w.heap.size + 1, 2, none⟩ (.slice ub2 pl2.length uc2)).setCell ⟨w.heap.size + 1, 3, none⟩ (.bool px3)).setCell ⟨w.heap.size + 1, 4, none⟩ (.slice ub4 pl4.length uc4)).setCell ⟨w.heap.size + 1, 5, none⟩ (.slice ub5 pl5.length uc5)).cell? ⟨w.heap.size + 1, 1, none⟩ = some (.slice ub1 pl1.length uc1) := by go_simp
  have q2_ : (((((((((w2.setCell ⟨w.heap.size + 1 + 1, 3, none⟩ (.bool px3)).setCell ⟨w.heap.size + 1 + 1, 4, none⟩ (.slice ub4 pl4.length uc4)).setCell ⟨w.heap.size + 1 + 1, 5, none⟩ (.slice ub5 pl5.length uc5)).setCell ⟨w.heap.size + 1, 0, none⟩ (.bool px0)).setCell ⟨w.heap.size + 1, 1, none⟩ (.slice ub1 pl1.length uc1)).setCell ⟨w.heap.size + 1, 2, none⟩ (.slice ub2 pl2.length uc2)).setCell ⟨w.heap.size + 1, 3, none⟩ (.bool px3)).setCell ⟨w.heap.size + 1, 4, none⟩ (.slice ub4 pl4.length uc4)).setCell ⟨w.heap.size + 1, 5, none⟩ (.slice ub5 pl5.length uc5)).cell? ⟨w.heap.size + 1, 2, none⟩ = some (.slice ub2 pl2.length uc2) := by go_simp
  have q3_ : (((((((((w2.setCell ⟨w.heap.size + 1 + 1, 3, none⟩ (.bool px3)).setCell ⟨w.heap.size + 1 + 1, 4, none⟩ (.slice ub4 pl4.length uc4)).setCell ⟨w.heap.size + 1 + 1, 5, none⟩ (.slice ub5 pl5.length uc5)).setCell ⟨w.heap.size + 1, 0, none⟩ (.bool px0)).setCell ⟨w.heap.size + 1, 1, none⟩ (.slice ub1 pl1.length uc1)).setCell ⟨w.heap.size + 1, 2, none⟩ (.slice ub2 pl2.length uc2)).setCell ⟨w.heap.size + 1, 3, none⟩ (.bool px3)).setCell ⟨w.heap.size + 1, 4, none⟩ (.slice ub4 pl4.length uc4)).setCell ⟨w.heap.size + 1, 5, none⟩ (.slice ub5 pl5.length uc5)).cell? ⟨w.heap.size + 1, 3, none⟩ = some (.bool px3) := by go_simp
  have q4_ : (((((((((w2.setCell ⟨w.heap.size + 1 + 1, 3, none⟩ (.bool px3)).setCell ⟨w.heap.size + 1 + 1, 4, none⟩ (.slice ub4 pl4.length uc4)).setCell ⟨w.heap.size + 1 + 1, 5, none⟩ (.slice ub5 pl5.length uc5)).setCell ⟨w.heap.size + 1, 0, none⟩ (.bool px0)).setCell ⟨w.heap.size + 1, 1, none⟩ (.slice ub1 pl1.length uc1)).setCell ⟨w.heap.size + 1, 2, none⟩ (.slice ub2 pl2.length uc2)).setCell ⟨w.heap.size + 1, 3, none⟩ (.bool px3)).setCell ⟨w.heap.size + 1, 4, none⟩ (.slice ub4 pl4.length uc4)).setCell ⟨w.heap.size + 1, 5, none⟩ (.slice ub5 pl5.length uc5)).cell? ⟨w.heap.size + 1, 4, none⟩ = some (.slice ub4 pl4.length uc4) := by go_simp
  have q5_ : (((((((((w2.setCell ⟨w.heap.size + 1 + 1, 3, none⟩ (.bool px3)).setCell ⟨w.heap.size + 1 + 1, 4, none⟩ (.slice ub4 pl4.length uc4)).setCell ⟨w.heap.size + 1 + 1, 5, none⟩ (.slice ub5 pl5.length uc5)).setCell ⟨w.heap.size + 1, 0, none⟩ (.bool px0)).setCell ⟨w.heap.size + 1, 1, none⟩ (.slice ub1 pl1.length uc1)).setCell ⟨w.heap.size + 1, 2, none⟩ (.slice ub2 pl2.length uc2)).setCell ⟨w.heap.size + 1, 3, none⟩ (.bool px3)).setCell ⟨w.heap.size + 1, 4, none⟩ (.slice ub4 pl4.length uc4)).setCell ⟨w.heap.size + 1, 5, none⟩ (.slice ub5 pl5.length uc5)).cell? ⟨w.heap.size + 1, 5, none⟩ = some (.slice ub5 pl5.length uc5) := by go_simp
  have QQ := Lib.hid (And.intro q0_ (And.intro q1_ (And.intro q2_ (And.intro q3_ (And.intro q4_ (q5_))))))
  clear q0_ q1_ q2_ q3_ q4_ q5_
  have PF : OnlyIn (fun b => b < w.heap.size + 3) w2 (((((((((w2.setCell ⟨w.heap.size + 1 + 1, 3, none⟩ (.bool px3)).setCell ⟨w.heap.size + 1 + 1, 4, none⟩ (.slice ub4 pl4.length uc4)).setCell ⟨w.heap.size + 1 + 1, 5, none⟩ (.slice ub5 pl5.length uc5)).setCell ⟨w.heap.size + 1, 0, none⟩ (.bool px0)).setCell ⟨w.heap.size + 1, 1, none⟩ (.slice ub1 pl1.length uc1)).setCell ⟨w.heap.size + 1, 2, none⟩ (.slice ub2 pl2.length uc2)).setCell ⟨w.heap.size + 1, 3, none⟩ (.bool px3)).setCell ⟨w.heap.size + 1, 4, none⟩ (.slice ub4 pl4.length uc4)).setCell ⟨w.heap.size + 1, 5, none⟩ (.slice ub5 pl5.length uc5)) := (by (repeat (first | with_reducible exact OnlyIn.refl _ _ | with_reducible refine OnlyIn.setCell ?_ ?_ _ | with_reducible refine OnlyIn.alloc ?_ _)); all_goals (show _ < _; first | (simp; done) | (simp; omega) | omega))
  have BF : Below w.heap.size w (((((((((w2.setCell ⟨w.heap.size + 1 + 1, 3, none⟩ (.bool px3)).setCell ⟨w.heap.size + 1 + 1, 4, none⟩ (.slice ub4 pl4.length uc4)).setCell ⟨w.heap.size + 1 + 1, 5, none⟩ (.slice ub5 pl5.length uc5)).setCell ⟨w.heap.size + 1, 0, none⟩ (.bool px0)).setCell ⟨w.heap.size + 1, 1, none⟩ (.slice ub1 pl1.length uc1)).setCell ⟨w.heap.size + 1, 2, none⟩ (.slice ub2 pl2.length uc2)).setCell ⟨w.heap.size + 1, 3, none⟩ (.bool px3)).setCell ⟨w.heap.size + 1, 4, none⟩ (.slice ub4 pl4.length uc4)).setCell ⟨w.heap.size + 1, 5, none⟩ (.slice ub5 pl5.length uc5)) := (by (repeat (first | with_reducible exact Below.refl _ _ | with_reducible assumption | with_reducible refine Below.drew ?_ | with_reducible refine Below.setCell ?_ ?_ _ | with_reducible refine Below.alloc ?_ ?_ _)); all_goals first | (simp; done) | (simp; omega) | omega)
  have FIN : Own (((((((((w2.setCell ⟨w.heap.size + 1 + 1, 3, none⟩ (.bool px3)).setCell ⟨w.heap.size + 1 + 1, 4, none⟩ (.slice ub4 pl4.length uc4)).setCell ⟨w.heap.size + 1 + 1, 5, none⟩ (.slice ub5 pl5.length uc5)).setCell ⟨w.heap.size + 1, 0, none⟩ (.bool px0)).setCell ⟨w.heap.size + 1, 1, none⟩ (.slice ub1 pl1.length uc1)).setCell ⟨w.heap.size + 1, 2, none⟩ (.slice ub2 pl2.length uc2)).setCell ⟨w.heap.size + 1, 3, none⟩ (.bool px3)).setCell ⟨w.heap.size + 1, 4, none⟩ (.slice ub4 pl4.length uc4)).setCell ⟨w.heap.size + 1, 5, none⟩ (.slice ub5 pl5.length uc5)) w.heap.size (((((((((w2.setCell ⟨w.heap.size + 1 + 1, 3, none⟩ (.bool px3)).setCell ⟨w.heap.size + 1 + 1, 4, none⟩ (.slice ub4 pl4.length uc4)).setCell ⟨w.heap.size + 1 + 1, 5, none⟩ (.slice ub5 pl5.length uc5)).setCell ⟨w.heap.size + 1, 0, none⟩ (.bool px0)).setCell ⟨w.heap.size + 1, 1, none⟩ (.slice ub1 pl1.length uc1)).setCell ⟨w.heap.size + 1, 2, none⟩ (.slice ub2 pl2.length uc2)).setCell ⟨w.heap.size + 1, 3, none⟩ (.bool px3)).setCell ⟨w.heap.size + 1, 4, none⟩ (.slice ub4 pl4.length uc4)).setCell ⟨w.heap.size + 1, 5, none⟩ (.slice ub5 pl5.length uc5)).heap.size [.bool, .sl 3 [.int], .sl 3 [.int], .bool, .sl 3 [.int], .sl 3 [.int]] [.bool px0, .sl pl1, .sl pl2, .bool px3, .sl pl4, .sl pl5] [.bool px0, .slice ub1 pl1.length uc1, .slice ub2 pl2.length uc2, .bool px3, .slice ub4 pl4.length uc4, .slice ub5 pl5.length uc5] := by
    have hsz_ : (((((((((w2.setCell ⟨w.heap.size + 1 + 1, 3, none⟩ (.bool px3)).setCell ⟨w.heap.size + 1 + 1, 4, none⟩ (.slice ub4 pl4.length uc4)).setCell ⟨w.heap.size + 1 + 1, 5, none⟩ (.slice ub5 pl5.length uc5)).setCell ⟨w.heap.size + 1, 0, none⟩ (.bool px0)).setCell ⟨w.heap.size + 1, 1, none⟩ (.slice ub1 pl1.length uc1)).setCell ⟨w.heap.size + 1, 2, none⟩ (.slice ub2 pl2.length uc2)).setCell ⟨w.heap.size + 1, 3, none⟩ (.bool px3)).setCell ⟨w.heap.size + 1, 4, none⟩ (.slice ub4 pl4.length uc4)).setCell ⟨w.heap.size + 1, 5, none⟩ (.slice ub5 pl5.length uc5)).heap.size = w2.heap.size := by simp [World.setCell]
    rw [hsz_]
    have own1 : Own (((((((((w2.setCell ⟨w.heap.size + 1 + 1, 3, none⟩ (.bool px3)).setCell ⟨w.heap.size + 1 + 1, 4, none⟩ (.slice ub4 pl4.length uc4)).setCell ⟨w.heap.size + 1 + 1, 5, none⟩ (.slice ub5 pl5.length uc5)).setCell ⟨w.heap.size + 1, 0, none⟩ (.bool px0)).setCell ⟨w.heap.size + 1, 1, none⟩ (.slice ub1 pl1.length uc1)).setCell ⟨w.heap.size + 1, 2, none⟩ (.slice ub2 pl2.length uc2)).setCell ⟨w.heap.size + 1, 3, none⟩ (.bool px3)).setCell ⟨w.heap.size + 1, 4, none⟩ (.slice ub4 pl4.length uc4)).setCell ⟨w.heap.size + 1, 5, none⟩ (.slice ub5 pl5.length uc5)) (w.heap.size + 3) w1.heap.size [.bool, .sl 3 [.int], .sl 3 [.int]] [.bool px0, .sl pl1, .sl pl2] [.bool px0, .slice ub1 pl1.length uc1, .slice ub2 pl2.length uc2] := by
      have o := O1.out
      simp only [World.size_alloc] at o
      exact (o.only (PP2.out.trans (PF)) (fun b hb => .inl (by omega))).mono (by omega) (Nat.le_refl _)
    have own2 : Own (((((((((w2.setCell ⟨w.heap.size + 1 + 1, 3, none⟩ (.bool px3)).setCell ⟨w.heap.size + 1 + 1, 4, none⟩ (.slice ub4 pl4.length uc4)).setCell ⟨w.heap.size + 1 + 1, 5, none⟩ (.slice ub5 pl5.length uc5)).setCell ⟨w.heap.size + 1, 0, none⟩ (.bool px0)).setCell ⟨w.heap.size + 1, 1, none⟩ (.slice ub1 pl1.length uc1)).setCell ⟨w.heap.size + 1, 2, none⟩ (.slice ub2 pl2.length uc2)).setCell ⟨w.heap.size + 1, 3, none⟩ (.bool px3)).setCell ⟨w.heap.size + 1, 4, none⟩ (.slice ub4 pl4.length uc4)).setCell ⟨w.heap.size + 1, 5, none⟩ (.slice ub5 pl5.length uc5)) (w1.heap.size) w2.heap.size [.bool, .sl 3 [.int], .sl 3 [.int]] [.bool px3, .sl pl4, .sl pl5] [.bool px3, .slice ub4 pl4.length uc4, .slice ub5 pl5.length uc5] := by
      have o := O2.out
      simp only [World.size_setCell] at o
      exact (o.only (PF) (fun b hb => .inl (by omega))).mono (by omega) (Nat.le_refl _)
    exact (((Own.nil _ w.heap.size (w.heap.size + 3)).append own1 (by omega) (by omega)).append own2 (by omega) (by omega)).mono (Nat.le_refl _) (by omega)
  have FF := Lib.hid FIN
  clear FIN PF
  go_wp2
  obtain ⟨q0_, q1_, q2_, q3_, q4_, q5_⟩ := QQ.out
  exact bodyPost_ret (v := .agg #[.bool px0, .slice ub1 pl1.length uc1, .slice ub2 pl2.length uc2, .bool px3, .slice ub4 pl4.length uc4, .slice ub5 pl5.length uc5]) (by simp [results, Tryz.results34, go_sem, q0_, q1_, q2_, q3_, q4_, q5_]) rfl ⟨_, rfl, FF.out, BF⟩
end Go.Proofs.YtblmlkdefjoebaaGreat
