import Derived.Test.YtmedodfenejimaaGreatProg
import Derived.Test.YtmedodfenejimaaGreatLkTyA
import Derived.Outline
import Derived.Laws.MakeOwn
import Derived.RegionTactic
import Derived.BigRegion
import Derived.Deep.RegionHeld3
import Derived.Deep.DrawnRows
namespace Go.Proofs.YtmedodfenejimaaGreat
set_option maxRecDepth 100000
set_option linter.unusedVariables false
set_option linter.unusedSimpArgs false
open Go.RowKit
attribute [local go_sem ↓] Go.wp_at_zero Go.wp_at_succ
set_option maxHeartbeats 4000000 in
theorem O7 (ds : List Dat) (vs us : List Value) (w : World) (h : RdRow w [.bool, .sl 3 [.int]] ds vs) (h' : RdRow w [.bool, .sl 3 [.int]] ds us) :
    Calls Tryz.prog 106 #[.agg vs.toArray, .agg us.toArray] w fun e w' => e = .returned (.bool true) ∧ Below w.heap.size w w' := by
  obtain ⟨pd, pds, pv, pvs, rfl, rfl, ph, h_0⟩ := RdRow.cons_inv h
  obtain ⟨px0, rfl, rfl⟩ := Rd.bool_inv ph
  obtain ⟨pd, pds, pv, pvs, rfl, rfl, ph, h_1⟩ := RdRow.cons_inv h_0
  obtain ⟨pl1, pa1, pc1, rfl, rfl, pe1, pf1, pr1⟩ := Rd.sl_inv ph
  obtain ⟨rfl, rfl⟩ := RdRow.nil_inv h_1
  obtain ⟨qv, qvs, rfl, qh, h'_0⟩ := RdRow.cons2 h'
  obtain rfl := Rd.bool2 qh
  obtain ⟨qv, qvs, rfl, qh, h'_1⟩ := RdRow.cons2 h'_0
  obtain ⟨qa1, qc1, rfl, qe1, qf1, qr1⟩ := Rd.sl2 qh
  obtain ⟨-, rfl⟩ := RdRow.nil_inv h'_1
  have H1 := Lib.hid pr1
  have G1 := Lib.hid qr1
  clear pr1 qr1
  go_enter Tryz.func106, Tryz.ntmps106
  go_wp2_with fail
  refine (Kg pl1 _ _ _ (Rd.below (by (repeat (first | with_reducible exact Below.refl _ _ | with_reducible assumption | with_reducible refine Below.drew ?_ | with_reducible refine Below.setCell ?_ ?_ _ | with_reducible refine Below.alloc ?_ ?_ _)); all_goals first | (simp; done) | (simp; omega) | omega) _ _ _ H1.out) (Rd.below (by (repeat (first | with_reducible exact Below.refl _ _ | with_reducible assumption | with_reducible refine Below.drew ?_ | with_reducible refine Below.setCell ?_ ?_ _ | with_reducible refine Below.alloc ?_ ?_ _)); all_goals first | (simp; done) | (simp; omega) | omega) _ _ _ G1.out)).mono ?_
  rintro e w1 ⟨rfl, h1⟩
  have B1 : Below w.heap.size w w1 := Below.trans (by (repeat (first | with_reducible exact Below.refl _ _ | with_reducible assumption | with_reducible refine Below.drew ?_ | with_reducible refine Below.setCell ?_ ?_ _ | with_reducible refine Below.alloc ?_ ?_ _)); all_goals first | (simp; done) | (simp; omega) | omega) (h1.mono (by first | (simp; done) | (simp; omega) | omega))
  have S1 := h1.size
  have T1 := B1.size
  try simp at S1
  obtain ⟨k1, f1⟩ := Hk h1
  try simp at k1
  try simp at f1
  have Hc1 := Lib.hid h1
  clear h1
  have u1_0 : w.heap.size < w1.heap.size := by omega
  have u1_1 : w.heap.size + 1 < w1.heap.size := by omega
  go_wp2
  go_ret
  exact ⟨rfl, (by (repeat (first | with_reducible exact Below.refl _ _ | with_reducible assumption | with_reducible refine Below.drew ?_ | with_reducible refine Below.setCell ?_ ?_ _ | with_reducible refine Below.alloc ?_ ?_ _)); all_goals first | (simp; done) | (simp; omega) | omega)⟩
set_option maxHeartbeats 4000000 in
theorem O8 (ds : List Dat) (hsz : AC ds ≤ 1048576) (vs : List Value) (w : World) (h : RdRow w [.bool, .sl 3 [.int]] ds vs) :
    Calls Tryz.prog 102 #[.agg vs.toArray] w fun e w' => ∃ us : List Value, e = .returned (.agg us.toArray) ∧ Own w' w.heap.size w'.heap.size [.bool, .sl 3 [.int]] ds us ∧ Below w.heap.size w w' := by
  obtain ⟨pd, pds, pv, pvs, rfl, rfl, ph, h_0⟩ := RdRow.cons_inv h
  obtain ⟨px0, rfl, rfl⟩ := Rd.bool_inv ph
  obtain ⟨pd, pds, pv, pvs, rfl, rfl, ph, h_1⟩ := RdRow.cons_inv h_0
  obtain ⟨pl1, pa1, pc1, rfl, rfl, pe1, pf1, pr1⟩ := Rd.sl_inv ph
  obtain ⟨rfl, rfl⟩ := RdRow.nil_inv h_1
  have H1 := Lib.hid pr1
  clear pr1
  simp only [AC, Dat.sz] at hsz
  have HZ := Lib.hid hsz
  clear hsz
  go_enter Tryz.func102, Tryz.ntmps102
  go_wp2_with fail
  refine (Kh pl1 (by have hz := HZ.out; omega) _ _ (Rd.below (by (repeat (first | with_reducible exact Below.refl _ _ | with_reducible assumption | with_reducible refine Below.drew ?_ | with_reducible refine Below.setCell ?_ ?_ _ | with_reducible refine Below.alloc ?_ ?_ _)); all_goals first | (simp; done) | (simp; omega) | omega) _ _ _ H1.out)).mono ?_
  rintro e w1 ⟨u1, rfl, ho1, h1⟩
  have B1 : Below w.heap.size w w1 := Below.trans (by (repeat (first | with_reducible exact Below.refl _ _ | with_reducible assumption | with_reducible refine Below.drew ?_ | with_reducible refine Below.setCell ?_ ?_ _ | with_reducible refine Below.alloc ?_ ?_ _)); all_goals first | (simp; done) | (simp; omega) | omega) (h1.mono (by first | (simp; done) | (simp; omega) | omega))
  have S1 := h1.size
  have T1 := B1.size
  try simp at S1
  obtain ⟨k1, f1⟩ := Hk h1
  try simp at k1
  try simp at f1
  have Hc1 := Lib.hid h1
  clear h1
  have u1_0 : w.heap.size < w1.heap.size := by omega
  have u1_1 : w.heap.size + 1 < w1.heap.size := by omega
  have u1_2 : w.heap.size + 1 + 1 < w1.heap.size := by omega
  obtain ⟨ub1, uc1, rfl⟩ : ∃ a c, u1 = .slice a pl1.length c := by
    obtain ⟨q, q1, -, -⟩ := Own.one ho1
    obtain ⟨a, c, q2, -⟩ := Rd.sl2 (Fp.rd _ _ _ _ q1)
    exact ⟨a, c, q2⟩
  have P1 : OnlyIn (fun b => b < w.heap.size + 3) w w1 := OnlyIn.trans (by (repeat (first | with_reducible exact OnlyIn.refl _ _ | with_reducible refine OnlyIn.setCell ?_ ?_ _ | with_reducible refine OnlyIn.alloc ?_ _)); all_goals (show _ < _; first | (simp; done) | (simp; omega) | omega)) (OnlyIn.of_below Hc1.out)
  have O1 := Lib.hid ho1
  have PP1 := Lib.hid P1
  clear ho1 P1
  have r0_ : w1.cell? ⟨w.heap.size + 1 + 1, 0, none⟩ = some (.bool px0) := by go_simp
  have s0_ : w1.cell? ⟨w.heap.size + 1, 0, none⟩ = some (.bool false) := by go_simp
  have f0_ : w1.frozen? ⟨w.heap.size + 1, 0, none⟩ = false := by go_simp
  have r1_ : w1.cell? ⟨w.heap.size + 1 + 1, 1, none⟩ = some (.slice none 0 0) := by go_simp
  have s1_ : w1.cell? ⟨w.heap.size + 1, 1, none⟩ = some (.slice none 0 0) := by go_simp
  have f1_ : w1.frozen? ⟨w.heap.size + 1, 1, none⟩ = false := by go_simp
  have g1_ : w1.frozen? ⟨w.heap.size + 1 + 1, 1, none⟩ = false := by go_simp
  clear k1 f1
  have q0_ : (((w1.setCell ⟨w.heap.size + 1 + 1, 1, none⟩ (.slice ub1 pl1.length uc1)).setCell ⟨w.heap.size + 1, 0, none⟩ (.bool px0)).setCell ⟨w.heap.size + 1, 1, none⟩ (.slice ub1 pl1.length uc1)).cell? ⟨w.heap.size + 1, 0, none⟩ = some (.bool px0) := by go_simp
  have q1_ : (((w1.setCell ⟨w.heap.size + 1 + 1, 1, none⟩ (.slice ub1 pl1.length uc1)).setCell ⟨w.heap.size + 1, 0, none⟩ (.bool px0)).setCell ⟨w.heap.size + 1, 1, none⟩ (.slice ub1 pl1.length uc1)).cell? ⟨w.heap.size + 1, 1, none⟩ = some (.slice ub1 pl1.length uc1) := by go_simp
  have QQ := Lib.hid (And.intro q0_ (q1_))
  clear q0_ q1_
  have PF : OnlyIn (fun b => b < w.heap.size + 3) w1 (((w1.setCell ⟨w.heap.size + 1 + 1, 1, none⟩ (.slice ub1 pl1.length uc1)).setCell ⟨w.heap.size + 1, 0, none⟩ (.bool px0)).setCell ⟨w.heap.size + 1, 1, none⟩ (.slice ub1 pl1.length uc1)) := (by (repeat (first | with_reducible exact OnlyIn.refl _ _ | with_reducible refine OnlyIn.setCell ?_ ?_ _ | with_reducible refine OnlyIn.alloc ?_ _)); all_goals (show _ < _; first | (simp; done) | (simp; omega) | omega))
  have BF : Below w.heap.size w (((w1.setCell ⟨w.heap.size + 1 + 1, 1, none⟩ (.slice ub1 pl1.length uc1)).setCell ⟨w.heap.size + 1, 0, none⟩ (.bool px0)).setCell ⟨w.heap.size + 1, 1, none⟩ (.slice ub1 pl1.length uc1)) := (by (repeat (first | with_reducible exact Below.refl _ _ | with_reducible assumption | with_reducible refine Below.drew ?_ | with_reducible refine Below.setCell ?_ ?_ _ | with_reducible refine Below.alloc ?_ ?_ _)); all_goals first | (simp; done) | (simp; omega) | omega)
  have FIN : Own (((w1.setCell ⟨w.heap.size + 1 + 1, 1, none⟩ (.slice ub1 pl1.length uc1)).setCell ⟨w.heap.size + 1, 0, none⟩ (.bool px0)).setCell ⟨w.heap.size + 1, 1, none⟩ (.slice ub1 pl1.length uc1)) w.heap.size (((w1.setCell ⟨w.heap.size + 1 + 1, 1, none⟩ (.slice ub1 pl1.length uc1)).setCell ⟨w.heap.size + 1, 0, none⟩ (.bool px0)).setCell ⟨w.heap.size + 1, 1, none⟩ (.slice ub1 pl1.length uc1)).heap.size [.bool, .sl 3 [.int]] [.bool px0, .sl pl1] [.bool px0, .slice ub1 pl1.length uc1] := by
    have hsz_ : (((w1.setCell ⟨w.heap.size + 1 + 1, 1, none⟩ (.slice ub1 pl1.length uc1)).setCell ⟨w.heap.size + 1, 0, none⟩ (.bool px0)).setCell ⟨w.heap.size + 1, 1, none⟩ (.slice ub1 pl1.length uc1)).heap.size = w1.heap.size := by simp [World.setCell]
    rw [hsz_]
    have own1 : Own (((w1.setCell ⟨w.heap.size + 1 + 1, 1, none⟩ (.slice ub1 pl1.length uc1)).setCell ⟨w.heap.size + 1, 0, none⟩ (.bool px0)).setCell ⟨w.heap.size + 1, 1, none⟩ (.slice ub1 pl1.length uc1)) (w.heap.size + 3) w1.heap.size [.sl 3 [.int]] [.sl pl1] [.slice ub1 pl1.length uc1] := by
      have o := O1.out
      simp only [World.size_alloc] at o
      exact (o.only (PF) (fun b hb => .inl (by omega))).mono (by omega) (Nat.le_refl _)
    exact (((Own.nil _ w.heap.size (w.heap.size + 3)).append (Own.leaf (hi := w.heap.size + 3) (Fp.mk_bool _)) (by omega) (by omega)).append own1 (by omega) (by omega)).mono (Nat.le_refl _) (by omega)
  have FF := Lib.hid FIN
  clear FIN PF
  go_wp2
  obtain ⟨q0_, q1_⟩ := QQ.out
  exact bodyPost_ret (v := .agg #[.bool px0, .slice ub1 pl1.length uc1]) (by simp [results, Tryz.results102, go_sem, q0_, q1_]) rfl ⟨_, rfl, FF.out, BF⟩
set_option maxHeartbeats 4000000 in
theorem Uf (ds : List Dat) (vs us : List Value) (w : World) (h : RdRow w [.bool, .sl 3 [.int], .sl 3 [.int]] ds vs) (h' : RdRow w [.bool, .sl 3 [.int], .sl 3 [.int]] ds us) :
    Calls Tryz.prog 41 #[.agg vs.toArray, .agg us.toArray] w fun e w' => e = .returned (.bool true) ∧ Below w.heap.size w w' := by
  obtain ⟨pd, pds, pv, pvs, rfl, rfl, ph, h_0⟩ := RdRow.cons_inv h
  obtain ⟨px0, rfl, rfl⟩ := Rd.bool_inv ph
  obtain ⟨pd, pds, pv, pvs, rfl, rfl, ph, h_1⟩ := RdRow.cons_inv h_0
  obtain ⟨pl1, pa1, pc1, rfl, rfl, pe1, pf1, pr1⟩ := Rd.sl_inv ph
  obtain ⟨pd, pds, pv, pvs, rfl, rfl, ph, h_2⟩ := RdRow.cons_inv h_1
  obtain ⟨pl2, pa2, pc2, rfl, rfl, pe2, pf2, pr2⟩ := Rd.sl_inv ph
  obtain ⟨rfl, rfl⟩ := RdRow.nil_inv h_2
  obtain ⟨qv, qvs, rfl, qh, h'_0⟩ := RdRow.cons2 h'
  obtain rfl := Rd.bool2 qh
  obtain ⟨qv, qvs, rfl, qh, h'_1⟩ := RdRow.cons2 h'_0
  obtain ⟨qa1, qc1, rfl, qe1, qf1, qr1⟩ := Rd.sl2 qh
  obtain ⟨qv, qvs, rfl, qh, h'_2⟩ := RdRow.cons2 h'_1
  obtain ⟨qa2, qc2, rfl, qe2, qf2, qr2⟩ := Rd.sl2 qh
  obtain ⟨-, rfl⟩ := RdRow.nil_inv h'_2
  have H1 := Lib.hid pr1
  have G1 := Lib.hid qr1
  clear pr1 qr1
  have H2 := Lib.hid pr2
  have G2 := Lib.hid qr2
  clear pr2 qr2
  go_enter Tryz.func41, Tryz.ntmps41
  go_wp2_with fail
  refine (O7 [.bool px0, .sl pl1] [.bool px0, .slice pa1 pl1.length pc1] [.bool px0, .slice qa1 pl1.length qc1] _ (RdRow.below (by (repeat (first | with_reducible exact Below.refl _ _ | with_reducible assumption | with_reducible refine Below.drew ?_ | with_reducible refine Below.setCell ?_ ?_ _ | with_reducible refine Below.alloc ?_ ?_ _)); all_goals first | (simp; done) | (simp; omega) | omega) _ _ _ (RdRow.mk_cons (Rd.mk_bool px0) (RdRow.mk_cons H1.out RdRow.mk_nil))) (RdRow.below (by (repeat (first | with_reducible exact Below.refl _ _ | with_reducible assumption | with_reducible refine Below.drew ?_ | with_reducible refine Below.setCell ?_ ?_ _ | with_reducible refine Below.alloc ?_ ?_ _)); all_goals first | (simp; done) | (simp; omega) | omega) _ _ _ (RdRow.mk_cons (Rd.mk_bool px0) (RdRow.mk_cons G1.out RdRow.mk_nil)))).mono ?_
  rintro e w1 ⟨rfl, h1⟩
  have B1 : Below w.heap.size w w1 := Below.trans (by (repeat (first | with_reducible exact Below.refl _ _ | with_reducible assumption | with_reducible refine Below.drew ?_ | with_reducible refine Below.setCell ?_ ?_ _ | with_reducible refine Below.alloc ?_ ?_ _)); all_goals first | (simp; done) | (simp; omega) | omega) (h1.mono (by first | (simp; done) | (simp; omega) | omega))
  have S1 := h1.size
  have T1 := B1.size
  try simp at S1
  obtain ⟨k1, f1⟩ := Hk h1
  try simp at k1
  try simp at f1
  have Hc1 := Lib.hid h1
  clear h1
  have u1_0 : w.heap.size < w1.heap.size := by omega
  have u1_1 : w.heap.size + 1 < w1.heap.size := by omega
  go_wp2_with fail
  refine (Kg pl2 _ _ _ (Rd.below (by (repeat (first | with_reducible exact Below.refl _ _ | with_reducible assumption | with_reducible refine Below.drew ?_ | with_reducible refine Below.setCell ?_ ?_ _ | with_reducible refine Below.alloc ?_ ?_ _)); all_goals first | (simp; done) | (simp; omega) | omega) _ _ _ H2.out) (Rd.below (by (repeat (first | with_reducible exact Below.refl _ _ | with_reducible assumption | with_reducible refine Below.drew ?_ | with_reducible refine Below.setCell ?_ ?_ _ | with_reducible refine Below.alloc ?_ ?_ _)); all_goals first | (simp; done) | (simp; omega) | omega) _ _ _ G2.out)).mono ?_
  rintro e w2 ⟨rfl, h2⟩
  have B2 : Below w.heap.size w w2 := Below.trans (by (repeat (first | with_reducible exact Below.refl _ _ | with_reducible assumption | with_reducible refine Below.drew ?_ | with_reducible refine Below.setCell ?_ ?_ _ | with_reducible refine Below.alloc ?_ ?_ _)); all_goals first | (simp; done) | (simp; omega) | omega) (h2.mono (by first | (simp; done) | (simp; omega) | omega))
  have S2 := h2.size
  have T2 := B2.size
  try simp at S2
  obtain ⟨k2, f2⟩ := Hk h2
  try simp at k2
  try simp at f2
  have Hc2 := Lib.hid h2
  clear h2
  have u2_0 : w.heap.size < w2.heap.size := by omega
  have u2_1 : w.heap.size + 1 < w2.heap.size := by omega
  go_wp2
  go_ret
  exact ⟨rfl, (by (repeat (first | with_reducible exact Below.refl _ _ | with_reducible assumption | with_reducible refine Below.drew ?_ | with_reducible refine Below.setCell ?_ ?_ _ | with_reducible refine Below.alloc ?_ ?_ _)); all_goals first | (simp; done) | (simp; omega) | omega)⟩
set_option maxHeartbeats 4000000 in
theorem Ug (ds : List Dat) (hsz : AC ds ≤ 1048576) (vs : List Value) (w : World) (h : RdRow w [.bool, .sl 3 [.int], .sl 3 [.int]] ds vs) :
    Calls Tryz.prog 38 #[.agg vs.toArray] w fun e w' => ∃ us : List Value, e = .returned (.agg us.toArray) ∧ Own w' w.heap.size w'.heap.size [.bool, .sl 3 [.int], .sl 3 [.int]] ds us ∧ Below w.heap.size w w' := by
  obtain ⟨pd, pds, pv, pvs, rfl, rfl, ph, h_0⟩ := RdRow.cons_inv h
  obtain ⟨px0, rfl, rfl⟩ := Rd.bool_inv ph
  obtain ⟨pd, pds, pv, pvs, rfl, rfl, ph, h_1⟩ := RdRow.cons_inv h_0
  obtain ⟨pl1, pa1, pc1, rfl, rfl, pe1, pf1, pr1⟩ := Rd.sl_inv ph
  obtain ⟨pd, pds, pv, pvs, rfl, rfl, ph, h_2⟩ := RdRow.cons_inv h_1
  obtain ⟨pl2, pa2, pc2, rfl, rfl, pe2, pf2, pr2⟩ := Rd.sl_inv ph
  obtain ⟨rfl, rfl⟩ := RdRow.nil_inv h_2
  have H1 := Lib.hid pr1
  clear pr1
  have H2 := Lib.hid pr2
  clear pr2
  simp only [AC, Dat.sz] at hsz
  have HZ := Lib.hid hsz
  clear hsz
  go_enter Tryz.func38, Tryz.ntmps38
  go_wp2_with fail
  refine (O8 [.bool px0, .sl pl1] (by have hz := HZ.out; simp only [AC, Dat.sz]; omega) [.bool px0, .slice pa1 pl1.length pc1] _ (RdRow.below (by (repeat (first | with_reducible exact Below.refl _ _ | with_reducible assumption | with_reducible refine Below.drew ?_ | with_reducible refine Below.setCell ?_ ?_ _ | with_reducible refine Below.alloc ?_ ?_ _)); all_goals first | (simp; done) | (simp; omega) | omega) _ _ _ (RdRow.mk_cons (Rd.mk_bool px0) (RdRow.mk_cons H1.out RdRow.mk_nil)))).mono ?_
  rintro e w1 ⟨u1, rfl, ho1, h1⟩
  have B1 : Below w.heap.size w w1 := Below.trans (by (repeat (first | with_reducible exact Below.refl _ _ | with_reducible assumption | with_reducible refine Below.drew ?_ | with_reducible refine Below.setCell ?_ ?_ _ | with_reducible refine Below.alloc ?_ ?_ _)); all_goals first | (simp; done) | (simp; omega) | omega) (h1.mono (by first | (simp; done) | (simp; omega) | omega))
  have S1 := h1.size
  have T1 := B1.size
  try simp at S1
  obtain ⟨k1, f1⟩ := Hk h1
  try simp at k1
  try simp at f1
  have Hc1 := Lib.hid h1
  clear h1
  have u1_0 : w.heap.size < w1.heap.size := by omega
  have u1_1 : w.heap.size + 1 < w1.heap.size := by omega
  have u1_2 : w.heap.size + 1 + 1 < w1.heap.size := by omega
  obtain ⟨ub1, uc1, rfl⟩ : ∃ ub1 uc1, u1 = [.bool px0, .slice ub1 pl1.length uc1] := by
    have q := ho1.rd
    obtain ⟨v0, q0, rfl, e0, q_0⟩ := RdRow.cons2 q
    obtain rfl := Rd.bool2 e0
    obtain ⟨v1, q1, rfl, e1, q_1⟩ := RdRow.cons2 q_0
    obtain ⟨a1, c1, rfl, -⟩ := Rd.sl2 e1
    obtain ⟨-, rfl⟩ := RdRow.nil_inv q_1
    exact ⟨a1, c1, rfl⟩
  have P1 : OnlyIn (fun b => b < w.heap.size + 3) w w1 := OnlyIn.trans (by (repeat (first | with_reducible exact OnlyIn.refl _ _ | with_reducible refine OnlyIn.setCell ?_ ?_ _ | with_reducible refine OnlyIn.alloc ?_ _)); all_goals (show _ < _; first | (simp; done) | (simp; omega) | omega)) (OnlyIn.of_below Hc1.out)
  have O1 := Lib.hid ho1
  have PP1 := Lib.hid P1
  clear ho1 P1
  go_wp2_with fail
  refine (Kh pl2 (by have hz := HZ.out; omega) _ _ (Rd.below (by (repeat (first | with_reducible exact Below.refl _ _ | with_reducible assumption | with_reducible refine Below.drew ?_ | with_reducible refine Below.setCell ?_ ?_ _ | with_reducible refine Below.alloc ?_ ?_ _)); all_goals first | (simp; done) | (simp; omega) | omega) _ _ _ H2.out)).mono ?_
  rintro e w2 ⟨u2, rfl, ho2, h2⟩
  have B2 : Below w.heap.size w w2 := Below.trans (by (repeat (first | with_reducible exact Below.refl _ _ | with_reducible assumption | with_reducible refine Below.drew ?_ | with_reducible refine Below.setCell ?_ ?_ _ | with_reducible refine Below.alloc ?_ ?_ _)); all_goals first | (simp; done) | (simp; omega) | omega) (h2.mono (by first | (simp; done) | (simp; omega) | omega))
  have S2 := h2.size
  have T2 := B2.size
  try simp at S2
  obtain ⟨k2, f2⟩ := Hk h2
  try simp at k2
  try simp at f2
  have Hc2 := Lib.hid h2
  clear h2
  have u2_0 : w.heap.size < w2.heap.size := by omega
  have u2_1 : w.heap.size + 1 < w2.heap.size := by omega
  have u2_2 : w.heap.size + 1 + 1 < w2.heap.size := by omega
  obtain ⟨ub2, uc2, rfl⟩ : ∃ a c, u2 = .slice a pl2.length c := by
    obtain ⟨q, q1, -, -⟩ := Own.one ho2
    obtain ⟨a, c, q2, -⟩ := Rd.sl2 (Fp.rd _ _ _ _ q1)
    exact ⟨a, c, q2⟩
  have P2 : OnlyIn (fun b => b < w.heap.size + 3) w1 w2 := OnlyIn.trans (by (repeat (first | with_reducible exact OnlyIn.refl _ _ | with_reducible refine OnlyIn.setCell ?_ ?_ _ | with_reducible refine OnlyIn.alloc ?_ _)); all_goals (show _ < _; first | (simp; done) | (simp; omega) | omega)) (OnlyIn.of_below Hc2.out)
  have O2 := Lib.hid ho2
  have PP2 := Lib.hid P2
  clear ho2 P2
  have r0_ : w2.cell? ⟨w.heap.size + 1 + 1, 0, none⟩ = some (.bool px0) := by go_simp
  have s0_ : w2.cell? ⟨w.heap.size + 1, 0, none⟩ = some (.bool false) := by go_simp
  have f0_ : w2.frozen? ⟨w.heap.size + 1, 0, none⟩ = false := by go_simp
  have r1_ : w2.cell? ⟨w.heap.size + 1 + 1, 1, none⟩ = some (.slice ub1 pl1.length uc1) := by go_simp
  have s1_ : w2.cell? ⟨w.heap.size + 1, 1, none⟩ = some (.slice none 0 0) := by go_simp
  have f1_ : w2.frozen? ⟨w.heap.size + 1, 1, none⟩ = false := by go_simp
  have r2_ : w2.cell? ⟨w.heap.size + 1 + 1, 2, none⟩ = some (.slice none 0 0) := by go_simp
  have s2_ : w2.cell? ⟨w.heap.size + 1, 2, none⟩ = some (.slice none 0 0) := by go_simp
  have f2_ : w2.frozen? ⟨w.heap.size + 1, 2, none⟩ = false := by go_simp
  have g2_ : w2.frozen? ⟨w.heap.size + 1 + 1, 2, none⟩ = false := by go_simp
  clear k1 f1 k2 f2
  have q0_ : ((((w2.setCell ⟨w.heap.size + 1 + 1, 2, none⟩ (.slice ub2 pl2.length uc2)).setCell ⟨w.heap.size + 1, 0, none⟩ (.bool px0)).setCell ⟨w.heap.size + 1, 1, none⟩ (.slice ub1 pl1.length uc1)).setCell ⟨w.heap.size + 1, 2, none⟩ (.slice ub2 pl2.length uc2)).cell? ⟨w.heap.size + 1, 0, none⟩ = some (.bool px0) := by go_simp
  have q1_ : ((((w2.setCell ⟨w.heap.size + 1 + 1, 2, none⟩ (.slice ub2 pl2.length uc2)).setCell ⟨w.heap.size + 1, 0, none⟩ (.bool px0)).setCell ⟨w.heap.size + 1, 1, none⟩ (.slice ub1 pl1.length uc1)).setCell ⟨w.heap.size + 1, 2, none⟩ (.slice ub2 pl2.length uc2)).cell? ⟨w.heap.size + 1, 1, none⟩ = some (.slice ub1 pl1.length uc1) := by go_simp
  have q2_ : ((((w2.setCell ⟨w.heap.size + 1 + 1, 2, none⟩ (.slice ub2 pl2.length uc2)).setCell ⟨w.heap.size + 1, 0, none⟩ (.bool px0)).setCell ⟨w.heap.size + 1, 1, none⟩ (.slice ub1 pl1.length uc1)).setCell ⟨w.heap.size + 1, 2, none⟩ (.slice ub2 pl2.length uc2)).cell? ⟨w.heap.size + 1, 2, none⟩ = some (.slice ub2 pl2.length uc2) := by go_simp
  have QQ := Lib.hid (And.intro q0_ (And.intro q1_ (q2_)))
  clear q0_ q1_ q2_
  have PF : OnlyIn (fun b => b < w.heap.size + 3) w2 ((((w2.setCell ⟨w.heap.size + 1 + 1, 2, none⟩ (.slice ub2 pl2.length uc2)).setCell ⟨w.heap.size + 1, 0, none⟩ (.bool px0)).setCell ⟨w.heap.size + 1, 1, none⟩ (.slice ub1 pl1.length uc1)).setCell ⟨w.heap.size + 1, 2, none⟩ (.slice ub2 pl2.length uc2)) := (by (repeat (first | with_reducible exact OnlyIn.refl _ _ | with_reducible refine OnlyIn.setCell ?_ ?_ _ | with_reducible refine OnlyIn.alloc ?_ _)); all_goals (show _ < _; first | (simp; done) | (simp; omega) | omega))
  have BF : Below w.heap.size w ((((w2.setCell ⟨w.heap.size + 1 + 1, 2, none⟩ (.slice ub2 pl2.length uc2)).setCell ⟨w.heap.size + 1, 0, none⟩ (.bool px0)).setCell ⟨w.heap.size + 1, 1, none⟩ (.slice ub1 pl1.length uc1)).setCell ⟨w.heap.size + 1, 2, none⟩ (.slice ub2 pl2.length uc2)) := (by (repeat (first | with_reducible exact Below.refl _ _ | with_reducible assumption | with_reducible refine Below.drew ?_ | with_reducible refine Below.setCell ?_ ?_ _ | with_reducible refine Below.alloc ?_ ?_ _)); all_goals first | (simp; done) | (simp; omega) | omega)
  have FIN : Own ((((w2.setCell ⟨w.heap.size + 1 + 1, 2, none⟩ (.slice ub2 pl2.length uc2)).setCell ⟨w.heap.size + 1, 0, none⟩ (.bool px0)).setCell ⟨w.heap.size + 1, 1, none⟩ (.slice ub1 pl1.length uc1)).setCell ⟨w.heap.size + 1, 2, none⟩ (.slice ub2 pl2.length uc2)) w.heap.size ((((w2.setCell ⟨w.heap.size + 1 + 1, 2, none⟩ (.slice ub2 pl2.length uc2)).setCell ⟨w.heap.size + 1, 0, none⟩ (.bool px0)).setCell ⟨w.heap.size + 1, 1, none⟩ (.slice ub1 pl1.length uc1)).setCell ⟨w.heap.size + 1, 2, none⟩ (.slice ub2 pl2.length uc2)).heap.size [.bool, .sl 3 [.int], .sl 3 [.int]] [.bool px0, .sl pl1, .sl pl2] [.bool px0, .slice ub1 pl1.length uc1, .slice ub2 pl2.length uc2] := by
    have hsz_ : ((((w2.setCell ⟨w.heap.size + 1 + 1, 2, none⟩ (.slice ub2 pl2.length uc2)).setCell ⟨w.heap.size + 1, 0, none⟩ (.bool px0)).setCell ⟨w.heap.size + 1, 1, none⟩ (.slice ub1 pl1.length uc1)).setCell ⟨w.heap.size + 1, 2, none⟩ (.slice ub2 pl2.length uc2)).heap.size = w2.heap.size := by simp [World.setCell]
    rw [hsz_]
    have own1 : Own ((((w2.setCell ⟨w.heap.size + 1 + 1, 2, none⟩ (.slice ub2 pl2.length uc2)).setCell ⟨w.heap.size + 1, 0, none⟩ (.bool px0)).setCell ⟨w.heap.size + 1, 1, none⟩ (.slice ub1 pl1.length uc1)).setCell ⟨w.heap.size + 1, 2, none⟩ (.slice ub2 pl2.length uc2)) (w.heap.size + 3) w1.heap.size [.bool, .sl 3 [.int]] [.bool px0, .sl pl1] [.bool px0, .slice ub1 pl1.length uc1] := by
      have o := O1.out
      simp only [World.size_alloc] at o
      exact (o.only (PP2.out.trans (PF)) (fun b hb => .inl (by omega))).mono (by omega) (Nat.le_refl _)
    have own2 : Own ((((w2.setCell ⟨w.heap.size + 1 + 1, 2, none⟩ (.slice ub2 pl2.length uc2)).setCell ⟨w.heap.size + 1, 0, none⟩ (.bool px0)).setCell ⟨w.heap.size + 1, 1, none⟩ (.slice ub1 pl1.length uc1)).setCell ⟨w.heap.size + 1, 2, none⟩ (.slice ub2 pl2.length uc2)) (w1.heap.size) w2.heap.size [.sl 3 [.int]] [.sl pl2] [.slice ub2 pl2.length uc2] := by
      have o := O2.out
      simp only [World.size_setCell] at o
      exact (o.only (PF) (fun b hb => .inl (by omega))).mono (by omega) (Nat.le_refl _)
    exact (((Own.nil _ w.heap.size (w.heap.size + 3)).append own1 (by omega) (by omega)).append own2 (by omega) (by omega)).mono (Nat.le_refl _) (by omega)
  have FF := Lib.hid FIN
  clear FIN PF
  go_wp2
  obtain ⟨q0_, q1_, q2_⟩ := QQ.out
  exact bodyPost_ret (v := .agg #[.bool px0, .slice ub1 pl1.length uc1, .slice ub2 pl2.length uc2]) (by simp [results, Tryz.results38, go_sem, q0_, q1_, q2_]) rfl ⟨_, rfl, FF.out, BF⟩
end Go.Proofs.YtmedodfenejimaaGreat
