import Derived.Test.YtgggkcoljpimcaaDoorProg
import Derived.Test.YtgggkcoljpimcaaDoorCkTyH
import Derived.Outline
import Derived.Laws.MakeOwn
import Derived.RegionTactic
import Derived.BigRegion
import Derived.Deep.RegionHeld3
import Derived.Deep.DrawnRows
namespace Go.Proofs.YtgggkcoljpimcaaDoor
set_option maxRecDepth 100000
set_option linter.unusedVariables false
set_option linter.unusedSimpArgs false
open Go.RowKit
attribute [local go_sem ↓] Go.wp_at_zero Go.wp_at_succ
set_option maxHeartbeats 4000000 in
theorem K4 (ds : List Dat) (vs us : List Value) (w : World) (h : RdRow w [.int, .int, .int, .int, .sl 36 [.int, .int], .sl 25 [.sl 36 [.int, .int]], .sl 36 [.int, .int]] ds vs) (h' : RdRow w [.int, .int, .int, .int, .sl 36 [.int, .int], .sl 25 [.sl 36 [.int, .int]], .sl 36 [.int, .int]] ds us) :
    Calls Tryd.prog 15 #[.agg vs.toArray, .agg us.toArray] w fun e w' => e = .returned (.bool true) ∧ Below w.heap.size w w' := by
  obtain ⟨pd, pds, pv, pvs, rfl, rfl, ph, h_0⟩ := RdRow.cons_inv h
  obtain ⟨px0, rfl, rfl⟩ := Rd.int_inv ph
  obtain ⟨pd, pds, pv, pvs, rfl, rfl, ph, h_1⟩ := RdRow.cons_inv h_0
  obtain ⟨px1, rfl, rfl⟩ := Rd.int_inv ph
  obtain ⟨pd, pds, pv, pvs, rfl, rfl, ph, h_2⟩ := RdRow.cons_inv h_1
  obtain ⟨px2, rfl, rfl⟩ := Rd.int_inv ph
  obtain ⟨pd, pds, pv, pvs, rfl, rfl, ph, h_3⟩ := RdRow.cons_inv h_2
  obtain ⟨px3, rfl, rfl⟩ := Rd.int_inv ph
  obtain ⟨pd, pds, pv, pvs, rfl, rfl, ph, h_4⟩ := RdRow.cons_inv h_3
  obtain ⟨pl4, pa4, pc4, rfl, rfl, pe4, pf4, pr4⟩ := Rd.sl_inv ph
  obtain ⟨pd, pds, pv, pvs, rfl, rfl, ph, h_5⟩ := RdRow.cons_inv h_4
  obtain ⟨pl5, pa5, pc5, rfl, rfl, pe5, pf5, pr5⟩ := Rd.sl_inv ph
  obtain ⟨pd, pds, pv, pvs, rfl, rfl, ph, h_6⟩ := RdRow.cons_inv h_5
  obtain ⟨pl6, pa6, pc6, rfl, rfl, pe6, pf6, pr6⟩ := Rd.sl_inv ph
  obtain ⟨rfl, rfl⟩ := RdRow.nil_inv h_6
  obtain ⟨qv, qvs, rfl, qh, h'_0⟩ := RdRow.cons2 h'
  obtain rfl := Rd.int2 qh
  obtain ⟨qv, qvs, rfl, qh, h'_1⟩ := RdRow.cons2 h'_0
  obtain rfl := Rd.int2 qh
  obtain ⟨qv, qvs, rfl, qh, h'_2⟩ := RdRow.cons2 h'_1
  obtain rfl := Rd.int2 qh
  obtain ⟨qv, qvs, rfl, qh, h'_3⟩ := RdRow.cons2 h'_2
  obtain rfl := Rd.int2 qh
  obtain ⟨qv, qvs, rfl, qh, h'_4⟩ := RdRow.cons2 h'_3
  obtain ⟨qa4, qc4, rfl, qe4, qf4, qr4⟩ := Rd.sl2 qh
  obtain ⟨qv, qvs, rfl, qh, h'_5⟩ := RdRow.cons2 h'_4
  obtain ⟨qa5, qc5, rfl, qe5, qf5, qr5⟩ := Rd.sl2 qh
  obtain ⟨qv, qvs, rfl, qh, h'_6⟩ := RdRow.cons2 h'_5
  obtain ⟨qa6, qc6, rfl, qe6, qf6, qr6⟩ := Rd.sl2 qh
  obtain ⟨-, rfl⟩ := RdRow.nil_inv h'_6
  have H4 := Lib.hid pr4
  have G4 := Lib.hid qr4
  clear pr4 qr4
  have H5 := Lib.hid pr5
  have G5 := Lib.hid qr5
  clear pr5 qr5
  have H6 := Lib.hid pr6
  have G6 := Lib.hid qr6
  clear pr6 qr6
  go_enter Tryd.func15, Tryd.ntmps15
  go_wp2_with fail
  refine (H8 [.int px0, .int px1] [.int .i64 px0, .int .i64 px1] [.int .i64 px0, .int .i64 px1] _ (RdRow.below (by (repeat (first | with_reducible exact Below.refl _ _ | with_reducible assumption | with_reducible refine Below.drew ?_ | with_reducible refine Below.setCell ?_ ?_ _ | with_reducible refine Below.alloc ?_ ?_ _)); all_goals first | (simp; done) | (simp; omega) | omega) _ _ _ (RdRow.mk_cons (Rd.mk_int px0) (RdRow.mk_cons (Rd.mk_int px1) RdRow.mk_nil))) (RdRow.below (by (repeat (first | with_reducible exact Below.refl _ _ | with_reducible assumption | with_reducible refine Below.drew ?_ | with_reducible refine Below.setCell ?_ ?_ _ | with_reducible refine Below.alloc ?_ ?_ _)); all_goals first | (simp; done) | (simp; omega) | omega) _ _ _ (RdRow.mk_cons (Rd.mk_int px0) (RdRow.mk_cons (Rd.mk_int px1) RdRow.mk_nil)))).mono ?_
  rintro e w1 ⟨rfl, h1⟩
  have B1 : Below w.heap.size w w1 := Below.trans (by (repeat (first | with_reducible exact Below.refl _ _ | with_reducible assumption | with_reducible refine Below.drew ?_ | with_reducible refine Below.setCell ?_ ?_ _ | with_reducible refine Below.alloc ?_ ?_ _)); all_goals first | (simp; done) | (simp; omega) | omega) (h1.mono (by first | (simp; done) | (simp; omega) | omega))
  have S1 := h1.size
  have T1 := B1.size
  try simp at S1
  obtain ⟨k1, f1⟩ := Ab h1
  try simp at k1
  try simp at f1
  have Hc1 := Lib.hid h1
  clear h1
  have u1_0 : w.heap.size < w1.heap.size := by omega
  have u1_1 : w.heap.size + 1 < w1.heap.size := by omega
  go_wp2_with fail
  refine (H8 [.int px2, .int px3] [.int .i64 px2, .int .i64 px3] [.int .i64 px2, .int .i64 px3] _ (RdRow.below (by (repeat (first | with_reducible exact Below.refl _ _ | with_reducible assumption | with_reducible refine Below.drew ?_ | with_reducible refine Below.setCell ?_ ?_ _ | with_reducible refine Below.alloc ?_ ?_ _)); all_goals first | (simp; done) | (simp; omega) | omega) _ _ _ (RdRow.mk_cons (Rd.mk_int px2) (RdRow.mk_cons (Rd.mk_int px3) RdRow.mk_nil))) (RdRow.below (by (repeat (first | with_reducible exact Below.refl _ _ | with_reducible assumption | with_reducible refine Below.drew ?_ | with_reducible refine Below.setCell ?_ ?_ _ | with_reducible refine Below.alloc ?_ ?_ _)); all_goals first | (simp; done) | (simp; omega) | omega) _ _ _ (RdRow.mk_cons (Rd.mk_int px2) (RdRow.mk_cons (Rd.mk_int px3) RdRow.mk_nil)))).mono ?_
  rintro e w2 ⟨rfl, h2⟩
  have B2 : Below w.heap.size w w2 := Below.trans (by (repeat (first | with_reducible exact Below.refl _ _ | with_reducible assumption | with_reducible refine Below.drew ?_ | with_reducible refine Below.setCell ?_ ?_ _ | with_reducible refine Below.alloc ?_ ?_ _)); all_goals first | (simp; done) | (simp; omega) | omega) (h2.mono (by first | (simp; done) | (simp; omega) | omega))
  have S2 := h2.size
  have T2 := B2.size
  try simp at S2
  obtain ⟨k2, f2⟩ := Ab h2
  try simp at k2
  try simp at f2
  have Hc2 := Lib.hid h2
  clear h2
  have u2_0 : w.heap.size < w2.heap.size := by omega
  have u2_1 : w.heap.size + 1 < w2.heap.size := by omega
  go_wp2_with fail
  refine (GR pl4 _ _ _ (Rd.below (by (repeat (first | with_reducible exact Below.refl _ _ | with_reducible assumption | with_reducible refine Below.drew ?_ | with_reducible refine Below.setCell ?_ ?_ _ | with_reducible refine Below.alloc ?_ ?_ _)); all_goals first | (simp; done) | (simp; omega) | omega) _ _ _ H4.out) (Rd.below (by (repeat (first | with_reducible exact Below.refl _ _ | with_reducible assumption | with_reducible refine Below.drew ?_ | with_reducible refine Below.setCell ?_ ?_ _ | with_reducible refine Below.alloc ?_ ?_ _)); all_goals first | (simp; done) | (simp; omega) | omega) _ _ _ G4.out)).mono ?_
  rintro e w3 ⟨rfl, h3⟩
  have B3 : Below w.heap.size w w3 := Below.trans (by (repeat (first | with_reducible exact Below.refl _ _ | with_reducible assumption | with_reducible refine Below.drew ?_ | with_reducible refine Below.setCell ?_ ?_ _ | with_reducible refine Below.alloc ?_ ?_ _)); all_goals first | (simp; done) | (simp; omega) | omega) (h3.mono (by first | (simp; done) | (simp; omega) | omega))
  have S3 := h3.size
  have T3 := B3.size
  try simp at S3
  obtain ⟨k3, f3⟩ := Ab h3
  try simp at k3
  try simp at f3
  have Hc3 := Lib.hid h3
  clear h3
  have u3_0 : w.heap.size < w3.heap.size := by omega
  have u3_1 : w.heap.size + 1 < w3.heap.size := by omega
  go_wp2_with fail
  refine (K1 pl5 _ _ _ (Rd.below (by (repeat (first | with_reducible exact Below.refl _ _ | with_reducible assumption | with_reducible refine Below.drew ?_ | with_reducible refine Below.setCell ?_ ?_ _ | with_reducible refine Below.alloc ?_ ?_ _)); all_goals first | (simp; done) | (simp; omega) | omega) _ _ _ H5.out) (Rd.below (by (repeat (first | with_reducible exact Below.refl _ _ | with_reducible assumption | with_reducible refine Below.drew ?_ | with_reducible refine Below.setCell ?_ ?_ _ | with_reducible refine Below.alloc ?_ ?_ _)); all_goals first | (simp; done) | (simp; omega) | omega) _ _ _ G5.out)).mono ?_
  rintro e w4 ⟨rfl, h4⟩
  have B4 : Below w.heap.size w w4 := Below.trans (by (repeat (first | with_reducible exact Below.refl _ _ | with_reducible assumption | with_reducible refine Below.drew ?_ | with_reducible refine Below.setCell ?_ ?_ _ | with_reducible refine Below.alloc ?_ ?_ _)); all_goals first | (simp; done) | (simp; omega) | omega) (h4.mono (by first | (simp; done) | (simp; omega) | omega))
  have S4 := h4.size
  have T4 := B4.size
  try simp at S4
  obtain ⟨k4, f4⟩ := Ab h4
  try simp at k4
  try simp at f4
  have Hc4 := Lib.hid h4
  clear h4
  have u4_0 : w.heap.size < w4.heap.size := by omega
  have u4_1 : w.heap.size + 1 < w4.heap.size := by omega
  go_wp2_with fail
  refine (GR pl6 _ _ _ (Rd.below (by (repeat (first | with_reducible exact Below.refl _ _ | with_reducible assumption | with_reducible refine Below.drew ?_ | with_reducible refine Below.setCell ?_ ?_ _ | with_reducible refine Below.alloc ?_ ?_ _)); all_goals first | (simp; done) | (simp; omega) | omega) _ _ _ H6.out) (Rd.below (by (repeat (first | with_reducible exact Below.refl _ _ | with_reducible assumption | with_reducible refine Below.drew ?_ | with_reducible refine Below.setCell ?_ ?_ _ | with_reducible refine Below.alloc ?_ ?_ _)); all_goals first | (simp; done) | (simp; omega) | omega) _ _ _ G6.out)).mono ?_
  rintro e w5 ⟨rfl, h5⟩
  have B5 : Below w.heap.size w w5 := Below.trans (by (repeat (first | with_reducible exact Below.refl _ _ | with_reducible assumption | with_reducible refine Below.drew ?_ | with_reducible refine Below.setCell ?_ ?_ _ | with_reducible refine Below.alloc ?_ ?_ _)); all_goals first | (simp; done) | (simp; omega) | omega) (h5.mono (by first | (simp; done) | (simp; omega) | omega))
  have S5 := h5.size
  have T5 := B5.size
  try simp at S5
  obtain ⟨k5, f5⟩ := Ab h5
  try simp at k5
  try simp at f5
  have Hc5 := Lib.hid h5
  clear h5
  have u5_0 : w.heap.size < w5.heap.size := by omega
  have u5_1 : w.heap.size + 1 < w5.heap.size := by omega
  go_wp2
  go_ret
  exact ⟨rfl, (by (repeat (first | with_reducible exact Below.refl _ _ | with_reducible assumption | with_reducible refine Below.drew ?_ | with_reducible refine Below.setCell ?_ ?_ _ | with_reducible refine Below.alloc ?_ ?_ _)); all_goals first | (simp; done) | (simp; omega) | omega)⟩
set_option maxHeartbeats 4000000 in
theorem K6 (ds : List Dat) (hsz : AO ds ≤ 1048576) (vs : List Value) (w : World) (h : RdRow w [.int, .int, .int, .int, .sl 36 [.int, .int], .sl 25 [.sl 36 [.int, .int]], .sl 36 [.int, .int]] ds vs) :
    Calls Tryd.prog 13 #[.agg vs.toArray] w fun e w' => ∃ us : List Value, e = .returned (.agg us.toArray) ∧ Own w' w.heap.size w'.heap.size [.int, .int, .int, .int, .sl 36 [.int, .int], .sl 25 [.sl 36 [.int, .int]], .sl 36 [.int, .int]] ds us ∧ Below w.heap.size w w' := by
  obtain ⟨pd, pds, pv, pvs, rfl, rfl, ph, h_0⟩ := RdRow.cons_inv h
  obtain ⟨px0, rfl, rfl⟩ := Rd.int_inv ph
  obtain ⟨pd, pds, pv, pvs, rfl, rfl, ph, h_1⟩ := RdRow.cons_inv h_0
  obtain ⟨px1, rfl, rfl⟩ := Rd.int_inv ph
  obtain ⟨pd, pds, pv, pvs, rfl, rfl, ph, h_2⟩ := RdRow.cons_inv h_1
  obtain ⟨px2, rfl, rfl⟩ := Rd.int_inv ph
  obtain ⟨pd, pds, pv, pvs, rfl, rfl, ph, h_3⟩ := RdRow.cons_inv h_2
  obtain ⟨px3, rfl, rfl⟩ := Rd.int_inv ph
  obtain ⟨pd, pds, pv, pvs, rfl, rfl, ph, h_4⟩ := RdRow.cons_inv h_3
  obtain ⟨pl4, pa4, pc4, rfl, rfl, pe4, pf4, pr4⟩ := Rd.sl_inv ph
  obtain ⟨pd, pds, pv, pvs, rfl, rfl, ph, h_5⟩ := RdRow.cons_inv h_4
  obtain ⟨pl5, pa5, pc5, rfl, rfl, pe5, pf5, pr5⟩ := Rd.sl_inv ph
  obtain ⟨pd, pds, pv, pvs, rfl, rfl, ph, h_6⟩ := RdRow.cons_inv h_5
  obtain ⟨pl6, pa6, pc6, rfl, rfl, pe6, pf6, pr6⟩ := Rd.sl_inv ph
  obtain ⟨rfl, rfl⟩ := RdRow.nil_inv h_6
  have H4 := Lib.hid pr4
  clear pr4
  have H5 := Lib.hid pr5
  clear pr5
  have H6 := Lib.hid pr6
  clear pr6
  simp only [AO, Dat.sz] at hsz
  have HZ := Lib.hid hsz
  clear hsz
  go_enter Tryd.func13, Tryd.ntmps13
  go_wp2_with fail
  refine (IA [.int px0, .int px1] (by simp [AO, Dat.sz]) [.int .i64 px0, .int .i64 px1] _ (RdRow.below (by (repeat (first | with_reducible exact Below.refl _ _ | with_reducible assumption | with_reducible refine Below.drew ?_ | with_reducible refine Below.setCell ?_ ?_ _ | with_reducible refine Below.alloc ?_ ?_ _)); all_goals first | (simp; done) | (simp; omega) | omega) _ _ _ (RdRow.mk_cons (Rd.mk_int px0) (RdRow.mk_cons (Rd.mk_int px1) RdRow.mk_nil)))).mono ?_
  rintro e w1 ⟨u1, rfl, ho1, h1⟩
  have B1 : Below w.heap.size w w1 := Below.trans (by (repeat (first | with_reducible exact Below.refl _ _ | with_reducible assumption | with_reducible refine Below.drew ?_ | with_reducible refine Below.setCell ?_ ?_ _ | with_reducible refine Below.alloc ?_ ?_ _)); all_goals first | (simp; done) | (simp; omega) | omega) (h1.mono (by first | (simp; done) | (simp; omega) | omega))
  have S1 := h1.size
  have T1 := B1.size
  try simp at S1
  obtain ⟨k1, f1⟩ := Ab h1
  try simp at k1
  try simp at f1
  have Hc1 := Lib.hid h1
  clear h1
  have u1_0 : w.heap.size < w1.heap.size := by omega
  have u1_1 : w.heap.size + 1 < w1.heap.size := by omega
  have u1_2 : w.heap.size + 1 + 1 < w1.heap.size := by omega
  obtain rfl : u1 = [.int .i64 px0, .int .i64 px1] := by
    have q := ho1.rd
    obtain ⟨v0, q0, rfl, e0, q_0⟩ := RdRow.cons2 q
    obtain rfl := Rd.int2 e0
    obtain ⟨v1, q1, rfl, e1, q_1⟩ := RdRow.cons2 q_0
    obtain rfl := Rd.int2 e1
    obtain ⟨-, rfl⟩ := RdRow.nil_inv q_1
    rfl
  have P1 : OnlyIn (fun b => b < w.heap.size + 3) w w1 := OnlyIn.trans (by (repeat (first | with_reducible exact OnlyIn.refl _ _ | with_reducible refine OnlyIn.setCell ?_ ?_ _ | with_reducible refine OnlyIn.alloc ?_ _)); all_goals (show _ < _; first | (simp; done) | (simp; omega) | omega)) (OnlyIn.of_below Hc1.out)
  have O1 := Lib.hid ho1
  have PP1 := Lib.hid P1
  clear ho1 P1
  go_wp2_with fail
  refine (IA [.int px2, .int px3] (by simp [AO, Dat.sz]) [.int .i64 px2, .int .i64 px3] _ (RdRow.below (by (repeat (first | with_reducible exact Below.refl _ _ | with_reducible assumption | with_reducible refine Below.drew ?_ | with_reducible refine Below.setCell ?_ ?_ _ | with_reducible refine Below.alloc ?_ ?_ _)); all_goals first | (simp; done) | (simp; omega) | omega) _ _ _ (RdRow.mk_cons (Rd.mk_int px2) (RdRow.mk_cons (Rd.mk_int px3) RdRow.mk_nil)))).mono ?_
  rintro e w2 ⟨u2, rfl, ho2, h2⟩
  have B2 : Below w.heap.size w w2 := Below.trans (by (repeat (first | with_reducible exact Below.refl _ _ | with_reducible assumption | with_reducible refine Below.drew ?_ | with_reducible refine Below.setCell ?_ ?_ _ | with_reducible refine Below.alloc ?_ ?_ _)); all_goals first | (simp; done) | (simp; omega) | omega) (h2.mono (by first | (simp; done) | (simp; omega) | omega))
  have S2 := h2.size
  have T2 := B2.size
  try simp at S2
  obtain ⟨k2, f2⟩ := Ab h2
  try simp at k2
  try simp at f2
  have Hc2 := Lib.hid h2
  clear h2
  have u2_0 : w.heap.size < w2.heap.size := by omega
  have u2_1 : w.heap.size + 1 < w2.heap.size := by omega
  have u2_2 : w.heap.size + 1 + 1 < w2.heap.size := by omega
  obtain rfl : u2 = [.int .i64 px2, .int .i64 px3] := by
    have q := ho2.rd
    obtain ⟨v2, q2, rfl, e2, q_2⟩ := RdRow.cons2 q
    obtain rfl := Rd.int2 e2
    obtain ⟨v3, q3, rfl, e3, q_3⟩ := RdRow.cons2 q_2
    obtain rfl := Rd.int2 e3
    obtain ⟨-, rfl⟩ := RdRow.nil_inv q_3
    rfl
  have P2 : OnlyIn (fun b => b < w.heap.size + 3) w1 w2 := OnlyIn.trans (by (repeat (first | with_reducible exact OnlyIn.refl _ _ | with_reducible refine OnlyIn.setCell ?_ ?_ _ | with_reducible refine OnlyIn.alloc ?_ _)); all_goals (show _ < _; first | (simp; done) | (simp; omega) | omega)) (OnlyIn.of_below Hc2.out)
  have O2 := Lib.hid ho2
  have PP2 := Lib.hid P2
  clear ho2 P2
  go_wp2_with fail
  refine (GS pl4 (by have hz := HZ.out; omega) _ _ (Rd.below (by (repeat (first | with_reducible exact Below.refl _ _ | with_reducible assumption | with_reducible refine Below.drew ?_ | with_reducible refine Below.setCell ?_ ?_ _ | with_reducible refine Below.alloc ?_ ?_ _)); all_goals first | (simp; done) | (simp; omega) | omega) _ _ _ H4.out)).mono ?_
  rintro e w3 ⟨u3, rfl, ho3, h3⟩
  have B3 : Below w.heap.size w w3 := Below.trans (by (repeat (first | with_reducible exact Below.refl _ _ | with_reducible assumption | with_reducible refine Below.drew ?_ | with_reducible refine Below.setCell ?_ ?_ _ | with_reducible refine Below.alloc ?_ ?_ _)); all_goals first | (simp; done) | (simp; omega) | omega) (h3.mono (by first | (simp; done) | (simp; omega) | omega))
  have S3 := h3.size
  have T3 := B3.size
  try simp at S3
  obtain ⟨k3, f3⟩ := Ab h3
  try simp at k3
  try simp at f3
  have Hc3 := Lib.hid h3
  clear h3
  have u3_0 : w.heap.size < w3.heap.size := by omega
  have u3_1 : w.heap.size + 1 < w3.heap.size := by omega
  have u3_2 : w.heap.size + 1 + 1 < w3.heap.size := by omega
  obtain ⟨ub4, uc4, rfl⟩ : ∃ a c, u3 = .slice a pl4.length c := by
    obtain ⟨q, q1, -, -⟩ := Own.one ho3
    obtain ⟨a, c, q2, -⟩ := Rd.sl2 (Fp.rd _ _ _ _ q1)
    exact ⟨a, c, q2⟩
  have P3 : OnlyIn (fun b => b < w.heap.size + 3) w2 w3 := OnlyIn.trans (by (repeat (first | with_reducible exact OnlyIn.refl _ _ | with_reducible refine OnlyIn.setCell ?_ ?_ _ | with_reducible refine OnlyIn.alloc ?_ _)); all_goals (show _ < _; first | (simp; done) | (simp; omega) | omega)) (OnlyIn.of_below Hc3.out)
  have O3 := Lib.hid ho3
  have PP3 := Lib.hid P3
  clear ho3 P3
  go_wp2_with fail
  refine (K3 pl5 (by have hz := HZ.out; omega) _ _ (Rd.below (by (repeat (first | with_reducible exact Below.refl _ _ | with_reducible assumption | with_reducible refine Below.drew ?_ | with_reducible refine Below.setCell ?_ ?_ _ | with_reducible refine Below.alloc ?_ ?_ _)); all_goals first | (simp; done) | (simp; omega) | omega) _ _ _ H5.out)).mono ?_
  rintro e w4 ⟨u4, rfl, ho4, h4⟩
  have B4 : Below w.heap.size w w4 := Below.trans (by (repeat (first | with_reducible exact Below.refl _ _ | with_reducible assumption | with_reducible refine Below.drew ?_ | with_reducible refine Below.setCell ?_ ?_ _ | with_reducible refine Below.alloc ?_ ?_ _)); all_goals first | (simp; done) | (simp; omega) | omega) (h4.mono (by first | (simp; done) | (simp; omega) | omega))
  have S4 := h4.size
  have T4 := B4.size
  try simp at S4
  obtain ⟨k4, f4⟩ := Ab h4
  try simp at k4
  try simp at f4
  have Hc4 := Lib.hid h4
  clear h4
  have u4_0 : w.heap.size < w4.heap.size := by omega
  have u4_1 : w.heap.size + 1 < w4.heap.size := by omega
  have u4_2 : w.heap.size + 1 + 1 < w4.heap.size := by omega
  obtain ⟨ub5, uc5, rfl⟩ : ∃ a c, u4 = .slice a pl5.length c := by
    obtain ⟨q, q1, -, -⟩ := Own.one ho4
    obtain ⟨a, c, q2, -⟩ := Rd.sl2 (Fp.rd _ _ _ _ q1)
    exact ⟨a, c, q2⟩
  have P4 : OnlyIn (fun b => b < w.heap.size + 3) w3 w4 := OnlyIn.trans (by (repeat (first | with_reducible exact OnlyIn.refl _ _ | with_reducible refine OnlyIn.setCell ?_ ?_ _ | with_reducible refine OnlyIn.alloc ?_ _)); all_goals (show _ < _; first | (simp; done) | (simp; omega) | omega)) (OnlyIn.of_below Hc4.out)
  have O4 := Lib.hid ho4
  have PP4 := Lib.hid P4
  clear ho4 P4
  go_wp2_with fail
  refine (GS pl6 (by have hz := HZ.out; omega) _ _ (Rd.below (by (repeat (first | with_reducible exact Below.refl _ _ | with_reducible assumption | with_reducible refine Below.drew ?_ | with_reducible refine Below.setCell ?_ ?_ _ | with_reducible refine Below.alloc ?_ ?_ _)); all_goals first | (simp; done) | (simp; omega) | omega) _ _ _ H6.out)).mono ?_
  rintro e w5 ⟨u5, rfl, ho5, h5⟩
  have B5 : Below w.heap.size w w5 := Below.trans (by (repeat (first | with_reducible exact Below.refl _ _ | with_reducible assumption | with_reducible refine Below.drew ?_ | with_reducible refine Below.setCell ?_ ?_ _ | with_reducible refine Below.alloc ?_ ?_ _)); all_goals first | (simp; done) | (simp; omega) | omega) (h5.mono (by first | (simp; done) | (simp; omega) | omega))
  have S5 := h5.size
  have T5 := B5.size
  try simp at S5
  obtain ⟨k5, f5⟩ := Ab h5
  try simp at k5
  try simp at f5
  have Hc5 := Lib.hid h5
  clear h5
  have u5_0 : w.heap.size < w5.heap.size := by omega
  have u5_1 : w.heap.size + 1 < w5.heap.size := by omega
  have u5_2 : w.heap.size + 1 + 1 < w5.heap.size := by omega
  obtain ⟨ub6, uc6, rfl⟩ : ∃ a c, u5 = .slice a pl6.length c := by
    obtain ⟨q, q1, -, -⟩ := Own.one ho5
    obtain ⟨a, c, q2, -⟩ := Rd.sl2 (Fp.rd _ _ _ _ q1)
    exact ⟨a, c, q2⟩
  have P5 : OnlyIn (fun b => b < w.heap.size + 3) w4 w5 := OnlyIn.trans (by (repeat (first | with_reducible exact OnlyIn.refl _ _ | with_reducible refine OnlyIn.setCell ?_ ?_ _ | with_reducible refine OnlyIn.alloc ?_ _)); all_goals (show _ < _; first | (simp; done) | (simp; omega) | omega)) (OnlyIn.of_below Hc5.out)
  have O5 := Lib.hid ho5
  have PP5 := Lib.hid P5
  clear ho5 P5
  have r0_ : w5.cell? ⟨w.heap.size + 1 + 1, 0, none⟩ = some (.int .i64 px0) := by go_simp
  have s0_ : w5.cell? ⟨w.heap.size + 1, 0, none⟩ = some (.int .i64 0) := by go_simp
  have f0_ : w5.frozen? ⟨w.heap.size + 1, 0, none⟩ = false := by go_simp
  have r1_ : w5.cell? ⟨w.heap.size + 1 + 1, 1, none⟩ = some (.int .i64 px1) := by go_simp
  have s1_ : w5.cell? ⟨w.heap.size + 1, 1, none⟩ = some (.int .i64 0) := by go_simp
  have f1_ : w5.frozen? ⟨w.heap.size + 1, 1, none⟩ = false := by go_simp
  have r2_ : w5.cell? ⟨w.heap.size + 1 + 1, 2, none⟩ = some (.int .i64 px2) := by go_simp
  have s2_ : w5.cell? ⟨w.heap.size + 1, 2, none⟩ = some (.int .i64 0) := by go_simp
  have f2_ : w5.frozen? ⟨w.heap.size + 1, 2, none⟩ = false := by go_simp
  have r3_ : w5.cell? ⟨w.heap.size + 1 + 1, 3, none⟩ = some (.int .i64 px3) := by go_simp
  have s3_ : w5.cell? ⟨w.heap.size + 1, 3, none⟩ = some (.int .i64 0) := by go_simp
  have f3_ : w5.frozen? ⟨w.heap.size + 1, 3, none⟩ = false := by go_simp
  have r4_ : w5.cell? ⟨w.heap.size + 1 + 1, 4, none⟩ = some (.slice ub4 pl4.length uc4) := by go_simp
  have s4_ : w5.cell? ⟨w.heap.size + 1, 4, none⟩ = some (.slice none 0 0) := by go_simp
  have f4_ : w5.frozen? ⟨w.heap.size + 1, 4, none⟩ = false := by go_simp
  have r5_ : w5.cell? ⟨w.heap.size + 1 + 1, 5, none⟩ = some (.slice ub5 pl5.length uc5) := by go_simp
  have s5_ : w5.cell? ⟨w.heap.size + 1, 5, none⟩ = some (.slice none 0 0) := by go_simp
  have f5_ : w5.frozen? ⟨w.heap.size + 1, 5, none⟩ = false := by go_simp
  have r6_ : w5.cell? ⟨w.heap.size + 1 + 1, 6, none⟩ = some (.slice none 0 0) := by go_simp
  have s6_ : w5.cell? ⟨w.heap.size + 1, 6, none⟩ = some (.slice none 0 0) := by go_simp
  have f6_ : w5.frozen? ⟨w.heap.size + 1, 6, none⟩ = false := by go_simp
  have g6_ : w5.frozen? ⟨w.heap.size + 1 + 1, 6, none⟩ = false := by go_simp
  clear k1 f1 k2 f2 k3 f3 k4 f4 k5 f5
  have q0_ : ((((((((w5.setCell ⟨w.heap.size + 1 + 1, 6, none⟩ (.slice ub6 pl6.length uc6)).setCell ⟨w.heap.size + 1, 0, none⟩ (.int .i64 px0)).setCell ⟨w.heap.size + 1, 1, none⟩ (.int .i64 px1)).setCell ⟨w.heap.size + 1, 2, none⟩ (.int .i64 px2)).setCell ⟨w.heap.size + 1, 3, none⟩ (.int .i64 px3)).setCell ⟨w.heap.size + 1, 4, none⟩ (.slice ub4 pl4.length uc4)).setCell ⟨w.heap.size + 1, 5, none⟩ (.slice ub5 pl5.length uc5)).setCell ⟨w.heap.size + 1, 6, none⟩ (.slice ub6 pl6.length uc6)).cell? ⟨w.heap.size + 1, 0, none⟩ = some (.int .i64 px0) := by go_simp
  have q1_ : ((((((((w5.setCell ⟨w.heap.size + 1 + 1, 6, none⟩ (.slice ub6 pl6.length uc6)).setCell ⟨w.heap.size + 1, 0, none⟩ (.int .i64 px0)).setCell ⟨w.heap.size + 1, 1, none⟩ (.int .i64 px1)).setCell ⟨w.heap.size + 1, 2, none⟩ (.int .i64 px2)).setCell ⟨w.heap.size + 1, 3, none⟩ (.int .i64 px3)).setCell ⟨w.heap.size + 1, 4, none⟩ (.slice ub4 pl4.length uc4)).setCell ⟨w.heap.size + 1, 5, none⟩ (.slice ub5 pl5.length uc5)).setCell ⟨w.heap.size + 1, 6, none⟩ (.slice ub6 pl6.length uc6)).cell? ⟨w.heap.size + 1, 1, none⟩ = some (.int .i64 px1) := by go_simp
  have q2_ : ((((((((w5.setCell ⟨w.heap.size + 1 + 1, 6, none⟩ (.slice ub6 pl6.length uc6)).setCell ⟨w.heap.size + 1, 0, none⟩ (.int .i64 px0)).setCell ⟨w.heap.size + 1, 1, none⟩ (.int .i64 px1)).setCell ⟨w.heap.size + 1, 2, none⟩ (.int .i64 px2)).setCell ⟨w.heap.size + 1, 3, none⟩ (.int .i64 px3)).setCell ⟨w.heap.size + 1, 4, none⟩ (.slice ub4 pl4.length uc4)).setCell ⟨w.heap.size + 1, 5, none⟩ (.slice ub5 pl5.length uc5)).setCell ⟨w.heap.size + 1, 6, none⟩ (.slice ub6 pl6.length uc6)).cell? ⟨w.heap.size + 1, 2, none⟩ = some (.int .i64 px2) := by go_simp
  have q3_ : ((((((((w5.setCell ⟨w.heap.size + 1 + 1, 6, none⟩ (.slice ub6 pl6.length uc6)).setCell ⟨w.heap.size + 1, 0, none⟩ (.int .i64 px0)).setCell ⟨w.heap.size + 1, 1, none⟩ (.int .i64 px1)).setCell ⟨w.heap.size + 1, 2, none⟩ (.int .i64 px2)).setCell ⟨w.heap.size + 1, 3, none⟩ (.int .i64 px3)).setCell ⟨w.heap.size + 1, 4, none⟩ (.slice ub4 pl4.length uc4)).setCell ⟨w.heap.size + 1, 5, none⟩ (.slice ub5 pl5.length uc5)).setCell ⟨w.heap.size + 1, 6, none⟩ (.slice ub6 pl6.length uc6)).cell? ⟨w.heap.size + 1, 3, none⟩ = some (.int .i64 px3) := by go_simp
  have q4_ : ((((((((w5.setCell ⟨w.heap.size + 1 + 1, 6, none⟩ (.slice ub6 pl6.length uc6)).setCell ⟨w.heap.size + 1, 0, none⟩ (.int .i64 px0)).setCell ⟨w.heap.size + 1, 1, none⟩ (.int .i64 px1)).setCell ⟨w.heap.size + 1, 2, none⟩ (.int .i64 px2)).setCell ⟨w.heap.size + 1, 3, none⟩ (.int .i64 px3)).setCell ⟨w.heap.size + 1, 4, none⟩ (.slice ub4 pl4.length uc4)).setCell ⟨w.heap.size + 1, 5, none⟩ (.slice ub5 pl5.length uc5)).setCell ⟨w.heap.size + 1, 6, none⟩ (.slice ub6 pl6.length uc6)).cell? ⟨w.heap.size + 1, 4, none⟩ = some (.slice ub4 pl4.length uc4) := by go_simp
  have q5_ : ((((((((w5.setCell ⟨w.heap.size + 1 + 1, 6, none⟩ (.slice ub6 pl6.length uc6)).setCell ⟨w.heap.size + 1, 0, none⟩ (.int .i64 px0)).setCell ⟨w.heap.size + 1, 1, none⟩ (.int .i64 px1)).setCell ⟨w.heap.size + 1, 2, none⟩ (.int .i64 px2)).setCell ⟨w.heap.size + 1, 3, none⟩ (.int .i64 px3)).setCell ⟨w.heap.size + 1, 4, none⟩ (.slice ub4 pl4.length uc4)).setCell ⟨w.heap.size + 1, 5, none⟩ (.slice ub5 pl5.length uc5)).setCell ⟨w.heap.size + 1, 6, none⟩ (.slice ub6 pl6.length uc6)).cell? ⟨w.heap.size + 1, 5, none⟩ = some (.slice ub5 pl5.length uc5) := by go_simp
  have q6_ : ((((((((w5.setCell ⟨w.heap.size + 1 + 1, 6, none⟩ (.slice ub6 pl6.length uc6)).setCell ⟨w.heap.size + 1, 0, none⟩ (.int .i64 px0)).setCell ⟨w.heap.size + 1, 1, none⟩ (.int .i64 px1)).setCell ⟨w.heap.size + 1, 2, none⟩ (.int .i64 px2)).setCell ⟨w.heap.size + 1, 3, none⟩ (.int .i64 px3)).setCell ⟨w.heap.size + 1, 4, none⟩ (.slice ub4 pl4.length uc4)).setCell ⟨w.heap.size + 1, 5, none⟩ (.slice ub5 pl5.length uc5)).setCell ⟨w.heap.size + 1, 6, none⟩ (.slice ub6 pl6.length uc6)).cell? ⟨w.heap.size + 1, 6, none⟩ = some (.slice ub6 pl6.length uc6) := by go_simp
  have QQ := Lib.hid (And.intro q0_ (And.intro q1_ (And.intro q2_ (And.intro q3_ (And.intro q4_ (And.intro q5_ (q6_)))))))
  clear q0_ q1_ q2_ q3_ q4_ q5_ q6_
  have PF : OnlyIn (fun b => b < w.heap.size + 3) w5 ((((((((w5.setCell ⟨w.heap.size + 1 + 1, 6, none⟩ (.slice ub6 pl6.length uc6)).setCell ⟨w.heap.size + 1, 0, none⟩ (.int .i64 px0)).setCell ⟨w.heap.size + 1, 1, none⟩ (.int .i64 px1)).setCell ⟨w.heap.size + 1, 2, none⟩ (.int .i64 px2)).setCell ⟨w.heap.size + 1, 3, none⟩ (.int .i64 px3)).setCell ⟨w.heap.size + 1, 4, none⟩ (.slice ub4 pl4.length uc4)).setCell ⟨w.heap.size + 1, 5, none⟩ (.slice ub5 pl5.length uc5)).setCell ⟨w.heap.size + 1, 6, none⟩ (.slice ub6 pl6.length uc6)) := (by (repeat (first | with_reducible exact OnlyIn.refl _ _ | with_reducible refine OnlyIn.setCell ?_ ?_ _ | with_reducible refine OnlyIn.alloc ?_ _)); all_goals (show _ < _; first | (simp; done) | (simp; omega) | omega))
  have BF : Below w.heap.size w ((((((((w5.setCell ⟨w.heap.size + 1 + 1, 6, none⟩ (.slice ub6 pl6.length uc6)).setCell ⟨w.heap.size + 1, 0, none⟩ (.int .i64 px0)).setCell ⟨w.heap.size + 1, 1, none⟩ (.int .i64 px1)).setCell ⟨w.heap.size + 1, 2, none⟩ (.int .i64 px2)).setCell ⟨w.heap.size + 1, 3, none⟩ (.int .i64 px3)).setCell ⟨w.heap.size + 1, 4, none⟩ (.slice ub4 pl4.length uc4)).setCell ⟨w.heap.size + 1, 5, none⟩ (.slice ub5 pl5.length uc5)).setCell ⟨w.heap.size + 1, 6, none⟩ (.slice ub6 pl6.length uc6)) := (by (repeat (first | with_reducible exact Below.refl _ _ | with_reducible assumption | with_reducible refine Below.drew ?_ | with_reducible refine Below.setCell ?_ ?_ _ | with_reducible refine Below.alloc ?_ ?_ _)); all_goals first | (simp; done) | (simp; omega) | omega)
  have FIN : Own ((((((((w5.setCell ⟨w.heap.size + 1 + 1, 6, none⟩ (.slice ub6 pl6.length uc6)).setCell ⟨w.heap.size + 1, 0, none⟩ (.int .i64 px0)).setCell ⟨w.heap.size + 1, 1, none⟩ (.int .i64 px1)).setCell ⟨w.heap.size + 1, 2, none⟩ (.int .i64 px2)).setCell ⟨w.heap.size + 1, 3, none⟩ (.int .i64 px3)).setCell ⟨w.heap.size + 1, 4, none⟩ (.slice ub4 pl4.length uc4)).setCell ⟨w.heap.size + 1, 5, none⟩ (.slice ub5 pl5.length uc5)).setCell ⟨w.heap.size + 1, 6, none⟩ (.slice ub6 pl6.length uc6)) w.heap.size ((((((((w5.setCell ⟨w.heap.size + 1 + 1, 6, none⟩ (.slice ub6 pl6.length uc6)).setCell ⟨w.heap.size + 1, 0, none⟩ (.int .i64 px0)).setCell ⟨w.heap.size + 1, 1, none⟩ (.int .i64 px1)).setCell ⟨w.heap.size + 1, 2, none⟩ (.int .i64 px2)).setCell ⟨w.heap.size + 1, 3, none⟩ (.int .i64 px3)).setCell ⟨w.heap.size + 1, 4, none⟩ (.slice ub4 pl4.length uc4)).setCell ⟨w.heap.size + 1, 5, none⟩ (.slice ub5 pl5.length uc5)).setCell ⟨w.heap.size + 1, 6, none⟩ (.slice ub6 pl6.length uc6)).heap.size [.int, .int, .int, .int, .sl 36 [.int, .int], .sl 25 [.sl 36 [.int, .int]], .sl 36 [.int, .int]] [.int px0, .int px1, .int px2, .int px3, .sl pl4, .sl pl5, .sl pl6] [.int .i64 px0, .int .i64 px1, .int .i64 px2, .int .i64 px3, .slice ub4 pl4.length uc4, .slice ub5 pl5.length uc5, .slice ub6 pl6.length uc6] := by
    have hsz_ : ((((((((w5.setCell ⟨w.heap.size + 1 + 1, 6, none⟩ (.slice ub6 pl6.length uc6)).setCell ⟨w.heap.size + 1, 0, none⟩ (.int .i64 px0)).setCell ⟨w.heap.size + 1, 1, none⟩ (.int .i64 px1)).setCell ⟨w.heap.size + 1, 2, none⟩ (.int .i64 px2)).setCell ⟨w.heap.size + 1, 3, none⟩ (.int .i64 px3)).setCell ⟨w.heap.size + 1, 4, none⟩ (.slice ub4 pl4.length uc4)).setCell ⟨w.heap.size + 1, 5, none⟩ (.slice ub5 pl5.length uc5)).setCell ⟨w.heap.size + 1, 6, none⟩ (.slice ub6 pl6.length uc6)).heap.size = w5.heap.size := by simp [World.setCell]
    rw [hsz_]
    have own1 : Own ((((((((w5.setCell ⟨w.heap.size + 1 + 1, 6, none⟩ (.slice ub6 pl6.length uc6)).setCell ⟨w.heap.size + 1, 0, none⟩ (.int .i64 px0)).setCell ⟨w.heap.size + 1, 1, none⟩ (.int .i64 px1)).setCell ⟨w.heap.size + 1, 2, none⟩ (.int .i64 px2)).setCell ⟨w.heap.size + 1, 3, none⟩ (.int .i64 px3)).setCell ⟨w.heap.size + 1, 4, none⟩ (.slice ub4 pl4.length uc4)).setCell ⟨w.heap.size + 1, 5, none⟩ (.slice ub5 pl5.length uc5)).setCell ⟨w.heap.size + 1, 6, none⟩ (.slice ub6 pl6.length uc6)) (w.heap.size + 3) w1.heap.size [.int, .int] [.int px0, .int px1] [.int .i64 px0, .int .i64 px1] := by
      have o := O1.out
      simp only [World.size_alloc] at o
      exact (o.only (PP2.out.trans (PP3.out.trans (PP4.out.trans (PP5.out.trans (PF))))) (fun b hb => .inl (by omega))).mono (by omega) (Nat.le_refl _)
    have own2 : Own ((((((((w5.setCell ⟨w.heap.size + 1 + 1, 6, none⟩ (.slice ub6 pl6.length uc6)).setCell ⟨w.heap.size + 1, 0, none⟩ (.int .i64 px0)).setCell ⟨w.heap.size + 1, 1, none⟩ (.int .i64 px1)).setCell ⟨w.heap.size + 1, 2, none⟩ (.int .i64 px2)).setCell ⟨w.heap.size + 1, 3, none⟩ (.int .i64 px3)).setCell ⟨w.heap.size + 1, 4, none⟩ (.slice ub4 pl4.length uc4)).setCell ⟨w.heap.size + 1, 5, none⟩ (.slice ub5 pl5.length uc5)).setCell ⟨w.heap.size + 1, 6, none⟩ (.slice ub6 pl6.length uc6)) (w1.heap.size) w2.heap.size [.int, .int] [.int px2, .int px3] [.int .i64 px2, .int .i64 px3] := by
      have o := O2.out
      simp only [World.size_setCell] at o
      exact (o.only (PP3.out.trans (PP4.out.trans (PP5.out.trans (PF)))) (fun b hb => .inl (by omega))).mono (by omega) (Nat.le_refl _)
    have own3 : Own ((((((((w5.setCell ⟨w.heap.size + 1 + 1, 6, none⟩ (.slice ub6 pl6.length uc6)).setCell ⟨w.heap.size + 1, 0, none⟩ (.int .i64 px0)).setCell ⟨w.heap.size + 1, 1, none⟩ (.int .i64 px1)).setCell ⟨w.heap.size + 1, 2, none⟩ (.int .i64 px2)).setCell ⟨w.heap.size + 1, 3, none⟩ (.int .i64 px3)).setCell ⟨w.heap.size + 1, 4, none⟩ (.slice ub4 pl4.length uc4)).setCell ⟨w.heap.size + 1, 5, none⟩ (.slice ub5 pl5.length uc5)).setCell ⟨w.heap.size + 1, 6, none⟩ (.slice ub6 pl6.length uc6)) (w2.heap.size) w3.heap.size [.sl 36 [.int, .int]] [.sl pl4] [.slice ub4 pl4.length uc4] := by
      have o := O3.out
      simp only [World.size_setCell] at o
      exact (o.only (PP4.out.trans (PP5.out.trans (PF))) (fun b hb => .inl (by omega))).mono (by omega) (Nat.le_refl _)
    have own4 : Own ((((((((w5.setCell ⟨w.heap.size + 1 + 1, 6, none⟩ (.slice ub6 pl6.length uc6)).setCell ⟨w.heap.size + 1, 0, none⟩ (.int .i64 px0)).setCell ⟨w.heap.size + 1, 1, none⟩ (.int .i64 px1)).setCell ⟨w.heap.size + 1, 2, none⟩ (.int .i64 px2)).setCell ⟨w.heap.size + 1, 3, none⟩ (.int .i64 px3)).setCell ⟨w.heap.size + 1, 4, none⟩ (.slice ub4 pl4.length uc4)).setCell ⟨w.heap.size + 1, 5, none⟩ (.slice ub5 pl5.length uc5)).setCell ⟨w.heap.size + 1, 6, none⟩ (.slice ub6 pl6.length uc6)) (w3.heap.size) w4.heap.size [.sl 25 [.sl 36 [.int, .int]]] [.sl pl5] [.slice ub5 pl5.length uc5] := by
      have o := O4.out
      simp only [World.size_setCell] at o
      exact (o.only (PP5.out.trans (PF)) (fun b hb => .inl (by omega))).mono (by omega) (Nat.le_refl _)
    have own5 : Own ((((((((w5.setCell ⟨w.heap.size + 1 + 1, 6, none⟩ (.slice ub6 pl6.length uc6)).setCell ⟨w.heap.size + 1, 0, none⟩ (.int .i64 px0)).setCell ⟨w.heap.size + 1, 1, none⟩ (.int .i64 px1)).setCell ⟨w.heap.size + 1, 2, none⟩ (.int .i64 px2)).setCell ⟨w.heap.size + 1, 3, none⟩ (.int .i64 px3)).setCell ⟨w.heap.size + 1, 4, none⟩ (.slice ub4 pl4.length uc4)).setCell ⟨w.heap.size + 1, 5, none⟩ (.slice ub5 pl5.length uc5)).setCell ⟨w.heap.size + 1, 6, none⟩ (.slice ub6 pl6.length uc6)) (w4.heap.size) w5.heap.size [.sl 36 [.int, .int]] [.sl pl6] [.slice ub6 pl6.length uc6] := by
      have o := O5.out
      simp only [World.size_setCell] at o
      exact (o.only (PF) (fun b hb => .inl (by omega))).mono (by omega) (Nat.le_refl _)
    exact ((((((Own.nil _ w.heap.size (w.heap.size + 3)).append own1 (by omega) (by omega)).append own2 (by omega) (by omega)).append own3 (by omega) (by omega)).append own4 (by omega) (by omega)).append own5 (by omega) (by omega)).mono (Nat.le_refl _) (by omega)
  have FF := Lib.hid FIN
  clear FIN PF
  go_wp2
  obtain ⟨q0_, q1_, q2_, q3_, q4_, q5_, q6_⟩ := QQ.out
  exact bodyPost_ret (v := .agg #[.int .i64 px0, .int .i64 px1, .int .i64 px2, .int .i64 px3, .slice ub4 pl4.length uc4, .slice ub5 pl5.length uc5, .slice ub6 pl6.length uc6]) (by simp [results, Tryd.results13, go_sem, q0_, q1_, q2_, q3_, q4_, q5_, q6_]) rfl ⟨_, rfl, FF.out, BF⟩
end Go.Proofs.YtgggkcoljpimcaaDoor
