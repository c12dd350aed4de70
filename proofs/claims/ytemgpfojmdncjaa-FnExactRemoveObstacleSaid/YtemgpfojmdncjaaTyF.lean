/-
  Contracts of the law's own helpers of the types StepS: size, equality, copy, marks. (Printed by wip/tools/gentypes.py.)
-/
import Derived.Test.YtemgpfojmdncjaaProg
import Derived.Test.YtemgpfojmdncjaaTyE
import Derived.Outline
import Derived.Laws.MakeOwn
import Derived.RegionTactic
import Derived.BigRegion
import Derived.Deep.RegionHeld3
import Derived.Deep.DrawnRows
namespace Go.Proofs.Ytemgpfojmdncjaa
set_option linter.unusedVariables false
set_option linter.unusedSimpArgs false
open Go.RowKit
attribute [local go_sem ↓] Go.wp_at_zero Go.wp_at_succ

set_option maxRecDepth 100000 in
set_option maxHeartbeats 4000000 in
theorem szStepS_c (ls : List (List Dat)) (left : Int) (h0 : 0 ≤ left) (h1 : left ≤ 1048576) (v : Value) (w : World) (h : Rd w (.sl 104 [.int, .bool, .sl 3 [.int], .sl 3 [.int], .bool, .sl 3 [.int], .sl 3 [.int]]) (.sl ls) v) :
    Calls Try.prog 21 #[v, .int .i64 left] w fun e w' => ∃ r : Int, e = .returned (.int .i64 r) ∧ szOk (ls.length + szRows ls) left r ∧ Below w.heap.size w w' := by
  obtain ⟨a, cap, rfl, hl, hc, hcell⟩ := h.open
  have HC := Lib.hid hcell
  clear hcell h
  have hlen : (ls.length : Int) ≤ 9223372036854775807 := by omega
  have HM : Hid (szOk (ls.length + szRows ls) left (-1)) := .inl rfl
  by_cases hq : left - (ls.length : Int) < 0
  · go_enter Try.func21, Try.ntmps21
    go_wp2
    go_ret
    exact ⟨_, rfl, HM.out, Below.refl _ _⟩
  · go_enter Try.func21, Try.ntmps21
    go_wp2
    go_loopw [1, 5] (fun c i wr => ∃ (k : Nat) (m : Int), k ≤ ls.length ∧ i = .int .i64 k ∧ c = .int .i64 m ∧ 0 ≤ m ∧ m ≤ 1048576 ∧ m + ls.length + szRows (ls.take k) = left ∧ Below w.heap.size w wr) (fun _ i _ => ls.length - (intOf i).toNat)
    case atStart => exact ⟨0, _, Nat.zero_le _, rfl, rfl, by omega, by omega, by simp [szRows], Below.refl _ _⟩
    case round =>
      obtain ⟨k, m, hk, rfl, rfl, hm0, hm1, hsum, hb⟩ := hrel
      have HS := Lib.hid hsum
      clear hsum
      by_cases hlt : k < ls.length
      · obtain ⟨b, off, row, rfl, hbs, hcl, hrow⟩ := HC.out k hlt
        have hsn := szRows_take ls k hlt
        obtain ⟨ld, hld⟩ : ∃ ld, ls.getD k [] = ld := ⟨_, rfl⟩
        rw [hld] at hrow hsn
        obtain ⟨pd, pds, pv, pvs, rfl, rfl, ph, hrow_0⟩ := RdRow.cons_inv hrow
        obtain ⟨px0, rfl, rfl⟩ := Rd.int_inv ph
        obtain ⟨pd, pds, pv, pvs, rfl, rfl, ph, hrow_1⟩ := RdRow.cons_inv hrow_0
        obtain ⟨px1, rfl, rfl⟩ := Rd.bool_inv ph
        obtain ⟨pd, pds, pv, pvs, rfl, rfl, ph, hrow_2⟩ := RdRow.cons_inv hrow_1
        obtain ⟨pl2, pa2, pc2, rfl, rfl, pe2, pf2, pr2⟩ := Rd.sl_inv ph
        obtain ⟨pd, pds, pv, pvs, rfl, rfl, ph, hrow_3⟩ := RdRow.cons_inv hrow_2
        obtain ⟨pl3, pa3, pc3, rfl, rfl, pe3, pf3, pr3⟩ := Rd.sl_inv ph
        obtain ⟨pd, pds, pv, pvs, rfl, rfl, ph, hrow_4⟩ := RdRow.cons_inv hrow_3
        obtain ⟨px4, rfl, rfl⟩ := Rd.bool_inv ph
        obtain ⟨pd, pds, pv, pvs, rfl, rfl, ph, hrow_5⟩ := RdRow.cons_inv hrow_4
        obtain ⟨pl5, pa5, pc5, rfl, rfl, pe5, pf5, pr5⟩ := Rd.sl_inv ph
        obtain ⟨pd, pds, pv, pvs, rfl, rfl, ph, hrow_6⟩ := RdRow.cons_inv hrow_5
        obtain ⟨pl6, pa6, pc6, rfl, rfl, pe6, pf6, pr6⟩ := Rd.sl_inv ph
        obtain ⟨rfl, rfl⟩ := RdRow.nil_inv hrow_6
        have d0 : wr.cell? ⟨b, off + k * 7, none⟩ = some (.int .i64 px0) := (hb.cell (p := ⟨b, _, none⟩) hbs).trans (by have q := hcl 0 (by decide); simpa [Nat.add_assoc] using q)
        have d1 : wr.cell? ⟨b, off + k * 7 + 1, none⟩ = some (.bool px1) := (hb.cell (p := ⟨b, _, none⟩) hbs).trans (by have q := hcl 1 (by decide); simpa [Nat.add_assoc] using q)
        have d2 : wr.cell? ⟨b, off + k * 7 + 2, none⟩ = some (.slice pa2 pl2.length pc2) := (hb.cell (p := ⟨b, _, none⟩) hbs).trans (by have q := hcl 2 (by decide); simpa [Nat.add_assoc] using q)
        have d3 : wr.cell? ⟨b, off + k * 7 + 3, none⟩ = some (.slice pa3 pl3.length pc3) := (hb.cell (p := ⟨b, _, none⟩) hbs).trans (by have q := hcl 3 (by decide); simpa [Nat.add_assoc] using q)
        have d4 : wr.cell? ⟨b, off + k * 7 + 4, none⟩ = some (.bool px4) := (hb.cell (p := ⟨b, _, none⟩) hbs).trans (by have q := hcl 4 (by decide); simpa [Nat.add_assoc] using q)
        have d5 : wr.cell? ⟨b, off + k * 7 + 5, none⟩ = some (.slice pa5 pl5.length pc5) := (hb.cell (p := ⟨b, _, none⟩) hbs).trans (by have q := hcl 5 (by decide); simpa [Nat.add_assoc] using q)
        have d6 : wr.cell? ⟨b, off + k * 7 + 6, none⟩ = some (.slice pa6 pl6.length pc6) := (hb.cell (p := ⟨b, _, none⟩) hbs).trans (by have q := hcl 6 (by decide); simpa [Nat.add_assoc] using q)
        have H2 := Lib.hid (Rd.below hb _ _ _ pr2)
        clear pr2
        have H3 := Lib.hid (Rd.below hb _ _ _ pr3)
        clear pr3
        have H5 := Lib.hid (Rd.below hb _ _ _ pr5)
        clear pr5
        have H6 := Lib.hid (Rd.below hb _ _ _ pr6)
        clear pr6
        simp only [szRow, Dat.sz] at hsn
        have HSN := Lib.hid hsn
        have HB := Lib.hid hb
        have T9 := hb.size
        clear hld hsn hcl hb
        go_wp2_with fail
        refine (szStep_c [.int px0, .bool px1, .sl pl2, .sl pl3, .bool px4, .sl pl5, .sl pl6] [.int .i64 px0, .bool px1, .slice pa2 pl2.length pc2, .slice pa3 pl3.length pc3, .bool px4, .slice pa5 pl5.length pc5, .slice pa6 pl6.length pc6] m hm0 hm1 _ (RdRow.below (by (repeat (first | with_reducible exact Below.refl _ _ | with_reducible assumption | with_reducible refine Below.drew ?_ | with_reducible refine Below.setCell ?_ ?_ _ | with_reducible refine Below.alloc ?_ ?_ _)); all_goals first | (simp; done) | (simp; omega) | omega) _ _ _ (RdRow.mk_cons (Rd.mk_int px0) (RdRow.mk_cons (Rd.mk_bool px1) (RdRow.mk_cons H2.out (RdRow.mk_cons H3.out (RdRow.mk_cons (Rd.mk_bool px4) (RdRow.mk_cons H5.out (RdRow.mk_cons H6.out RdRow.mk_nil))))))))).mono ?_
        rintro e w1 ⟨r, rfl, hr, h1⟩
        have B1 : Below wr.heap.size wr w1 := Below.trans (by (repeat (first | with_reducible exact Below.refl _ _ | with_reducible assumption | with_reducible refine Below.drew ?_ | with_reducible refine Below.setCell ?_ ?_ _ | with_reducible refine Below.alloc ?_ ?_ _)); all_goals first | (simp; done) | (simp; omega) | omega) (h1.mono (by first | (simp; done) | (simp; omega) | omega))
        have S1 := h1.size
        have T1 := B1.size
        try simp at S1
        obtain ⟨k1, f1⟩ := bcell h1
        try simp at k1
        try simp at f1
        have Hc1 := Lib.hid h1
        clear h1
        have HB1 := Lib.hid (HB.out.trans (B1.mono T9))
        have HR := Lib.hid hr
        rcases hr with rfl | ⟨hr0, hr1⟩
        · go_wp2
          go_ret
          exact ⟨_, rfl, HM.out, HB1.out⟩
        · have hr2 : r ≤ 1048576 := by omega
          have HR1 := Lib.hid hr1
          clear hr1
          go_wp2
          go_roundw
          case rel => exact ⟨k + 1, r, by omega, by go_num, rfl, by omega, by omega, by have a1 := HS.out; have a2 := HR1.out; have a3 := HSN.out; (try simp only [szRow, Dat.sz] at a2); omega, HB1.out⟩
          case measure => simp [intOf]; omega
      · have hke : k = ls.length := by omega
        have HP : Hid (szOk (ls.length + szRows ls) left m) := .inr ⟨hm0, by have := HS.out; rw [hke, List.take_length] at this; omega⟩
        have HB := Lib.hid hb
        clear hke hb
        go_wp2
        go_ret
        exact ⟨_, rfl, HP.out, HB.out⟩

set_option maxRecDepth 100000 in
set_option maxHeartbeats 4000000 in
theorem eqStepS_c (ls : List (List Dat)) (v u : Value) (w : World) (h : Rd w (.sl 104 [.int, .bool, .sl 3 [.int], .sl 3 [.int], .bool, .sl 3 [.int], .sl 3 [.int]]) (.sl ls) v) (h' : Rd w (.sl 104 [.int, .bool, .sl 3 [.int], .sl 3 [.int], .bool, .sl 3 [.int], .sl 3 [.int]]) (.sl ls) u) :
    Calls Try.prog 27 #[v, u] w fun e w' => e = .returned (.bool true) ∧ Below w.heap.size w w' := by
  obtain ⟨a, cap, rfl, hl, hc, hcell⟩ := h.open
  obtain ⟨a', cap', rfl, hl', hc', hcell'⟩ := h'.open
  have HC := Lib.hid hcell
  have HC' := Lib.hid hcell'
  clear hcell h hcell' h'
  go_enter Try.func27, Try.ntmps27
  go_wp2
  go_loopw [5] (fun i wr => ∃ k : Nat, k ≤ ls.length ∧ i = .int .i64 k ∧ Below w.heap.size w wr) (fun i _ => ls.length - (intOf i).toNat)
  case atStart => exact ⟨0, Nat.zero_le _, rfl, Below.refl _ _⟩
  case round =>
    obtain ⟨k, hk, rfl, hb⟩ := hrel
    by_cases hlt : k < ls.length
    · obtain ⟨b, off, row, rfl, hbs, hcl, hrow⟩ := HC.out k hlt
      obtain ⟨b', off', row', rfl, hbs', hcl', hrow'⟩ := HC'.out k hlt
      generalize ls.getD k [] = ld at hrow hrow'
      obtain ⟨pd, pds, pv, pvs, rfl, rfl, ph, hrow_0⟩ := RdRow.cons_inv hrow
      obtain ⟨px0, rfl, rfl⟩ := Rd.int_inv ph
      obtain ⟨pd, pds, pv, pvs, rfl, rfl, ph, hrow_1⟩ := RdRow.cons_inv hrow_0
      obtain ⟨px1, rfl, rfl⟩ := Rd.bool_inv ph
      obtain ⟨pd, pds, pv, pvs, rfl, rfl, ph, hrow_2⟩ := RdRow.cons_inv hrow_1
      obtain ⟨pl2, pa2, pc2, rfl, rfl, pe2, pf2, pr2⟩ := Rd.sl_inv ph
      obtain ⟨pd, pds, pv, pvs, rfl, rfl, ph, hrow_3⟩ := RdRow.cons_inv hrow_2
      obtain ⟨pl3, pa3, pc3, rfl, rfl, pe3, pf3, pr3⟩ := Rd.sl_inv ph
      obtain ⟨pd, pds, pv, pvs, rfl, rfl, ph, hrow_4⟩ := RdRow.cons_inv hrow_3
      obtain ⟨px4, rfl, rfl⟩ := Rd.bool_inv ph
      obtain ⟨pd, pds, pv, pvs, rfl, rfl, ph, hrow_5⟩ := RdRow.cons_inv hrow_4
      obtain ⟨pl5, pa5, pc5, rfl, rfl, pe5, pf5, pr5⟩ := Rd.sl_inv ph
      obtain ⟨pd, pds, pv, pvs, rfl, rfl, ph, hrow_6⟩ := RdRow.cons_inv hrow_5
      obtain ⟨pl6, pa6, pc6, rfl, rfl, pe6, pf6, pr6⟩ := Rd.sl_inv ph
      obtain ⟨rfl, rfl⟩ := RdRow.nil_inv hrow_6
      obtain ⟨qv, qvs, rfl, qh, hrow'_0⟩ := RdRow.cons2 hrow'
      obtain rfl := Rd.int2 qh
      obtain ⟨qv, qvs, rfl, qh, hrow'_1⟩ := RdRow.cons2 hrow'_0
      obtain rfl := Rd.bool2 qh
      obtain ⟨qv, qvs, rfl, qh, hrow'_2⟩ := RdRow.cons2 hrow'_1
      obtain ⟨qa2, qc2, rfl, qe2, qf2, qr2⟩ := Rd.sl2 qh
      obtain ⟨qv, qvs, rfl, qh, hrow'_3⟩ := RdRow.cons2 hrow'_2
      obtain ⟨qa3, qc3, rfl, qe3, qf3, qr3⟩ := Rd.sl2 qh
      obtain ⟨qv, qvs, rfl, qh, hrow'_4⟩ := RdRow.cons2 hrow'_3
      obtain rfl := Rd.bool2 qh
      obtain ⟨qv, qvs, rfl, qh, hrow'_5⟩ := RdRow.cons2 hrow'_4
      obtain ⟨qa5, qc5, rfl, qe5, qf5, qr5⟩ := Rd.sl2 qh
      obtain ⟨qv, qvs, rfl, qh, hrow'_6⟩ := RdRow.cons2 hrow'_5
      obtain ⟨qa6, qc6, rfl, qe6, qf6, qr6⟩ := Rd.sl2 qh
      obtain ⟨-, rfl⟩ := RdRow.nil_inv hrow'_6
      have d0 : wr.cell? ⟨b, off + k * 7, none⟩ = some (.int .i64 px0) := (hb.cell (p := ⟨b, _, none⟩) hbs).trans (by have q := hcl 0 (by decide); simpa [Nat.add_assoc] using q)
      have d'0 : wr.cell? ⟨b', off' + k * 7, none⟩ = some (.int .i64 px0) := (hb.cell (p := ⟨b', _, none⟩) hbs').trans (by have q := hcl' 0 (by decide); simpa [Nat.add_assoc] using q)
      have d1 : wr.cell? ⟨b, off + k * 7 + 1, none⟩ = some (.bool px1) := (hb.cell (p := ⟨b, _, none⟩) hbs).trans (by have q := hcl 1 (by decide); simpa [Nat.add_assoc] using q)
      have d'1 : wr.cell? ⟨b', off' + k * 7 + 1, none⟩ = some (.bool px1) := (hb.cell (p := ⟨b', _, none⟩) hbs').trans (by have q := hcl' 1 (by decide); simpa [Nat.add_assoc] using q)
      have d2 : wr.cell? ⟨b, off + k * 7 + 2, none⟩ = some (.slice pa2 pl2.length pc2) := (hb.cell (p := ⟨b, _, none⟩) hbs).trans (by have q := hcl 2 (by decide); simpa [Nat.add_assoc] using q)
      have d'2 : wr.cell? ⟨b', off' + k * 7 + 2, none⟩ = some (.slice qa2 pl2.length qc2) := (hb.cell (p := ⟨b', _, none⟩) hbs').trans (by have q := hcl' 2 (by decide); simpa [Nat.add_assoc] using q)
      have d3 : wr.cell? ⟨b, off + k * 7 + 3, none⟩ = some (.slice pa3 pl3.length pc3) := (hb.cell (p := ⟨b, _, none⟩) hbs).trans (by have q := hcl 3 (by decide); simpa [Nat.add_assoc] using q)
      have d'3 : wr.cell? ⟨b', off' + k * 7 + 3, none⟩ = some (.slice qa3 pl3.length qc3) := (hb.cell (p := ⟨b', _, none⟩) hbs').trans (by have q := hcl' 3 (by decide); simpa [Nat.add_assoc] using q)
      have d4 : wr.cell? ⟨b, off + k * 7 + 4, none⟩ = some (.bool px4) := (hb.cell (p := ⟨b, _, none⟩) hbs).trans (by have q := hcl 4 (by decide); simpa [Nat.add_assoc] using q)
      have d'4 : wr.cell? ⟨b', off' + k * 7 + 4, none⟩ = some (.bool px4) := (hb.cell (p := ⟨b', _, none⟩) hbs').trans (by have q := hcl' 4 (by decide); simpa [Nat.add_assoc] using q)
      have d5 : wr.cell? ⟨b, off + k * 7 + 5, none⟩ = some (.slice pa5 pl5.length pc5) := (hb.cell (p := ⟨b, _, none⟩) hbs).trans (by have q := hcl 5 (by decide); simpa [Nat.add_assoc] using q)
      have d'5 : wr.cell? ⟨b', off' + k * 7 + 5, none⟩ = some (.slice qa5 pl5.length qc5) := (hb.cell (p := ⟨b', _, none⟩) hbs').trans (by have q := hcl' 5 (by decide); simpa [Nat.add_assoc] using q)
      have d6 : wr.cell? ⟨b, off + k * 7 + 6, none⟩ = some (.slice pa6 pl6.length pc6) := (hb.cell (p := ⟨b, _, none⟩) hbs).trans (by have q := hcl 6 (by decide); simpa [Nat.add_assoc] using q)
      have d'6 : wr.cell? ⟨b', off' + k * 7 + 6, none⟩ = some (.slice qa6 pl6.length qc6) := (hb.cell (p := ⟨b', _, none⟩) hbs').trans (by have q := hcl' 6 (by decide); simpa [Nat.add_assoc] using q)
      have H2 := Lib.hid (Rd.below hb _ _ _ pr2)
      have G2 := Lib.hid (Rd.below hb _ _ _ qr2)
      clear pr2 qr2
      have H3 := Lib.hid (Rd.below hb _ _ _ pr3)
      have G3 := Lib.hid (Rd.below hb _ _ _ qr3)
      clear pr3 qr3
      have H5 := Lib.hid (Rd.below hb _ _ _ pr5)
      have G5 := Lib.hid (Rd.below hb _ _ _ qr5)
      clear pr5 qr5
      have H6 := Lib.hid (Rd.below hb _ _ _ pr6)
      have G6 := Lib.hid (Rd.below hb _ _ _ qr6)
      clear pr6 qr6
      have HB := Lib.hid hb
      have T9 := hb.size
      clear hcl hcl' hb
      go_wp2
      go_region_held3 (fun w' => w'.cell? ⟨b, off + k * 7, none⟩ = some (.int .i64 px0) ∧ w'.cell? ⟨b, off + k * 7 + 1, none⟩ = some (.bool px1) ∧ w'.cell? ⟨b, off + k * 7 + 2, none⟩ = some (.slice pa2 pl2.length pc2) ∧ w'.cell? ⟨b, off + k * 7 + 3, none⟩ = some (.slice pa3 pl3.length pc3) ∧ w'.cell? ⟨b, off + k * 7 + 4, none⟩ = some (.bool px4) ∧ w'.cell? ⟨b, off + k * 7 + 5, none⟩ = some (.slice pa5 pl5.length pc5) ∧ w'.cell? ⟨b, off + k * 7 + 6, none⟩ = some (.slice pa6 pl6.length pc6) ∧ w'.cell? ⟨b', off' + k * 7, none⟩ = some (.int .i64 px0) ∧ w'.cell? ⟨b', off' + k * 7 + 1, none⟩ = some (.bool px1) ∧ w'.cell? ⟨b', off' + k * 7 + 2, none⟩ = some (.slice qa2 pl2.length qc2) ∧ w'.cell? ⟨b', off' + k * 7 + 3, none⟩ = some (.slice qa3 pl3.length qc3) ∧ w'.cell? ⟨b', off' + k * 7 + 4, none⟩ = some (.bool px4) ∧ w'.cell? ⟨b', off' + k * 7 + 5, none⟩ = some (.slice qa5 pl5.length qc5) ∧ w'.cell? ⟨b', off' + k * 7 + 6, none⟩ = some (.slice qa6 pl6.length qc6)) ((refine ⟨?_, ?_, ?_, ?_, ?_, ?_, ?_, ?_, ?_, ?_, ?_, ?_, ?_, ?_⟩ <;> go_simp))
        (((go_at_call 71); (refine (eqStep_c [.int px0, .bool px1, .sl pl2, .sl pl3, .bool px4, .sl pl5, .sl pl6] [.int .i64 px0, .bool px1, .slice pa2 pl2.length pc2, .slice pa3 pl3.length pc3, .bool px4, .slice pa5 pl5.length pc5, .slice pa6 pl6.length pc6] [.int .i64 px0, .bool px1, .slice qa2 pl2.length qc2, .slice qa3 pl3.length qc3, .bool px4, .slice qa5 pl5.length qc5, .slice qa6 pl6.length qc6] _ (RdRow.below (by (repeat (first | with_reducible exact Below.refl _ _ | with_reducible assumption | with_reducible refine Below.drew ?_ | with_reducible refine Below.setCell ?_ ?_ _ | with_reducible refine Below.alloc ?_ ?_ _)); all_goals first | (simp; done) | (simp; omega) | omega) _ _ _ (RdRow.mk_cons (Rd.mk_int px0) (RdRow.mk_cons (Rd.mk_bool px1) (RdRow.mk_cons H2.out (RdRow.mk_cons H3.out (RdRow.mk_cons (Rd.mk_bool px4) (RdRow.mk_cons H5.out (RdRow.mk_cons H6.out RdRow.mk_nil)))))))) (RdRow.below (by (repeat (first | with_reducible exact Below.refl _ _ | with_reducible assumption | with_reducible refine Below.drew ?_ | with_reducible refine Below.setCell ?_ ?_ _ | with_reducible refine Below.alloc ?_ ?_ _)); all_goals first | (simp; done) | (simp; omega) | omega) _ _ _ (RdRow.mk_cons (Rd.mk_int px0) (RdRow.mk_cons (Rd.mk_bool px1) (RdRow.mk_cons G2.out (RdRow.mk_cons G3.out (RdRow.mk_cons (Rd.mk_bool px4) (RdRow.mk_cons G5.out (RdRow.mk_cons G6.out RdRow.mk_nil))))))))).mono ?_); rintro e w1 ⟨rfl, hb1⟩; have B1 : Below w.heap.size w w1 := Below.trans (Below.drew HB.out) (hb1.mono T9); have HB1 := Lib.hid B1; obtain ⟨k1, f1⟩ := bcell hb1; (try simp at k1); (try simp at f1); have x1 : b < wr.heap.size := Nat.lt_of_lt_of_le hbs T9; have x2 : b' < wr.heap.size := Nat.lt_of_lt_of_le hbs' T9; clear B1 hb1))
      all_goals
        go_wp2
        go_roundw
        case rel => exact ⟨k + 1, by omega, by go_num, HB1.out⟩
        case measure => simp [intOf]; omega
    · have HB := Lib.hid hb
      clear hb
      go_wp2
      go_ret
      exact ⟨rfl, HB.out⟩

theorem elemStepS : ∃ bytes, bytes ≤ 1024 ∧ ElemT Try.prog 65 104 7 bytes := by
  cases hi : Try.prog.info? 104 with
  | none => exact absurd hi (by have : (Try.prog.info? 104).isSome = true := by kernel_rfl
                                intro h; rw [h] at this; cases this)
  | some i =>
    have h1 : (Try.prog.info? 104).map (fun i => i.zero) = some (some (.agg #[(.int .i64 0), (.bool false), (.slice none 0 0), (.slice none 0 0), (.bool false), (.slice none 0 0), (.slice none 0 0)])) := by kernel_rfl
    have h2 : (Try.prog.info? 104).map (fun i => i.size) = some 7 := by kernel_rfl
    have h3 : (Try.prog.info? 104).map (fun i => decide (i.bytes ≤ 1024)) = some true := by kernel_rfl
    rw [hi] at h1 h2 h3
    simp only [Option.map_some, Option.some.injEq, decide_eq_true_eq] at h1 h2 h3
    exact ⟨i.bytes, h3, Try.underlying65, ⟨i, _, hi, h1, h2, rfl, rfl⟩, by decide⟩
set_option maxRecDepth 100000 in
set_option maxHeartbeats 4000000 in
theorem toStepS_c (ls : List (List Dat)) (hsz : ls.length + szRows ls ≤ 1048576) (v : Value) (w : World) (h : Rd w (.sl 104 [.int, .bool, .sl 3 [.int], .sl 3 [.int], .bool, .sl 3 [.int], .sl 3 [.int]]) (.sl ls) v) :
    Calls Try.prog 24 #[v] w fun e w' => ∃ u : Value, e = .returned u ∧ Own w' w.heap.size w'.heap.size [.sl 104 [.int, .bool, .sl 3 [.int], .sl 3 [.int], .bool, .sl 3 [.int], .sl 3 [.int]]] [.sl ls] [u] ∧ Below w.heap.size w w' := by
  obtain ⟨a, cap, rfl, hl, hc, hcell⟩ := h.open
  have HC := Lib.hid hcell
  clear hcell h
  have hln : ls.length ≤ 1048576 := by omega
  have HZ := Lib.hid hsz
  clear hsz
  obtain ⟨bytes, hby0, hE⟩ := elemStepS
  obtain ⟨i, z, hi, hz, hs1, hby, hzc⟩ := hE.info
  obtain ⟨C, hCs, hmk⟩ : ∃ C : Array Value, C.size = ls.length * 7 ∧ ∀ W : World, (Instr.makeSlice 65 (.int .i64 (ls.length : Int)) (.int .i64 (ls.length : Int))).run Try.prog W = .ok (.slice (some ⟨W.heap.size, 0, none⟩) ls.length ls.length) (W.alloc (.cells C 104)) := by
    refine ⟨madeCells z.cells (ls.length * i.size), by rw [size_madeCells, hs1], fun W => ?_⟩
    have hbb : ls.length * i.bytes ≤ 1048576 * 1024 := Nat.mul_le_mul hln (by omega)
    have hbc := Nat.mul_comm ls.length i.bytes
    have := run_make (P := Try.prog) W 65 104 i z hE.slice hi hz .i64 .i64 ls.length ls.length (by omega) (Int.le_refl _) (by omega) (by omega)
    simpa using this
  have hown0 : (w.alloc (.cells C 104)).ownsRow w.heap.size 104 7 (.slice (some ⟨w.heap.size, 0, none⟩) ls.length ls.length) ls.length C.toList := World.ownsRow_lit w _ ls.length (Nat.le_refl _) (by unfold maxLen; omega) hCs
  have HO0 := Lib.hid (Part.zero (ts := [.int, .bool, .sl 3 [.int], .sl 3 [.int], .bool, .sl 3 [.int], .sl 3 [.int]]) (ls := ls) hown0)
  clear hown0 hi hz hs1 hby hzc hCs hE hby0
  go_enter Try.func24, Try.ntmps24
  go_wp2
  clear hmk
  go_loopw [4] (fun i wr => ∃ k : Nat, k ≤ ls.length ∧ i = .int .i64 k ∧ Part wr w.heap.size 104 [.int, .bool, .sl 3 [.int], .sl 3 [.int], .bool, .sl 3 [.int], .sl 3 [.int]] (.slice (some ⟨w.heap.size, 0, none⟩) ls.length ls.length) ls.length k ls ∧ Below w.heap.size w wr) (fun i _ => ls.length - (intOf i).toNat)
  case atStart => exact ⟨0, Nat.zero_le _, rfl, HO0.out, (Below.refl _ _).alloc (Nat.le_refl _) _⟩
  case round =>
    clear HO0
    obtain ⟨k, hk, rfl, hp, hb⟩ := hrel
    by_cases hlt : k < ls.length
    · obtain ⟨b, off, row, rfl, hbs, hcl, hrow⟩ := HC.out k hlt
      have hsn := szRows_getD hlt
      obtain ⟨ld, hld⟩ : ∃ ld, ls.getD k [] = ld := ⟨_, rfl⟩
      rw [hld] at hrow hsn
      obtain ⟨pd, pds, pv, pvs, rfl, rfl, ph, hrow_0⟩ := RdRow.cons_inv hrow
      obtain ⟨px0, rfl, rfl⟩ := Rd.int_inv ph
      obtain ⟨pd, pds, pv, pvs, rfl, rfl, ph, hrow_1⟩ := RdRow.cons_inv hrow_0
      obtain ⟨px1, rfl, rfl⟩ := Rd.bool_inv ph
      obtain ⟨pd, pds, pv, pvs, rfl, rfl, ph, hrow_2⟩ := RdRow.cons_inv hrow_1
      obtain ⟨pl2, pa2, pc2, rfl, rfl, pe2, pf2, pr2⟩ := Rd.sl_inv ph
      obtain ⟨pd, pds, pv, pvs, rfl, rfl, ph, hrow_3⟩ := RdRow.cons_inv hrow_2
      obtain ⟨pl3, pa3, pc3, rfl, rfl, pe3, pf3, pr3⟩ := Rd.sl_inv ph
      obtain ⟨pd, pds, pv, pvs, rfl, rfl, ph, hrow_4⟩ := RdRow.cons_inv hrow_3
      obtain ⟨px4, rfl, rfl⟩ := Rd.bool_inv ph
      obtain ⟨pd, pds, pv, pvs, rfl, rfl, ph, hrow_5⟩ := RdRow.cons_inv hrow_4
      obtain ⟨pl5, pa5, pc5, rfl, rfl, pe5, pf5, pr5⟩ := Rd.sl_inv ph
      obtain ⟨pd, pds, pv, pvs, rfl, rfl, ph, hrow_6⟩ := RdRow.cons_inv hrow_5
      obtain ⟨pl6, pa6, pc6, rfl, rfl, pe6, pf6, pr6⟩ := Rd.sl_inv ph
      obtain ⟨rfl, rfl⟩ := RdRow.nil_inv hrow_6
      have d0 : wr.cell? ⟨b, off + k * 7, none⟩ = some (.int .i64 px0) := (hb.cell (p := ⟨b, _, none⟩) hbs).trans (by have q := hcl 0 (by decide); simpa [Nat.add_assoc] using q)
      have d1 : wr.cell? ⟨b, off + k * 7 + 1, none⟩ = some (.bool px1) := (hb.cell (p := ⟨b, _, none⟩) hbs).trans (by have q := hcl 1 (by decide); simpa [Nat.add_assoc] using q)
      have d2 : wr.cell? ⟨b, off + k * 7 + 2, none⟩ = some (.slice pa2 pl2.length pc2) := (hb.cell (p := ⟨b, _, none⟩) hbs).trans (by have q := hcl 2 (by decide); simpa [Nat.add_assoc] using q)
      have d3 : wr.cell? ⟨b, off + k * 7 + 3, none⟩ = some (.slice pa3 pl3.length pc3) := (hb.cell (p := ⟨b, _, none⟩) hbs).trans (by have q := hcl 3 (by decide); simpa [Nat.add_assoc] using q)
      have d4 : wr.cell? ⟨b, off + k * 7 + 4, none⟩ = some (.bool px4) := (hb.cell (p := ⟨b, _, none⟩) hbs).trans (by have q := hcl 4 (by decide); simpa [Nat.add_assoc] using q)
      have d5 : wr.cell? ⟨b, off + k * 7 + 5, none⟩ = some (.slice pa5 pl5.length pc5) := (hb.cell (p := ⟨b, _, none⟩) hbs).trans (by have q := hcl 5 (by decide); simpa [Nat.add_assoc] using q)
      have d6 : wr.cell? ⟨b, off + k * 7 + 6, none⟩ = some (.slice pa6 pl6.length pc6) := (hb.cell (p := ⟨b, _, none⟩) hbs).trans (by have q := hcl 6 (by decide); simpa [Nat.add_assoc] using q)
      have H2 := Lib.hid (Rd.below hb _ _ _ pr2)
      clear pr2
      have H3 := Lib.hid (Rd.below hb _ _ _ pr3)
      clear pr3
      have H5 := Lib.hid (Rd.below hb _ _ _ pr5)
      clear pr5
      have H6 := Lib.hid (Rd.below hb _ _ _ pr6)
      clear pr6
      simp only [szRow, Dat.sz] at hsn
      have HSN := Lib.hid hsn
      have HLD := Lib.hid hld
      have HP := Lib.hid hp
      have HB := Lib.hid hb
      have T9 := hb.size
      have hgs : w.heap.size < wr.heap.size := by obtain ⟨xs, q⟩ := HP.out.owns; exact (World.ownsRow.lt q _ rfl).2
      clear hld hsn hcl hb hp
      go_wp2_with fail
      refine (toStep_c [.int px0, .bool px1, .sl pl2, .sl pl3, .bool px4, .sl pl5, .sl pl6] (by have a1 := HZ.out; have a2 := HSN.out; simp only [szRow, Dat.sz]; omega) [.int .i64 px0, .bool px1, .slice pa2 pl2.length pc2, .slice pa3 pl3.length pc3, .bool px4, .slice pa5 pl5.length pc5, .slice pa6 pl6.length pc6] _ (RdRow.below (by (repeat (first | with_reducible exact Below.refl _ _ | with_reducible assumption | with_reducible refine Below.drew ?_ | with_reducible refine Below.setCell ?_ ?_ _ | with_reducible refine Below.alloc ?_ ?_ _)); all_goals first | (simp; done) | (simp; omega) | omega) _ _ _ (RdRow.mk_cons (Rd.mk_int px0) (RdRow.mk_cons (Rd.mk_bool px1) (RdRow.mk_cons H2.out (RdRow.mk_cons H3.out (RdRow.mk_cons (Rd.mk_bool px4) (RdRow.mk_cons H5.out (RdRow.mk_cons H6.out RdRow.mk_nil))))))))).mono ?_
      rintro e w1 ⟨us, rfl, ho, h1⟩
      have B1 : Below wr.heap.size wr w1 := Below.trans (by (repeat (first | with_reducible exact Below.refl _ _ | with_reducible assumption | with_reducible refine Below.drew ?_ | with_reducible refine Below.setCell ?_ ?_ _ | with_reducible refine Below.alloc ?_ ?_ _)); all_goals first | (simp; done) | (simp; omega) | omega) (h1.mono (by first | (simp; done) | (simp; omega) | omega))
      have S1 := h1.size
      have T1 := B1.size
      try simp at S1
      obtain ⟨k1, f1⟩ := bcell h1
      try simp at k1
      try simp at f1
      have Hc1 := Lib.hid h1
      clear h1
      obtain ⟨ua2, uc2, ua3, uc3, ua5, uc5, ua6, uc6, rfl⟩ : ∃ ua2 uc2 ua3 uc3 ua5 uc5 ua6 uc6, us = [.int .i64 px0, .bool px1, .slice ua2 pl2.length uc2, .slice ua3 pl3.length uc3, .bool px4, .slice ua5 pl5.length uc5, .slice ua6 pl6.length uc6] := by
        have q := ho.rd
        obtain ⟨v0, q0, rfl, e0, q_0⟩ := RdRow.cons2 q
        obtain rfl := Rd.int2 e0
        obtain ⟨v1, q1, rfl, e1, q_1⟩ := RdRow.cons2 q_0
        obtain rfl := Rd.bool2 e1
        obtain ⟨v2, q2, rfl, e2, q_2⟩ := RdRow.cons2 q_1
        obtain ⟨a2, c2, rfl, -⟩ := Rd.sl2 e2
        obtain ⟨v3, q3, rfl, e3, q_3⟩ := RdRow.cons2 q_2
        obtain ⟨a3, c3, rfl, -⟩ := Rd.sl2 e3
        obtain ⟨v4, q4, rfl, e4, q_4⟩ := RdRow.cons2 q_3
        obtain rfl := Rd.bool2 e4
        obtain ⟨v5, q5, rfl, e5, q_5⟩ := RdRow.cons2 q_4
        obtain ⟨a5, c5, rfl, -⟩ := Rd.sl2 e5
        obtain ⟨v6, q6, rfl, e6, q_6⟩ := RdRow.cons2 q_5
        obtain ⟨a6, c6, rfl, -⟩ := Rd.sl2 e6
        obtain ⟨-, rfl⟩ := RdRow.nil_inv q_6
        exact ⟨a2, c2, a3, c3, a5, c5, a6, c6, rfl⟩
      have OW : Hid (Own w1 wr.heap.size w1.heap.size [.int, .bool, .sl 3 [.int], .sl 3 [.int], .bool, .sl 3 [.int], .sl 3 [.int]] [.int px0, .bool px1, .sl pl2, .sl pl3, .bool px4, .sl pl5, .sl pl6] [.int .i64 px0, .bool px1, .slice ua2 pl2.length uc2, .slice ua3 pl3.length uc3, .bool px4, .slice ua5 pl5.length uc5, .slice ua6 pl6.length uc6]) := ho
      clear ho
      have HB1 := Lib.hid (HB.out.trans (B1.mono T9))
      have HP1 := Lib.hid (Part.below HP.out B1)
      obtain ⟨xs, hxo⟩ := HP1.out.owns
      have HBB := Lib.hid B1
      clear k1 f1 B1
      obtain ⟨old0, hd0⟩ : ∃ u, w1.cell? ⟨w.heap.size, k * 7, none⟩ = some u := by
        rw [hxo.cellAt (k * 7) (by simp only [List.length_cons, List.length_nil]; omega)]
        exact ⟨_, List.getElem?_eq_getElem (by have := hxo.1; simp only [List.length_cons, List.length_nil] at this; omega)⟩
      have hf0 := hxo.frozenAt (k * 7)
      obtain ⟨old1, hd1⟩ : ∃ u, w1.cell? ⟨w.heap.size, k * 7 + 1, none⟩ = some u := by
        rw [hxo.cellAt (k * 7 + 1) (by simp only [List.length_cons, List.length_nil]; omega)]
        exact ⟨_, List.getElem?_eq_getElem (by have := hxo.1; simp only [List.length_cons, List.length_nil] at this; omega)⟩
      have hf1 := hxo.frozenAt (k * 7 + 1)
      obtain ⟨old2, hd2⟩ : ∃ u, w1.cell? ⟨w.heap.size, k * 7 + 2, none⟩ = some u := by
        rw [hxo.cellAt (k * 7 + 2) (by simp only [List.length_cons, List.length_nil]; omega)]
        exact ⟨_, List.getElem?_eq_getElem (by have := hxo.1; simp only [List.length_cons, List.length_nil] at this; omega)⟩
      have hf2 := hxo.frozenAt (k * 7 + 2)
      obtain ⟨old3, hd3⟩ : ∃ u, w1.cell? ⟨w.heap.size, k * 7 + 3, none⟩ = some u := by
        rw [hxo.cellAt (k * 7 + 3) (by simp only [List.length_cons, List.length_nil]; omega)]
        exact ⟨_, List.getElem?_eq_getElem (by have := hxo.1; simp only [List.length_cons, List.length_nil] at this; omega)⟩
      have hf3 := hxo.frozenAt (k * 7 + 3)
      obtain ⟨old4, hd4⟩ : ∃ u, w1.cell? ⟨w.heap.size, k * 7 + 4, none⟩ = some u := by
        rw [hxo.cellAt (k * 7 + 4) (by simp only [List.length_cons, List.length_nil]; omega)]
        exact ⟨_, List.getElem?_eq_getElem (by have := hxo.1; simp only [List.length_cons, List.length_nil] at this; omega)⟩
      have hf4 := hxo.frozenAt (k * 7 + 4)
      obtain ⟨old5, hd5⟩ : ∃ u, w1.cell? ⟨w.heap.size, k * 7 + 5, none⟩ = some u := by
        rw [hxo.cellAt (k * 7 + 5) (by simp only [List.length_cons, List.length_nil]; omega)]
        exact ⟨_, List.getElem?_eq_getElem (by have := hxo.1; simp only [List.length_cons, List.length_nil] at this; omega)⟩
      have hf5 := hxo.frozenAt (k * 7 + 5)
      obtain ⟨old6, hd6⟩ : ∃ u, w1.cell? ⟨w.heap.size, k * 7 + 6, none⟩ = some u := by
        rw [hxo.cellAt (k * 7 + 6) (by simp only [List.length_cons, List.length_nil]; omega)]
        exact ⟨_, List.getElem?_eq_getElem (by have := hxo.1; simp only [List.length_cons, List.length_nil] at this; omega)⟩
      have hf6 := hxo.frozenAt (k * 7 + 6)
      have ST := Part.step (cs := [.int .i64 px0, .bool px1, .slice ua2 pl2.length uc2, .slice ua3 pl3.length uc3, .bool px4, .slice ua5 pl5.length uc5, .slice ua6 pl6.length uc6]) HP.out (HBB.out) hlt (by rw [HLD.out]; exact OW.out) (by omega)
      have SB := (HB1.out).trans (OnlyIn.below (B := w.heap.size) (stN_only w.heap.size [.int .i64 px0, .bool px1, .slice ua2 pl2.length uc2, .slice ua3 pl3.length uc3, .bool px4, .slice ua5 pl5.length uc5, .slice ua6 pl6.length uc6] w1 (k * 7)) (fun b hb => by subst hb; exact Nat.le_refl _) (by omega))
      simp only [stN, List.length_cons, List.length_nil, Nat.reduceAdd] at ST
      simp only [stN] at SB
      have HST := Lib.hid ST
      have HSB := Lib.hid SB
      clear ST SB hxo
      go_wp2
      go_roundw
      case rel => exact ⟨k + 1, by omega, by go_num, HST.out, HSB.out⟩
      case measure => simp [intOf]; omega
    · have hke : k = ls.length := by omega
      have HF := Lib.hid (Part.done hp hke)
      have HB := Lib.hid hb
      clear hp hb hke
      go_wp2
      go_ret
      exact ⟨_, rfl, HF.out, HB.out⟩

set_option maxRecDepth 100000 in
set_option maxHeartbeats 4000000 in
theorem markStepS_c (ls : List (List Dat)) (k : Int) (hk0 : 0 ≤ k) (hk1 : k + (cntRows ls : Int) ≤ 4611686018427387904) (bs : List Nat) (hn : bs.Nodup) (v : Value) (w : World) (h : Fp w (.sl 104 [.int, .bool, .sl 3 [.int], .sl 3 [.int], .bool, .sl 3 [.int], .sl 3 [.int]]) (.sl ls) v bs) :
    Calls Try.prog 29 #[v, .int .i64 k] w fun e w' => e = .returned (.int .i64 (k + (cntRows ls : Int))) ∧ Fp w' (.sl 104 [.int, .bool, .sl 3 [.int], .sl 3 [.int], .bool, .sl 3 [.int], .sl 3 [.int]]) (.sl (mkRows k ls)) v bs ∧ OnlyIn (fun b => b ∈ bs) w w' := by
  obtain ⟨a, cap, rfl, hl, hc, -⟩ := (Fp.rd _ _ _ _ h).open
  have H := Lib.hid h
  have HN := Lib.hid hn
  have hnil : ∀ b off, a = some ⟨b, off, none⟩ → off = 0 := fun b off ha => by
    simp only [Fp] at h
    obtain ⟨rows, bss, ⟨_, h1⟩, _⟩ := h
    rcases h1 with ⟨h1, _⟩ | ⟨g, _, _, h1, _⟩
    · simp [ha] at h1
    · simp [ha] at h1; exact h1.1.2
  have HNL := Lib.hid hnil
  have HA : Hid (∀ j, j < ls.length → ∃ g, a = some ⟨g, 0, none⟩ ∧ g ∈ bs) := fun j hj => by
    obtain ⟨a', cap', e', _, _, q⟩ := (Fp.rd _ _ _ _ h).open
    simp only [Value.slice.injEq] at e'
    obtain ⟨b, off, row, h1, h2, h3, h4⟩ := q j hj
    rw [← e'.1] at h1
    obtain rfl := HNL.out b off h1
    exact ⟨b, h1, by simp only [Fp] at h; obtain ⟨_, _, _, _, _, _, _, rfl⟩ := h; simp [Value.ownBlock, h1]⟩
  clear h hn hnil
  have hk2 : k ≤ 4611686018427387904 := by omega
  have HK := Lib.hid hk1
  clear hk1
  go_enter Try.func29, Try.ntmps29
  go_wp2
  go_loopw [1, 5] (fun c i wr => ∃ (j : Nat) (m : Int), j ≤ ls.length ∧ i = .int .i64 j ∧ c = .int .i64 m ∧ m = k + (cntRows (ls.take j) : Int) ∧ Fp wr (.sl 104 [.int, .bool, .sl 3 [.int], .sl 3 [.int], .bool, .sl 3 [.int], .sl 3 [.int]]) (.sl (marked k j ls)) (.slice a ls.length cap) bs ∧ OnlyIn (fun b => b ∈ bs) w wr) (fun _ i _ => ls.length - (intOf i).toNat)
  case atStart => exact ⟨0, _, Nat.zero_le _, rfl, rfl, by simp [cntRows], by rw [marked_zero]; exact H.out, OnlyIn.refl _ _⟩
  case round =>
    obtain ⟨j, m, hj, rfl, rfl, hm, hfp, hon⟩ := hrel
    by_cases hlt : j < ls.length
    · obtain ⟨g, rfl, hgb⟩ := HA.out j hlt
      have hml : j < (marked k j ls).length := by rw [marked_length]; exact hlt
      have hms := marked_succ k j ls hlt
      have hmg := marked_getD k j ls hlt
      have hct := cntRows_take ls j hlt
      have hcl := cntRows_take_le ls (j + 1)
      rw [← hm] at hms
      obtain ⟨row, bj, hcell, hfz, hrow, -, -, -, -, -⟩ := Fp.row hfp HN.out hml
      rw [hmg] at hrow
      have hrd := FpRow.rd _ _ _ _ hrow
      have hself : (marked k j ls).set j (ls.getD j []) = marked k j ls := by rw [← hmg]; exact set_getD_self
      rw [← hself] at hfp
      clear hrow hself hmg
      obtain ⟨ld, hld⟩ : ∃ ld, ls.getD j [] = ld := ⟨_, rfl⟩
      rw [hld] at hrd hms hct hfp
      clear hld
      obtain ⟨pd, pds, pv, pvs, rfl, rfl, ph, hrd_0⟩ := RdRow.cons_inv hrd
      obtain ⟨px0, rfl, rfl⟩ := Rd.int_inv ph
      obtain ⟨pd, pds, pv, pvs, rfl, rfl, ph, hrd_1⟩ := RdRow.cons_inv hrd_0
      obtain ⟨px1, rfl, rfl⟩ := Rd.bool_inv ph
      obtain ⟨pd, pds, pv, pvs, rfl, rfl, ph, hrd_2⟩ := RdRow.cons_inv hrd_1
      obtain ⟨pl2, pa2, pc2, rfl, rfl, pe2, pf2, pr2⟩ := Rd.sl_inv ph
      obtain ⟨pd, pds, pv, pvs, rfl, rfl, ph, hrd_3⟩ := RdRow.cons_inv hrd_2
      obtain ⟨pl3, pa3, pc3, rfl, rfl, pe3, pf3, pr3⟩ := Rd.sl_inv ph
      obtain ⟨pd, pds, pv, pvs, rfl, rfl, ph, hrd_4⟩ := RdRow.cons_inv hrd_3
      obtain ⟨px4, rfl, rfl⟩ := Rd.bool_inv ph
      obtain ⟨pd, pds, pv, pvs, rfl, rfl, ph, hrd_5⟩ := RdRow.cons_inv hrd_4
      obtain ⟨pl5, pa5, pc5, rfl, rfl, pe5, pf5, pr5⟩ := Rd.sl_inv ph
      obtain ⟨pd, pds, pv, pvs, rfl, rfl, ph, hrd_6⟩ := RdRow.cons_inv hrd_5
      obtain ⟨pl6, pa6, pc6, rfl, rfl, pe6, pf6, pr6⟩ := Rd.sl_inv ph
      obtain ⟨rfl, rfl⟩ := RdRow.nil_inv hrd_6
      obtain ⟨M, hM⟩ : ∃ M, marked k j ls = M := ⟨_, rfl⟩
      rw [hM] at hms hml hfp
      clear hM
      have d0 : wr.cell? ⟨g, j * 7, none⟩ = some (.int .i64 px0) := by have q := hcell 0 (by decide); simpa using q
      have f0 := hfz (j * 7)
      have d1 : wr.cell? ⟨g, j * 7 + 1, none⟩ = some (.bool px1) := by have q := hcell 1 (by decide); simpa using q
      have f1 := hfz (j * 7 + 1)
      have d2 : wr.cell? ⟨g, j * 7 + 2, none⟩ = some (.slice pa2 pl2.length pc2) := by have q := hcell 2 (by decide); simpa using q
      have f2 := hfz (j * 7 + 2)
      have d3 : wr.cell? ⟨g, j * 7 + 3, none⟩ = some (.slice pa3 pl3.length pc3) := by have q := hcell 3 (by decide); simpa using q
      have f3 := hfz (j * 7 + 3)
      have d4 : wr.cell? ⟨g, j * 7 + 4, none⟩ = some (.bool px4) := by have q := hcell 4 (by decide); simpa using q
      have f4 := hfz (j * 7 + 4)
      have d5 : wr.cell? ⟨g, j * 7 + 5, none⟩ = some (.slice pa5 pl5.length pc5) := by have q := hcell 5 (by decide); simpa using q
      have f5 := hfz (j * 7 + 5)
      have d6 : wr.cell? ⟨g, j * 7 + 6, none⟩ = some (.slice pa6 pl6.length pc6) := by have q := hcell 6 (by decide); simpa using q
      have f6 := hfz (j * 7 + 6)
      clear pr2
      clear pr3
      clear pr5
      clear pr6
      have hmk : mkRow m [.int px0, .bool px1, .sl pl2, .sl pl3, .bool px4, .sl pl5, .sl pl6] = [.int (m), .bool ((m + 1) % 3 == 0), .sl (mkRows (m + 1 + 1) pl2), .sl (mkRows (m + 1 + 1 + (cntRows pl2 : Int)) pl3), .bool ((m + 1 + 1 + (cntRows pl2 : Int) + (cntRows pl3 : Int)) % 3 == 0), .sl (mkRows (m + 1 + 1 + (cntRows pl2 : Int) + (cntRows pl3 : Int) + 1) pl5), .sl (mkRows (m + 1 + 1 + (cntRows pl2 : Int) + (cntRows pl3 : Int) + 1 + (cntRows pl5 : Int)) pl6)] := by first | (simp [mkRow, Dat.mk', Dat.cnt]; done) | (simp [mkRow, Dat.mk', Dat.cnt]; (repeat apply And.intro) <;> rfl)
      rw [hmk] at hms
      clear hmk
      have hfin : m + 1 + 1 + (cntRows pl2 : Int) + (cntRows pl3 : Int) + 1 + (cntRows pl5 : Int) + (cntRows pl6 : Int) = k + (cntRows (ls.take (j + 1)) : Int) := by rw [hct, hm]; simp only [cntRow, Dat.cnt]; omega
      have hbd : m + 1 + 1 + (cntRows pl2 : Int) + (cntRows pl3 : Int) + 1 + (cntRows pl5 : Int) + (cntRows pl6 : Int) ≤ 4611686018427387904 := by have := HK.out; omega
      have hm0 : 0 ≤ m := by omega
      have y1 : 0 ≤ m + 1 ∧ m + 1 ≤ 4611686018427387904 := ⟨by omega, by omega⟩
      have y2 : 0 ≤ m + 1 + 1 ∧ m + 1 + 1 ≤ 4611686018427387904 := ⟨by omega, by omega⟩
      have y3 : 0 ≤ m + 1 + 1 + (cntRows pl2 : Int) ∧ m + 1 + 1 + (cntRows pl2 : Int) ≤ 4611686018427387904 := ⟨by omega, by omega⟩
      have y4 : 0 ≤ m + 1 + 1 + (cntRows pl2 : Int) + (cntRows pl3 : Int) ∧ m + 1 + 1 + (cntRows pl2 : Int) + (cntRows pl3 : Int) ≤ 4611686018427387904 := ⟨by omega, by omega⟩
      have y5 : 0 ≤ m + 1 + 1 + (cntRows pl2 : Int) + (cntRows pl3 : Int) + 1 ∧ m + 1 + 1 + (cntRows pl2 : Int) + (cntRows pl3 : Int) + 1 ≤ 4611686018427387904 := ⟨by omega, by omega⟩
      have y6 : 0 ≤ m + 1 + 1 + (cntRows pl2 : Int) + (cntRows pl3 : Int) + 1 + (cntRows pl5 : Int) ∧ m + 1 + 1 + (cntRows pl2 : Int) + (cntRows pl3 : Int) + 1 + (cntRows pl5 : Int) ≤ 4611686018427387904 := ⟨by omega, by omega⟩
      have y7 : 0 ≤ m + 1 + 1 + (cntRows pl2 : Int) + (cntRows pl3 : Int) + 1 + (cntRows pl5 : Int) + (cntRows pl6 : Int) ∧ m + 1 + 1 + (cntRows pl2 : Int) + (cntRows pl3 : Int) + 1 + (cntRows pl5 : Int) + (cntRows pl6 : Int) ≤ 4611686018427387904 := ⟨by omega, by omega⟩
      obtain ⟨y1a, y1b⟩ := y1
      obtain ⟨y2a, y2b⟩ := y2
      obtain ⟨y3a, y3b⟩ := y3
      obtain ⟨y4a, y4b⟩ := y4
      obtain ⟨y5a, y5b⟩ := y5
      obtain ⟨y6a, y6b⟩ := y6
      obtain ⟨y7a, y7b⟩ := y7
      have HMS := Lib.hid hms
      have HF := Lib.hid hfin
      have HM0 := Lib.hid hm
      have HON := Lib.hid hon
      have HG := Lib.hid hgb
      clear hms hfin hct hcl hm hon hgb hfz hcell
      have F := Lib.hid hfp
      have HL := Lib.hid hml
      clear hfp hml
      have F0_ : Hid (Fp (wr.setCell ⟨g, j * 7, none⟩ (.int .i64 (m))) (.sl 104 [.int, .bool, .sl 3 [.int], .sl 3 [.int], .bool, .sl 3 [.int], .sl 3 [.int]]) (.sl (M.set j [.int (m), .bool px1, .sl pl2, .sl pl3, .bool px4, .sl pl5, .sl pl6])) (.slice (some ⟨g, 0, none⟩) ls.length cap) bs) := by
        have q := Fp.leafAt F.out HN.out HL.out 0 (by decide) rfl (.int (m)) (.int .i64 (m)) (fun _ => Fp.mk_int _)
        exact q
      have N0_ : Hid (OnlyIn (fun b => b ∈ bs) w (wr.setCell ⟨g, j * 7, none⟩ (.int .i64 (m)))) := HON.out.setCell HG.out _
      have F1_ : Hid (Fp ((wr.setCell ⟨g, j * 7, none⟩ (.int .i64 (m))).setCell ⟨g, j * 7 + 1, none⟩ (.bool ((m + 1) % 3 == 0))) (.sl 104 [.int, .bool, .sl 3 [.int], .sl 3 [.int], .bool, .sl 3 [.int], .sl 3 [.int]]) (.sl (M.set j [.int (m), .bool ((m + 1) % 3 == 0), .sl pl2, .sl pl3, .bool px4, .sl pl5, .sl pl6])) (.slice (some ⟨g, 0, none⟩) ls.length cap) bs) := by
        have q := Fp.leafAt F0_.out HN.out HL.out 1 (by decide) rfl (.bool ((m + 1) % 3 == 0)) (.bool ((m + 1) % 3 == 0)) (fun _ => Fp.mk_bool _)
        exact q
      have N1_ : Hid (OnlyIn (fun b => b ∈ bs) w ((wr.setCell ⟨g, j * 7, none⟩ (.int .i64 (m))).setCell ⟨g, j * 7 + 1, none⟩ (.bool ((m + 1) % 3 == 0)))) := N0_.out.setCell HG.out _
      obtain ⟨c2, b2, e2, p2, o2, s2, q2⟩ := Fp.nestedAt (ts := [.int, .bool, .sl 3 [.int], .sl 3 [.int], .bool, .sl 3 [.int], .sl 3 [.int]]) [.int, .bool] (.sl 3 [.int]) [.sl 3 [.int], .bool, .sl 3 [.int], .sl 3 [.int]] [.int (m), .bool ((m + 1) % 3 == 0)] (.sl pl2) [.sl pl3, .bool px4, .sl pl5, .sl pl6] F1_.out HN.out HL.out rfl rfl
      obtain rfl : c2 = .slice pa2 pl2.length pc2 := by
        have z : ((wr.setCell ⟨g, j * 7, none⟩ (.int .i64 (m))).setCell ⟨g, j * 7 + 1, none⟩ (.bool ((m + 1) % 3 == 0))).cell? ⟨g, j * 7 + 2, none⟩ = some (.slice pa2 pl2.length pc2) := by go_simp
        have z2 : ((wr.setCell ⟨g, j * 7, none⟩ (.int .i64 (m))).setCell ⟨g, j * 7 + 1, none⟩ (.bool ((m + 1) % 3 == 0))).cell? ⟨g, j * 7 + 2, none⟩ = some c2 := by simpa using e2
        rw [z] at z2; exact (Option.some.inj z2).symm
      have P2_ := Lib.hid (And.intro p2 (And.intro o2 (And.intro s2 q2)))
      clear e2 p2 o2 s2 q2
      go_wp2_with fail
      refine (markIntS_c pl2 (m + 1 + 1) (by omega) (by omega) b2 P2_.out.2.1 _ _ P2_.out.1).mono ?_
      rintro e w1 ⟨rfl, hf, ho⟩
      have F2_ : Hid (Fp w1 (.sl 104 [.int, .bool, .sl 3 [.int], .sl 3 [.int], .bool, .sl 3 [.int], .sl 3 [.int]]) (.sl (M.set j [.int (m), .bool ((m + 1) % 3 == 0), .sl (mkRows (m + 1 + 1) pl2), .sl pl3, .bool px4, .sl pl5, .sl pl6])) (.slice (some ⟨g, 0, none⟩) ls.length cap) bs) := P2_.out.2.2.2 w1 (.sl (mkRows (m + 1 + 1) pl2)) ho hf
      have N2_ : Hid (OnlyIn (fun b => b ∈ bs) w w1) := N1_.out.trans (ho.mono (fun b hb => P2_.out.2.2.1 b hb))
      obtain ⟨row2, bj2, hcell, hfz, hrow, -, -, -, -, -⟩ := Fp.row F2_.out HN.out (j := j) (by have := HL.out; simpa using this)
      rw [getD_set_self HL.out] at hrow
      have hrd := FpRow.rd _ _ _ _ hrow
      clear hf ho hrow hrd
      have fz2 := Lib.hid hfz
      clear hfz
      have dd3 := hcell 3 (by decide)
      obtain ⟨z2_3, d3⟩ : ∃ c, w1.cell? ⟨g, j * 7 + 3, none⟩ = some c := ⟨_, by simpa using dd3⟩
      have f3 := fz2.out (j * 7 + 3)
      clear dd3
      have dd4 := hcell 4 (by decide)
      obtain ⟨z2_4, d4⟩ : ∃ c, w1.cell? ⟨g, j * 7 + 4, none⟩ = some c := ⟨_, by simpa using dd4⟩
      have f4 := fz2.out (j * 7 + 4)
      clear dd4
      have dd5 := hcell 5 (by decide)
      obtain ⟨z2_5, d5⟩ : ∃ c, w1.cell? ⟨g, j * 7 + 5, none⟩ = some c := ⟨_, by simpa using dd5⟩
      have f5 := fz2.out (j * 7 + 5)
      clear dd5
      have dd6 := hcell 6 (by decide)
      obtain ⟨z2_6, d6⟩ : ∃ c, w1.cell? ⟨g, j * 7 + 6, none⟩ = some c := ⟨_, by simpa using dd6⟩
      have f6 := fz2.out (j * 7 + 6)
      clear dd6
      clear hcell
      obtain ⟨c3, b3, e3, p3, o3, s3, q3⟩ := Fp.nestedAt (ts := [.int, .bool, .sl 3 [.int], .sl 3 [.int], .bool, .sl 3 [.int], .sl 3 [.int]]) [.int, .bool, .sl 3 [.int]] (.sl 3 [.int]) [.bool, .sl 3 [.int], .sl 3 [.int]] [.int (m), .bool ((m + 1) % 3 == 0), .sl (mkRows (m + 1 + 1) pl2)] (.sl pl3) [.bool px4, .sl pl5, .sl pl6] F2_.out HN.out HL.out rfl rfl
      obtain rfl : c3 = z2_3 := by
        have z : w1.cell? ⟨g, j * 7 + 3, none⟩ = some (z2_3) := by go_simp
        have z2 : w1.cell? ⟨g, j * 7 + 3, none⟩ = some c3 := by simpa using e3
        rw [z] at z2; exact (Option.some.inj z2).symm
      have P3_ := Lib.hid (And.intro p3 (And.intro o3 (And.intro s3 q3)))
      clear e3 p3 o3 s3 q3
      go_wp2_with fail
      refine (markIntS_c pl3 (m + 1 + 1 + (cntRows pl2 : Int)) (by omega) (by omega) b3 P3_.out.2.1 _ _ P3_.out.1).mono ?_
      rintro e w2 ⟨rfl, hf, ho⟩
      have F3_ : Hid (Fp w2 (.sl 104 [.int, .bool, .sl 3 [.int], .sl 3 [.int], .bool, .sl 3 [.int], .sl 3 [.int]]) (.sl (M.set j [.int (m), .bool ((m + 1) % 3 == 0), .sl (mkRows (m + 1 + 1) pl2), .sl (mkRows (m + 1 + 1 + (cntRows pl2 : Int)) pl3), .bool px4, .sl pl5, .sl pl6])) (.slice (some ⟨g, 0, none⟩) ls.length cap) bs) := P3_.out.2.2.2 w2 (.sl (mkRows (m + 1 + 1 + (cntRows pl2 : Int)) pl3)) ho hf
      have N3_ : Hid (OnlyIn (fun b => b ∈ bs) w w2) := N2_.out.trans (ho.mono (fun b hb => P3_.out.2.2.1 b hb))
      obtain ⟨row3, bj3, hcell, hfz, hrow, -, -, -, -, -⟩ := Fp.row F3_.out HN.out (j := j) (by have := HL.out; simpa using this)
      rw [getD_set_self HL.out] at hrow
      have hrd := FpRow.rd _ _ _ _ hrow
      clear hf ho hrow hrd
      have fz3 := Lib.hid hfz
      clear hfz
      have dd4 := hcell 4 (by decide)
      obtain ⟨z3_4, d4⟩ : ∃ c, w2.cell? ⟨g, j * 7 + 4, none⟩ = some c := ⟨_, by simpa using dd4⟩
      have f4 := fz3.out (j * 7 + 4)
      clear dd4
      have dd5 := hcell 5 (by decide)
      obtain ⟨z3_5, d5⟩ : ∃ c, w2.cell? ⟨g, j * 7 + 5, none⟩ = some c := ⟨_, by simpa using dd5⟩
      have f5 := fz3.out (j * 7 + 5)
      clear dd5
      have dd6 := hcell 6 (by decide)
      obtain ⟨z3_6, d6⟩ : ∃ c, w2.cell? ⟨g, j * 7 + 6, none⟩ = some c := ⟨_, by simpa using dd6⟩
      have f6 := fz3.out (j * 7 + 6)
      clear dd6
      clear hcell
      have F4_ : Hid (Fp (w2.setCell ⟨g, j * 7 + 4, none⟩ (.bool ((m + 1 + 1 + (cntRows pl2 : Int) + (cntRows pl3 : Int)) % 3 == 0))) (.sl 104 [.int, .bool, .sl 3 [.int], .sl 3 [.int], .bool, .sl 3 [.int], .sl 3 [.int]]) (.sl (M.set j [.int (m), .bool ((m + 1) % 3 == 0), .sl (mkRows (m + 1 + 1) pl2), .sl (mkRows (m + 1 + 1 + (cntRows pl2 : Int)) pl3), .bool ((m + 1 + 1 + (cntRows pl2 : Int) + (cntRows pl3 : Int)) % 3 == 0), .sl pl5, .sl pl6])) (.slice (some ⟨g, 0, none⟩) ls.length cap) bs) := by
        have q := Fp.leafAt F3_.out HN.out HL.out 4 (by decide) rfl (.bool ((m + 1 + 1 + (cntRows pl2 : Int) + (cntRows pl3 : Int)) % 3 == 0)) (.bool ((m + 1 + 1 + (cntRows pl2 : Int) + (cntRows pl3 : Int)) % 3 == 0)) (fun _ => Fp.mk_bool _)
        exact q
      have N4_ : Hid (OnlyIn (fun b => b ∈ bs) w (w2.setCell ⟨g, j * 7 + 4, none⟩ (.bool ((m + 1 + 1 + (cntRows pl2 : Int) + (cntRows pl3 : Int)) % 3 == 0)))) := N3_.out.setCell HG.out _
      obtain ⟨c5, b5, e5, p5, o5, s5, q5⟩ := Fp.nestedAt (ts := [.int, .bool, .sl 3 [.int], .sl 3 [.int], .bool, .sl 3 [.int], .sl 3 [.int]]) [.int, .bool, .sl 3 [.int], .sl 3 [.int], .bool] (.sl 3 [.int]) [.sl 3 [.int]] [.int (m), .bool ((m + 1) % 3 == 0), .sl (mkRows (m + 1 + 1) pl2), .sl (mkRows (m + 1 + 1 + (cntRows pl2 : Int)) pl3), .bool ((m + 1 + 1 + (cntRows pl2 : Int) + (cntRows pl3 : Int)) % 3 == 0)] (.sl pl5) [.sl pl6] F4_.out HN.out HL.out rfl rfl
      obtain rfl : c5 = z3_5 := by
        have z : (w2.setCell ⟨g, j * 7 + 4, none⟩ (.bool ((m + 1 + 1 + (cntRows pl2 : Int) + (cntRows pl3 : Int)) % 3 == 0))).cell? ⟨g, j * 7 + 5, none⟩ = some (z3_5) := by go_simp
        have z2 : (w2.setCell ⟨g, j * 7 + 4, none⟩ (.bool ((m + 1 + 1 + (cntRows pl2 : Int) + (cntRows pl3 : Int)) % 3 == 0))).cell? ⟨g, j * 7 + 5, none⟩ = some c5 := by simpa using e5
        rw [z] at z2; exact (Option.some.inj z2).symm
      have P5_ := Lib.hid (And.intro p5 (And.intro o5 (And.intro s5 q5)))
      clear e5 p5 o5 s5 q5
      go_wp2_with fail
      refine (markIntS_c pl5 (m + 1 + 1 + (cntRows pl2 : Int) + (cntRows pl3 : Int) + 1) (by omega) (by omega) b5 P5_.out.2.1 _ _ P5_.out.1).mono ?_
      rintro e w3 ⟨rfl, hf, ho⟩
      have F5_ : Hid (Fp w3 (.sl 104 [.int, .bool, .sl 3 [.int], .sl 3 [.int], .bool, .sl 3 [.int], .sl 3 [.int]]) (.sl (M.set j [.int (m), .bool ((m + 1) % 3 == 0), .sl (mkRows (m + 1 + 1) pl2), .sl (mkRows (m + 1 + 1 + (cntRows pl2 : Int)) pl3), .bool ((m + 1 + 1 + (cntRows pl2 : Int) + (cntRows pl3 : Int)) % 3 == 0), .sl (mkRows (m + 1 + 1 + (cntRows pl2 : Int) + (cntRows pl3 : Int) + 1) pl5), .sl pl6])) (.slice (some ⟨g, 0, none⟩) ls.length cap) bs) := P5_.out.2.2.2 w3 (.sl (mkRows (m + 1 + 1 + (cntRows pl2 : Int) + (cntRows pl3 : Int) + 1) pl5)) ho hf
      have N5_ : Hid (OnlyIn (fun b => b ∈ bs) w w3) := N4_.out.trans (ho.mono (fun b hb => P5_.out.2.2.1 b hb))
      obtain ⟨row5, bj5, hcell, hfz, hrow, -, -, -, -, -⟩ := Fp.row F5_.out HN.out (j := j) (by have := HL.out; simpa using this)
      rw [getD_set_self HL.out] at hrow
      have hrd := FpRow.rd _ _ _ _ hrow
      clear hf ho hrow hrd
      have fz5 := Lib.hid hfz
      clear hfz
      have dd6 := hcell 6 (by decide)
      obtain ⟨z5_6, d6⟩ : ∃ c, w3.cell? ⟨g, j * 7 + 6, none⟩ = some c := ⟨_, by simpa using dd6⟩
      have f6 := fz5.out (j * 7 + 6)
      clear dd6
      clear hcell
      obtain ⟨c6, b6, e6, p6, o6, s6, q6⟩ := Fp.nestedAt (ts := [.int, .bool, .sl 3 [.int], .sl 3 [.int], .bool, .sl 3 [.int], .sl 3 [.int]]) [.int, .bool, .sl 3 [.int], .sl 3 [.int], .bool, .sl 3 [.int]] (.sl 3 [.int]) [] [.int (m), .bool ((m + 1) % 3 == 0), .sl (mkRows (m + 1 + 1) pl2), .sl (mkRows (m + 1 + 1 + (cntRows pl2 : Int)) pl3), .bool ((m + 1 + 1 + (cntRows pl2 : Int) + (cntRows pl3 : Int)) % 3 == 0), .sl (mkRows (m + 1 + 1 + (cntRows pl2 : Int) + (cntRows pl3 : Int) + 1) pl5)] (.sl pl6) [] F5_.out HN.out HL.out rfl rfl
      obtain rfl : c6 = z5_6 := by
        have z : w3.cell? ⟨g, j * 7 + 6, none⟩ = some (z5_6) := by go_simp
        have z2 : w3.cell? ⟨g, j * 7 + 6, none⟩ = some c6 := by simpa using e6
        rw [z] at z2; exact (Option.some.inj z2).symm
      have P6_ := Lib.hid (And.intro p6 (And.intro o6 (And.intro s6 q6)))
      clear e6 p6 o6 s6 q6
      go_wp2_with fail
      refine (markIntS_c pl6 (m + 1 + 1 + (cntRows pl2 : Int) + (cntRows pl3 : Int) + 1 + (cntRows pl5 : Int)) (by omega) (by omega) b6 P6_.out.2.1 _ _ P6_.out.1).mono ?_
      rintro e w4 ⟨rfl, hf, ho⟩
      have F6_ : Hid (Fp w4 (.sl 104 [.int, .bool, .sl 3 [.int], .sl 3 [.int], .bool, .sl 3 [.int], .sl 3 [.int]]) (.sl (M.set j [.int (m), .bool ((m + 1) % 3 == 0), .sl (mkRows (m + 1 + 1) pl2), .sl (mkRows (m + 1 + 1 + (cntRows pl2 : Int)) pl3), .bool ((m + 1 + 1 + (cntRows pl2 : Int) + (cntRows pl3 : Int)) % 3 == 0), .sl (mkRows (m + 1 + 1 + (cntRows pl2 : Int) + (cntRows pl3 : Int) + 1) pl5), .sl (mkRows (m + 1 + 1 + (cntRows pl2 : Int) + (cntRows pl3 : Int) + 1 + (cntRows pl5 : Int)) pl6)])) (.slice (some ⟨g, 0, none⟩) ls.length cap) bs) := P6_.out.2.2.2 w4 (.sl (mkRows (m + 1 + 1 + (cntRows pl2 : Int) + (cntRows pl3 : Int) + 1 + (cntRows pl5 : Int)) pl6)) ho hf
      have N6_ : Hid (OnlyIn (fun b => b ∈ bs) w w4) := N5_.out.trans (ho.mono (fun b hb => P6_.out.2.2.1 b hb))
      obtain ⟨row6, bj6, hcell, hfz, hrow, -, -, -, -, -⟩ := Fp.row F6_.out HN.out (j := j) (by have := HL.out; simpa using this)
      rw [getD_set_self HL.out] at hrow
      have hrd := FpRow.rd _ _ _ _ hrow
      clear hf ho hrow hrd
      clear hcell hfz
      go_wp2
      go_roundw
      case rel => exact ⟨j + 1, _, by omega, by go_num, rfl, HF.out, by rw [HMS.out]; exact F6_.out, N6_.out⟩
      case measure => simp [intOf]; omega
    · have hke : j = ls.length := by omega
      have HF : Hid (Fp wr (.sl 104 [.int, .bool, .sl 3 [.int], .sl 3 [.int], .bool, .sl 3 [.int], .sl 3 [.int]]) (.sl (mkRows k ls)) (.slice a ls.length cap) bs) := by rw [hke, marked_all] at hfp; exact hfp
      have HM : Hid (m = k + (cntRows ls : Int)) := by rw [hke, List.take_length] at hm; exact hm
      have HON := Lib.hid hon
      clear hfp hm hon hke
      go_wp2
      go_ret
      exact ⟨ret_int HM.out, HF.out, HON.out⟩

set_option maxRecDepth 100000 in
set_option maxHeartbeats 4000000 in
theorem heldStepS_c (ls : List (List Dat)) (k : Int) (hk0 : 0 ≤ k) (hk1 : k + (cntRows ls : Int) ≤ 4611686018427387904) (w0 : World) (v0 : Value) (h0 : Rd w0 (.sl 104 [.int, .bool, .sl 3 [.int], .sl 3 [.int], .bool, .sl 3 [.int], .sl 3 [.int]]) (.sl ls) v0) (v : Value) (w : World) (h : Rd w (.sl 104 [.int, .bool, .sl 3 [.int], .sl 3 [.int], .bool, .sl 3 [.int], .sl 3 [.int]]) (.sl (mkRows k ls)) v) :
    Calls Try.prog 40 #[v, .int .i64 k] w fun e w' => e = .returned (.int .i64 (k + (cntRows ls : Int))) ∧ Below w.heap.size w w' := by
  obtain ⟨a, cap, rfl, hl, hc, hcell⟩ := h.open
  rw [mkRows_length] at hl hcell ⊢
  obtain ⟨a0, cap0, e0, _, _, hcell0⟩ := h0.open
  have HC := Lib.hid hcell
  have HC0 := Lib.hid hcell0
  clear hcell hcell0 h h0
  have hk2 : k ≤ 4611686018427387904 := by omega
  have HK := Lib.hid hk1
  clear hk1
  go_enter Try.func40, Try.ntmps40
  go_wp2
  go_loopw [1, 5] (fun c i wr => ∃ (j : Nat) (m : Int), j ≤ ls.length ∧ i = .int .i64 j ∧ c = .int .i64 m ∧ m = k + (cntRows (ls.take j) : Int) ∧ Below w.heap.size w wr) (fun _ i _ => ls.length - (intOf i).toNat)
  case atStart => exact ⟨0, _, Nat.zero_le _, rfl, rfl, by simp [cntRows], Below.refl _ _⟩
  case round =>
    obtain ⟨j, m, hj, rfl, rfl, hm, hb⟩ := hrel
    by_cases hlt : j < ls.length
    · obtain ⟨b, off, row, rfl, hbs, hcl, hrow⟩ := HC.out j hlt
      obtain ⟨b0, off0, row0, _, _, _, hrow0⟩ := HC0.out j hlt
      have hct := cntRows_take ls j hlt
      have hcl2 := cntRows_take_le ls (j + 1)
      rw [mkRows_getD k ls j hlt, ← hm] at hrow
      obtain ⟨ld, hld⟩ : ∃ ld, ls.getD j [] = ld := ⟨_, rfl⟩
      rw [hld] at hrow hrow0 hct
      clear hld
      obtain ⟨pd, pds, pv, pvs, rfl, rfl, ph, hrow0_0⟩ := RdRow.cons_inv hrow0
      obtain ⟨px0, rfl, rfl⟩ := Rd.int_inv ph
      obtain ⟨pd, pds, pv, pvs, rfl, rfl, ph, hrow0_1⟩ := RdRow.cons_inv hrow0_0
      obtain ⟨px1, rfl, rfl⟩ := Rd.bool_inv ph
      obtain ⟨pd, pds, pv, pvs, rfl, rfl, ph, hrow0_2⟩ := RdRow.cons_inv hrow0_1
      obtain ⟨pl2, pa2, pc2, rfl, rfl, pe2, pf2, pr2⟩ := Rd.sl_inv ph
      obtain ⟨pd, pds, pv, pvs, rfl, rfl, ph, hrow0_3⟩ := RdRow.cons_inv hrow0_2
      obtain ⟨pl3, pa3, pc3, rfl, rfl, pe3, pf3, pr3⟩ := Rd.sl_inv ph
      obtain ⟨pd, pds, pv, pvs, rfl, rfl, ph, hrow0_4⟩ := RdRow.cons_inv hrow0_3
      obtain ⟨px4, rfl, rfl⟩ := Rd.bool_inv ph
      obtain ⟨pd, pds, pv, pvs, rfl, rfl, ph, hrow0_5⟩ := RdRow.cons_inv hrow0_4
      obtain ⟨pl5, pa5, pc5, rfl, rfl, pe5, pf5, pr5⟩ := Rd.sl_inv ph
      obtain ⟨pd, pds, pv, pvs, rfl, rfl, ph, hrow0_6⟩ := RdRow.cons_inv hrow0_5
      obtain ⟨pl6, pa6, pc6, rfl, rfl, pe6, pf6, pr6⟩ := Rd.sl_inv ph
      obtain ⟨rfl, rfl⟩ := RdRow.nil_inv hrow0_6
      have P02 := Lib.hid pr2
      clear pr2
      have P03 := Lib.hid pr3
      clear pr3
      have P05 := Lib.hid pr5
      clear pr5
      have P06 := Lib.hid pr6
      clear pr6
      have hmk : mkRow m [.int px0, .bool px1, .sl pl2, .sl pl3, .bool px4, .sl pl5, .sl pl6] = [.int (m), .bool ((m + 1) % 3 == 0), .sl (mkRows (m + 1 + 1) pl2), .sl (mkRows (m + 1 + 1 + (cntRows pl2 : Int)) pl3), .bool ((m + 1 + 1 + (cntRows pl2 : Int) + (cntRows pl3 : Int)) % 3 == 0), .sl (mkRows (m + 1 + 1 + (cntRows pl2 : Int) + (cntRows pl3 : Int) + 1) pl5), .sl (mkRows (m + 1 + 1 + (cntRows pl2 : Int) + (cntRows pl3 : Int) + 1 + (cntRows pl5 : Int)) pl6)] := by first | (simp [mkRow, Dat.mk', Dat.cnt]; done) | (simp [mkRow, Dat.mk', Dat.cnt]; (repeat apply And.intro) <;> rfl)
      rw [hmk] at hrow
      clear hmk
      obtain ⟨qv, qvs, rfl, qh, hrow_0⟩ := RdRow.cons2 hrow
      obtain rfl := Rd.int2 qh
      obtain ⟨qv, qvs, rfl, qh, hrow_1⟩ := RdRow.cons2 hrow_0
      obtain rfl := Rd.bool2 qh
      obtain ⟨qv, qvs, rfl, qh, hrow_2⟩ := RdRow.cons2 hrow_1
      obtain ⟨qa2, qc2, rfl, qe2, qf2, qr2⟩ := Rd.sl2 qh
      rw [mkRows_length] at qe2 qr2 hcl
      obtain ⟨qv, qvs, rfl, qh, hrow_3⟩ := RdRow.cons2 hrow_2
      obtain ⟨qa3, qc3, rfl, qe3, qf3, qr3⟩ := Rd.sl2 qh
      rw [mkRows_length] at qe3 qr3 hcl
      obtain ⟨qv, qvs, rfl, qh, hrow_4⟩ := RdRow.cons2 hrow_3
      obtain rfl := Rd.bool2 qh
      obtain ⟨qv, qvs, rfl, qh, hrow_5⟩ := RdRow.cons2 hrow_4
      obtain ⟨qa5, qc5, rfl, qe5, qf5, qr5⟩ := Rd.sl2 qh
      rw [mkRows_length] at qe5 qr5 hcl
      obtain ⟨qv, qvs, rfl, qh, hrow_6⟩ := RdRow.cons2 hrow_5
      obtain ⟨qa6, qc6, rfl, qe6, qf6, qr6⟩ := Rd.sl2 qh
      rw [mkRows_length] at qe6 qr6 hcl
      obtain ⟨-, rfl⟩ := RdRow.nil_inv hrow_6
      have d0 : wr.cell? ⟨b, off + j * 7, none⟩ = some (.int .i64 (m)) := (hb.cell (p := ⟨b, _, none⟩) hbs).trans (by have q := hcl 0 (by decide); simpa [Nat.add_assoc] using q)
      have d1 : wr.cell? ⟨b, off + j * 7 + 1, none⟩ = some (.bool ((m + 1) % 3 == 0)) := (hb.cell (p := ⟨b, _, none⟩) hbs).trans (by have q := hcl 1 (by decide); simpa [Nat.add_assoc] using q)
      have d2 : wr.cell? ⟨b, off + j * 7 + 2, none⟩ = some (.slice qa2 pl2.length qc2) := (hb.cell (p := ⟨b, _, none⟩) hbs).trans (by have q := hcl 2 (by decide); simpa [Nat.add_assoc] using q)
      have d3 : wr.cell? ⟨b, off + j * 7 + 3, none⟩ = some (.slice qa3 pl3.length qc3) := (hb.cell (p := ⟨b, _, none⟩) hbs).trans (by have q := hcl 3 (by decide); simpa [Nat.add_assoc] using q)
      have d4 : wr.cell? ⟨b, off + j * 7 + 4, none⟩ = some (.bool ((m + 1 + 1 + (cntRows pl2 : Int) + (cntRows pl3 : Int)) % 3 == 0)) := (hb.cell (p := ⟨b, _, none⟩) hbs).trans (by have q := hcl 4 (by decide); simpa [Nat.add_assoc] using q)
      have d5 : wr.cell? ⟨b, off + j * 7 + 5, none⟩ = some (.slice qa5 pl5.length qc5) := (hb.cell (p := ⟨b, _, none⟩) hbs).trans (by have q := hcl 5 (by decide); simpa [Nat.add_assoc] using q)
      have d6 : wr.cell? ⟨b, off + j * 7 + 6, none⟩ = some (.slice qa6 pl6.length qc6) := (hb.cell (p := ⟨b, _, none⟩) hbs).trans (by have q := hcl 6 (by decide); simpa [Nat.add_assoc] using q)
      have H2 := Lib.hid (Rd.below hb _ _ _ qr2)
      clear qr2
      have H3 := Lib.hid (Rd.below hb _ _ _ qr3)
      clear qr3
      have H5 := Lib.hid (Rd.below hb _ _ _ qr5)
      clear qr5
      have H6 := Lib.hid (Rd.below hb _ _ _ qr6)
      clear qr6
      have hfin : m + 1 + 1 + (cntRows pl2 : Int) + (cntRows pl3 : Int) + 1 + (cntRows pl5 : Int) + (cntRows pl6 : Int) = k + (cntRows (ls.take (j + 1)) : Int) := by rw [hct, hm]; simp only [cntRow, Dat.cnt]; omega
      have hbd : m + 1 + 1 + (cntRows pl2 : Int) + (cntRows pl3 : Int) + 1 + (cntRows pl5 : Int) + (cntRows pl6 : Int) ≤ 4611686018427387904 := by have := HK.out; omega
      have hm0 : 0 ≤ m := by omega
      have y1 : 0 ≤ m + 1 ∧ m + 1 ≤ 4611686018427387904 := ⟨by omega, by omega⟩
      have y2 : 0 ≤ m + 1 + 1 ∧ m + 1 + 1 ≤ 4611686018427387904 := ⟨by omega, by omega⟩
      have y3 : 0 ≤ m + 1 + 1 + (cntRows pl2 : Int) ∧ m + 1 + 1 + (cntRows pl2 : Int) ≤ 4611686018427387904 := ⟨by omega, by omega⟩
      have y4 : 0 ≤ m + 1 + 1 + (cntRows pl2 : Int) + (cntRows pl3 : Int) ∧ m + 1 + 1 + (cntRows pl2 : Int) + (cntRows pl3 : Int) ≤ 4611686018427387904 := ⟨by omega, by omega⟩
      have y5 : 0 ≤ m + 1 + 1 + (cntRows pl2 : Int) + (cntRows pl3 : Int) + 1 ∧ m + 1 + 1 + (cntRows pl2 : Int) + (cntRows pl3 : Int) + 1 ≤ 4611686018427387904 := ⟨by omega, by omega⟩
      have y6 : 0 ≤ m + 1 + 1 + (cntRows pl2 : Int) + (cntRows pl3 : Int) + 1 + (cntRows pl5 : Int) ∧ m + 1 + 1 + (cntRows pl2 : Int) + (cntRows pl3 : Int) + 1 + (cntRows pl5 : Int) ≤ 4611686018427387904 := ⟨by omega, by omega⟩
      have y7 : 0 ≤ m + 1 + 1 + (cntRows pl2 : Int) + (cntRows pl3 : Int) + 1 + (cntRows pl5 : Int) + (cntRows pl6 : Int) ∧ m + 1 + 1 + (cntRows pl2 : Int) + (cntRows pl3 : Int) + 1 + (cntRows pl5 : Int) + (cntRows pl6 : Int) ≤ 4611686018427387904 := ⟨by omega, by omega⟩
      obtain ⟨y1a, y1b⟩ := y1
      obtain ⟨y2a, y2b⟩ := y2
      obtain ⟨y3a, y3b⟩ := y3
      obtain ⟨y4a, y4b⟩ := y4
      obtain ⟨y5a, y5b⟩ := y5
      obtain ⟨y6a, y6b⟩ := y6
      obtain ⟨y7a, y7b⟩ := y7
      have HF := Lib.hid hfin
      have HB := Lib.hid hb
      have T9 := hb.size
      have xb0 : b < wr.heap.size := Nat.lt_of_lt_of_le hbs T9
      clear hfin hct hcl hcl2 hm hb
      go_wp2_with fail
      refine (heldIntS_c pl2 (m + 1 + 1) (by omega) (by omega) _ _ P02.out _ _ (Rd.below (by (repeat (first | with_reducible exact Below.refl _ _ | with_reducible assumption | with_reducible refine Below.drew ?_ | with_reducible refine Below.setCell ?_ ?_ _ | with_reducible refine Below.alloc ?_ ?_ _)); all_goals first | (simp; done) | (simp; omega) | omega) _ _ _ H2.out)).mono ?_
      rintro e w1 ⟨rfl, h1⟩
      have B1 : Below wr.heap.size wr w1 := Below.trans (by (repeat (first | with_reducible exact Below.refl _ _ | with_reducible assumption | with_reducible refine Below.drew ?_ | with_reducible refine Below.setCell ?_ ?_ _ | with_reducible refine Below.alloc ?_ ?_ _)); all_goals first | (simp; done) | (simp; omega) | omega) (h1.mono (by first | (simp; done) | (simp; omega) | omega))
      have S1 := h1.size
      have T1 := B1.size
      try simp at S1
      obtain ⟨k1, f1⟩ := bcell h1
      try simp at k1
      try simp at f1
      have Hc1 := Lib.hid h1
      clear h1
      have xb1 : b < w1.heap.size := Nat.lt_of_lt_of_le xb0 T1
      go_wp2_with fail
      refine (heldIntS_c pl3 (m + 1 + 1 + (cntRows pl2 : Int)) (by omega) (by omega) _ _ P03.out _ _ (Rd.below (by (repeat (first | with_reducible exact Below.refl _ _ | with_reducible assumption | with_reducible refine Below.drew ?_ | with_reducible refine Below.setCell ?_ ?_ _ | with_reducible refine Below.alloc ?_ ?_ _)); all_goals first | (simp; done) | (simp; omega) | omega) _ _ _ H3.out)).mono ?_
      rintro e w2 ⟨rfl, h2⟩
      have B2 : Below wr.heap.size wr w2 := Below.trans (by (repeat (first | with_reducible exact Below.refl _ _ | with_reducible assumption | with_reducible refine Below.drew ?_ | with_reducible refine Below.setCell ?_ ?_ _ | with_reducible refine Below.alloc ?_ ?_ _)); all_goals first | (simp; done) | (simp; omega) | omega) (h2.mono (by first | (simp; done) | (simp; omega) | omega))
      have S2 := h2.size
      have T2 := B2.size
      try simp at S2
      obtain ⟨k2, f2⟩ := bcell h2
      try simp at k2
      try simp at f2
      have Hc2 := Lib.hid h2
      clear h2
      have xb2 : b < w2.heap.size := Nat.lt_of_lt_of_le xb0 T2
      go_wp2_with fail
      refine (heldIntS_c pl5 (m + 1 + 1 + (cntRows pl2 : Int) + (cntRows pl3 : Int) + 1) (by omega) (by omega) _ _ P05.out _ _ (Rd.below (by (repeat (first | with_reducible exact Below.refl _ _ | with_reducible assumption | with_reducible refine Below.drew ?_ | with_reducible refine Below.setCell ?_ ?_ _ | with_reducible refine Below.alloc ?_ ?_ _)); all_goals first | (simp; done) | (simp; omega) | omega) _ _ _ H5.out)).mono ?_
      rintro e w3 ⟨rfl, h3⟩
      have B3 : Below wr.heap.size wr w3 := Below.trans (by (repeat (first | with_reducible exact Below.refl _ _ | with_reducible assumption | with_reducible refine Below.drew ?_ | with_reducible refine Below.setCell ?_ ?_ _ | with_reducible refine Below.alloc ?_ ?_ _)); all_goals first | (simp; done) | (simp; omega) | omega) (h3.mono (by first | (simp; done) | (simp; omega) | omega))
      have S3 := h3.size
      have T3 := B3.size
      try simp at S3
      obtain ⟨k3, f3⟩ := bcell h3
      try simp at k3
      try simp at f3
      have Hc3 := Lib.hid h3
      clear h3
      have xb3 : b < w3.heap.size := Nat.lt_of_lt_of_le xb0 T3
      go_wp2_with fail
      refine (heldIntS_c pl6 (m + 1 + 1 + (cntRows pl2 : Int) + (cntRows pl3 : Int) + 1 + (cntRows pl5 : Int)) (by omega) (by omega) _ _ P06.out _ _ (Rd.below (by (repeat (first | with_reducible exact Below.refl _ _ | with_reducible assumption | with_reducible refine Below.drew ?_ | with_reducible refine Below.setCell ?_ ?_ _ | with_reducible refine Below.alloc ?_ ?_ _)); all_goals first | (simp; done) | (simp; omega) | omega) _ _ _ H6.out)).mono ?_
      rintro e w4 ⟨rfl, h4⟩
      have B4 : Below wr.heap.size wr w4 := Below.trans (by (repeat (first | with_reducible exact Below.refl _ _ | with_reducible assumption | with_reducible refine Below.drew ?_ | with_reducible refine Below.setCell ?_ ?_ _ | with_reducible refine Below.alloc ?_ ?_ _)); all_goals first | (simp; done) | (simp; omega) | omega) (h4.mono (by first | (simp; done) | (simp; omega) | omega))
      have S4 := h4.size
      have T4 := B4.size
      try simp at S4
      obtain ⟨k4, f4⟩ := bcell h4
      try simp at k4
      try simp at f4
      have Hc4 := Lib.hid h4
      clear h4
      have xb4 : b < w4.heap.size := Nat.lt_of_lt_of_le xb0 T4
      go_wp2
      go_roundw
      case rel => exact ⟨j + 1, _, by omega, by go_num, rfl, HF.out, HB.out.trans (B4.mono T9)⟩
      case measure => simp [intOf]; omega
    · have hke : j = ls.length := by omega
      have HM : Hid (m = k + (cntRows ls : Int)) := by rw [hke, List.take_length] at hm; exact hm
      have HB := Lib.hid hb
      clear hm hb hke
      go_wp2
      go_ret
      exact ⟨ret_int HM.out, HB.out⟩
end Go.Proofs.Ytemgpfojmdncjaa
