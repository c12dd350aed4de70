import Derived.Test.YtcpjekkiejhgpaaGreatDoorProg
import Derived.Test.YtcpjekkiejhgpaaGreatDoorPsTyG
import Derived.Outline
import Derived.Laws.MakeOwn
import Derived.RegionTactic
import Derived.BigRegion
import Derived.Deep.RegionHeld3
import Derived.Deep.DrawnRows
namespace Go.Proofs.YtcpjekkiejhgpaaGreatDoor
set_option linter.unusedVariables false
set_option linter.unusedSimpArgs false
open Go.RowKit
attribute [local go_sem ↓] Go.wp_at_zero Go.wp_at_succ
set_option maxRecDepth 100000 in
set_option maxHeartbeats 4000000 in
theorem OB (ls : List (List Dat)) (v u : Value) (w : World) (h : Rd w (.sl 24 [.sl 23 [.int, .int]]) (.sl ls) v) (h' : Rd w (.sl 24 [.sl 23 [.int, .int]]) (.sl ls) u) :
    Calls Tryz.prog 18 #[v, u] w fun e w' => e = .returned (.bool true) ∧ Below w.heap.size w w' := by
  obtain ⟨a, cap, rfl, hl, hc, hcell⟩ := h.open
  obtain ⟨a', cap', rfl, hl', hc', hcell'⟩ := h'.open
  have HC := Lib.hid hcell
  have HC' := Lib.hid hcell'
  clear hcell h hcell' h'
  go_enter Tryz.func18, Tryz.ntmps18
  go_wp2
  go_loopw [5] (fun i wr => ∃ k : Nat, k ≤ ls.length ∧ i = .int .i64 k ∧ Below w.heap.size w wr) (fun i _ => ls.length - (intOf i).toNat)
  case atStart => exact ⟨0, Nat.zero_le _, rfl, Below.refl _ _⟩
  case round =>
    obtain ⟨k, hk, rfl, hb⟩ := hrel
    by_cases hlt : k < ls.length
    · obtain ⟨b, off, row, rfl, hbs, hcl, hrow⟩ := HC.out k hlt
      obtain ⟨b', off', row', rfl, hbs', hcl', hrow'⟩ := HC'.out k hlt
      generalize ls.getD k [] = ld at hrow hrow'
      obtain ⟨pd, pds, pv, pvs, rfl, rfl, ph, hrow_0⟩ := RdRow.cons_inv hrow
      obtain ⟨pl0, pa0, pc0, rfl, rfl, pe0, pf0, pr0⟩ := Rd.sl_inv ph
      obtain ⟨rfl, rfl⟩ := RdRow.nil_inv hrow_0
      obtain ⟨qv, qvs, rfl, qh, hrow'_0⟩ := RdRow.cons2 hrow'
      obtain ⟨qa0, qc0, rfl, qe0, qf0, qr0⟩ := Rd.sl2 qh
      obtain ⟨-, rfl⟩ := RdRow.nil_inv hrow'_0
      have d0 : wr.cell? ⟨b, off + k, none⟩ = some (.slice pa0 pl0.length pc0) := (hb.cell (p := ⟨b, _, none⟩) hbs).trans (by have q := hcl 0 (by decide); simpa [Nat.add_assoc] using q)
      have d'0 : wr.cell? ⟨b', off' + k, none⟩ = some (.slice qa0 pl0.length qc0) := (hb.cell (p := ⟨b', _, none⟩) hbs').trans (by have q := hcl' 0 (by decide); simpa [Nat.add_assoc] using q)
      have H0 := Lib.hid (Rd.below hb _ _ _ pr0)
      have G0 := Lib.hid (Rd.below hb _ _ _ qr0)
      clear pr0 qr0
      have HB := Lib.hid hb
      have T9 := hb.size
      clear hcl hcl' hb
      go_wp2
      go_region_held3 (fun w' => w'.cell? ⟨b, off + k, none⟩ = some (.slice pa0 pl0.length pc0) ∧ w'.cell? ⟨b', off' + k, none⟩ = some (.slice qa0 pl0.length qc0)) ((refine ⟨?_, ?_⟩ <;> go_simp))
        (((go_at_call 17); (refine (Ip pl0 _ _ _ (Rd.below (by (repeat (first | with_reducible exact Below.refl _ _ | with_reducible assumption | with_reducible refine Below.drew ?_ | with_reducible refine Below.setCell ?_ ?_ _ | with_reducible refine Below.alloc ?_ ?_ _)); all_goals first | (simp; done) | (simp; omega) | omega) _ _ _ H0.out) (Rd.below (by (repeat (first | with_reducible exact Below.refl _ _ | with_reducible assumption | with_reducible refine Below.drew ?_ | with_reducible refine Below.setCell ?_ ?_ _ | with_reducible refine Below.alloc ?_ ?_ _)); all_goals first | (simp; done) | (simp; omega) | omega) _ _ _ G0.out)).mono ?_); rintro e w1 ⟨rfl, hb1⟩; have B1 : Below w.heap.size w w1 := Below.trans (Below.drew HB.out) (hb1.mono T9); have HB1 := Lib.hid B1; obtain ⟨k1, f1⟩ := BL hb1; (try simp at k1); (try simp at f1); have x1 : b < wr.heap.size := Nat.lt_of_lt_of_le hbs T9; have x2 : b' < wr.heap.size := Nat.lt_of_lt_of_le hbs' T9; clear B1 hb1))
      all_goals
        go_wp2
        go_roundw
        case rel => exact ⟨k + 1, by omega, by go_num, HB1.out⟩
        case measure => simp [intOf]; omega
    · have HB := Lib.hid hb
      clear hb
      go_wp2
      go_ret
      exact ⟨rfl, HB.out⟩
end Go.Proofs.YtcpjekkiejhgpaaGreatDoor
