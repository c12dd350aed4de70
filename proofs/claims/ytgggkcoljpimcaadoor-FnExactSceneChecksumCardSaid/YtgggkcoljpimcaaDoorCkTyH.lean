import Derived.Test.YtgggkcoljpimcaaDoorProg
import Derived.Test.YtgggkcoljpimcaaDoorCkTyG
import Derived.Outline
import Derived.Laws.MakeOwn
import Derived.RegionTactic
import Derived.BigRegion
import Derived.Deep.RegionHeld3
import Derived.Deep.DrawnRows
namespace Go.Proofs.YtgggkcoljpimcaaDoor
set_option maxRecDepth 100000
set_option linter.unusedVariables false
set_option linter.unusedSimpArgs false
open Go.RowKit
attribute [local go_sem ↓] Go.wp_at_zero Go.wp_at_succ
set_option maxHeartbeats 4000000 in
theorem K1 (ls : List (List Dat)) (v u : Value) (w : World) (h : Rd w (.sl 25 [.sl 36 [.int, .int]]) (.sl ls) v) (h' : Rd w (.sl 25 [.sl 36 [.int, .int]]) (.sl ls) u) :
    Calls Tryd.prog 30 #[v, u] w fun e w' => e = .returned (.bool true) ∧ Below w.heap.size w w' := by
  obtain ⟨a, cap, rfl, hl, hc, hcell⟩ := h.open
  obtain ⟨a', cap', rfl, hl', hc', hcell'⟩ := h'.open
  have HC := Lib.hid hcell
  have HC' := Lib.hid hcell'
  clear hcell h hcell' h'
  go_enter Tryd.func30, Tryd.ntmps30
  go_wp2
  go_loopw [5] (fun i wr => ∃ k : Nat, k ≤ ls.length ∧ i = .int .i64 k ∧ Below w.heap.size w wr) (fun i _ => ls.length - (intOf i).toNat)
  case atStart => exact ⟨0, Nat.zero_le _, rfl, Below.refl _ _⟩
  case round =>
    obtain ⟨k, hk, rfl, hb⟩ := hrel
    by_cases hlt : k < ls.length
    · obtain ⟨b, off, row, rfl, hbs, hcl, hrow⟩ := HC.out k hlt
      obtain ⟨b', off', row', rfl, hbs', hcl', hrow'⟩ := HC'.out k hlt
      generalize ls.getD k [] = ld at hrow hrow'
      obtain ⟨pd, pds, pv, pvs, rfl, rfl, ph, hrow_0⟩ := RdRow.cons_inv hrow
      obtain ⟨pl0, pa0, pc0, rfl, rfl, pe0, pf0, pr0⟩ := Rd.sl_inv ph
      obtain ⟨rfl, rfl⟩ := RdRow.nil_inv hrow_0
      obtain ⟨qv, qvs, rfl, qh, hrow'_0⟩ := RdRow.cons2 hrow'
      obtain ⟨qa0, qc0, rfl, qe0, qf0, qr0⟩ := Rd.sl2 qh
      obtain ⟨-, rfl⟩ := RdRow.nil_inv hrow'_0
      have d0 : wr.cell? ⟨b, off + k, none⟩ = some (.slice pa0 pl0.length pc0) := (hb.cell (p := ⟨b, _, none⟩) hbs).trans (by have q := hcl 0 (by decide); simpa [Nat.add_assoc] using q)
      have d'0 : wr.cell? ⟨b', off' + k, none⟩ = some (.slice qa0 pl0.length qc0) := (hb.cell (p := ⟨b', _, none⟩) hbs').trans (by have q := hcl' 0 (by decide); simpa [Nat.add_assoc] using q)
      have H0 := Lib.hid (Rd.below hb _ _ _ pr0)
      have G0 := Lib.hid (Rd.below hb _ _ _ qr0)
      clear pr0 qr0
      have HB := Lib.hid hb
      have T9 := hb.size
      clear hcl hcl' hb
      go_wp2
      go_region_held3 (fun w' => w'.cell? ⟨b, off + k, none⟩ = some (.slice pa0 pl0.length pc0) ∧ w'.cell? ⟨b', off' + k, none⟩ = some (.slice qa0 pl0.length qc0)) ((refine ⟨?_, ?_⟩ <;> go_simp))
        (((go_at_call 10); (refine (GR pl0 _ _ _ (Rd.below (by (repeat (first | with_reducible exact Below.refl _ _ | with_reducible assumption | with_reducible refine Below.drew ?_ | with_reducible refine Below.setCell ?_ ?_ _ | with_reducible refine Below.alloc ?_ ?_ _)); all_goals first | (simp; done) | (simp; omega) | omega) _ _ _ H0.out) (Rd.below (by (repeat (first | with_reducible exact Below.refl _ _ | with_reducible assumption | with_reducible refine Below.drew ?_ | with_reducible refine Below.setCell ?_ ?_ _ | with_reducible refine Below.alloc ?_ ?_ _)); all_goals first | (simp; done) | (simp; omega) | omega) _ _ _ G0.out)).mono ?_); rintro e w1 ⟨rfl, hb1⟩; have B1 : Below w.heap.size w w1 := Below.trans (Below.drew HB.out) (hb1.mono T9); have HB1 := Lib.hid B1; obtain ⟨k1, f1⟩ := Ab hb1; (try simp at k1); (try simp at f1); have x1 : b < wr.heap.size := Nat.lt_of_lt_of_le hbs T9; have x2 : b' < wr.heap.size := Nat.lt_of_lt_of_le hbs' T9; clear B1 hb1))
      all_goals
        go_wp2
        go_roundw
        case rel => exact ⟨k + 1, by omega, by go_num, HB1.out⟩
        case measure => simp [intOf]; omega
    · have HB := Lib.hid hb
      clear hb
      go_wp2
      go_ret
      exact ⟨rfl, HB.out⟩
theorem K2 : ∃ bytes, bytes ≤ 1024 ∧ ElemT Tryd.prog 37 25 1 bytes := by
  cases hi : Tryd.prog.info? 25 with
  | none => exact absurd hi (by have : (Tryd.prog.info? 25).isSome = true := by kernel_rfl
                                intro h; rw [h] at this; cases this)
  | some i =>
    have h1 : (Tryd.prog.info? 25).map (fun i => i.zero) = some (some ((.slice none 0 0))) := by kernel_rfl
    have h2 : (Tryd.prog.info? 25).map (fun i => i.size) = some 1 := by kernel_rfl
    have h3 : (Tryd.prog.info? 25).map (fun i => decide (i.bytes ≤ 1024)) = some true := by kernel_rfl
    rw [hi] at h1 h2 h3
    simp only [Option.map_some, Option.some.injEq, decide_eq_true_eq] at h1 h2 h3
    exact ⟨i.bytes, h3, Tryd.underlying37, ⟨i, _, hi, h1, h2, rfl, rfl⟩, by decide⟩
set_option maxHeartbeats 4000000 in
theorem K3 (ls : List (List Dat)) (hsz : ls.length + AI ls ≤ 1048576) (v : Value) (w : World) (h : Rd w (.sl 25 [.sl 36 [.int, .int]]) (.sl ls) v) :
    Calls Tryd.prog 27 #[v] w fun e w' => ∃ u : Value, e = .returned u ∧ Own w' w.heap.size w'.heap.size [.sl 25 [.sl 36 [.int, .int]]] [.sl ls] [u] ∧ Below w.heap.size w w' := by
  obtain ⟨a, cap, rfl, hl, hc, hcell⟩ := h.open
  have HC := Lib.hid hcell
  clear hcell h
  have hln : ls.length ≤ 1048576 := by omega
  have HZ := Lib.hid hsz
  clear hsz
  obtain ⟨bytes, hby0, hE⟩ := K2
  obtain ⟨i, z, hi, hz, hs1, hby, hzc⟩ := hE.info
  obtain ⟨C, hCs, hmk⟩ : ∃ C : Array Value, C.size = ls.length * 1 ∧ ∀ W : World, (Instr.makeSlice 37 (.int .i64 (ls.length : Int)) (.int .i64 (ls.length : Int))).run Tryd.prog W = .ok (.slice (some ⟨W.heap.size, 0, none⟩) ls.length ls.length) (W.alloc (.cells C 25)) := by
    refine ⟨madeCells z.cells (ls.length * i.size), by rw [size_madeCells, hs1], fun W => ?_⟩
    have hbb : ls.length * i.bytes ≤ 1048576 * 1024 := Nat.mul_le_mul hln (by omega)
    have hbc := Nat.mul_comm ls.length i.bytes
    have := run_make (P := Tryd.prog) W 37 25 i z hE.slice hi hz .i64 .i64 ls.length ls.length (by omega) (Int.le_refl _) (by omega) (by omega)
    simpa using this
  have hown0 : (w.alloc (.cells C 25)).ownsRow w.heap.size 25 1 (.slice (some ⟨w.heap.size, 0, none⟩) ls.length ls.length) ls.length C.toList := World.ownsRow_lit w _ ls.length (Nat.le_refl _) (by unfold maxLen; omega) hCs
  have HO0 := Lib.hid (Part.zero (ts := [.sl 36 [.int, .int]]) (ls := ls) hown0)
  clear hown0 hi hz hs1 hby hzc hCs hE hby0
  go_enter Tryd.func27, Tryd.ntmps27
  go_wp2
  clear hmk
  go_loopw [4] (fun i wr => ∃ k : Nat, k ≤ ls.length ∧ i = .int .i64 k ∧ Part wr w.heap.size 25 [.sl 36 [.int, .int]] (.slice (some ⟨w.heap.size, 0, none⟩) ls.length ls.length) ls.length k ls ∧ Below w.heap.size w wr) (fun i _ => ls.length - (intOf i).toNat)
  case atStart => exact ⟨0, Nat.zero_le _, rfl, HO0.out, (Below.refl _ _).alloc (Nat.le_refl _) _⟩
  case round =>
    clear HO0
    obtain ⟨k, hk, rfl, hp, hb⟩ := hrel
    by_cases hlt : k < ls.length
    · obtain ⟨b, off, row, rfl, hbs, hcl, hrow⟩ := HC.out k hlt
      have hsn := EY hlt
      obtain ⟨ld, hld⟩ : ∃ ld, ls.getD k [] = ld := ⟨_, rfl⟩
      rw [hld] at hrow hsn
      obtain ⟨pd, pds, pv, pvs, rfl, rfl, ph, hrow_0⟩ := RdRow.cons_inv hrow
      obtain ⟨pl0, pa0, pc0, rfl, rfl, pe0, pf0, pr0⟩ := Rd.sl_inv ph
      obtain ⟨rfl, rfl⟩ := RdRow.nil_inv hrow_0
      have d0 : wr.cell? ⟨b, off + k, none⟩ = some (.slice pa0 pl0.length pc0) := (hb.cell (p := ⟨b, _, none⟩) hbs).trans (by have q := hcl 0 (by decide); simpa [Nat.add_assoc] using q)
      have H0 := Lib.hid (Rd.below hb _ _ _ pr0)
      clear pr0
      simp only [AO, Dat.sz] at hsn
      have HSN := Lib.hid hsn
      have HLD := Lib.hid hld
      have HP := Lib.hid hp
      have HB := Lib.hid hb
      have T9 := hb.size
      have hgs : w.heap.size < wr.heap.size := by obtain ⟨xs, q⟩ := HP.out.owns; exact (World.ownsRow.lt q _ rfl).2
      clear hld hsn hcl hb hp
      go_wp2_with fail
      refine (GS pl0 (by have a1 := HZ.out; have a2 := HSN.out; omega) _ _ (Rd.below (by (repeat (first | with_reducible exact Below.refl _ _ | with_reducible assumption | with_reducible refine Below.drew ?_ | with_reducible refine Below.setCell ?_ ?_ _ | with_reducible refine Below.alloc ?_ ?_ _)); all_goals first | (simp; done) | (simp; omega) | omega) _ _ _ H0.out)).mono ?_
      rintro e w1 ⟨us, rfl, ho, h1⟩
      have B1 : Below wr.heap.size wr w1 := Below.trans (by (repeat (first | with_reducible exact Below.refl _ _ | with_reducible assumption | with_reducible refine Below.drew ?_ | with_reducible refine Below.setCell ?_ ?_ _ | with_reducible refine Below.alloc ?_ ?_ _)); all_goals first | (simp; done) | (simp; omega) | omega) (h1.mono (by first | (simp; done) | (simp; omega) | omega))
      have S1 := h1.size
      have T1 := B1.size
      try simp at S1
      obtain ⟨k1, f1⟩ := Ab h1
      try simp at k1
      try simp at f1
      have Hc1 := Lib.hid h1
      clear h1
      obtain ⟨ua0, uc0, rfl⟩ : ∃ a c, us = .slice a pl0.length c := by
        obtain ⟨q, q1, -, -⟩ := Own.one ho
        obtain ⟨a, c, q2, -⟩ := Rd.sl2 (Fp.rd _ _ _ _ q1)
        exact ⟨a, c, q2⟩
      have OW : Hid (Own w1 wr.heap.size w1.heap.size [.sl 36 [.int, .int]] [.sl pl0] [.slice ua0 pl0.length uc0]) := ho
      clear ho
      have HB1 := Lib.hid (HB.out.trans (B1.mono T9))
      have HP1 := Lib.hid (Part.below HP.out B1)
      obtain ⟨xs, hxo⟩ := HP1.out.owns
      have HBB := Lib.hid B1
      clear k1 f1 B1
      obtain ⟨old0, hd0⟩ : ∃ u, w1.cell? ⟨w.heap.size, k, none⟩ = some u := by
        rw [hxo.cellAt (k) (by simp only [List.length_cons, List.length_nil]; omega)]
        exact ⟨_, List.getElem?_eq_getElem (by have := hxo.1; simp only [List.length_cons, List.length_nil] at this; omega)⟩
      have hf0 := hxo.frozenAt (k)
      have ST := Part.step (cs := [.slice ua0 pl0.length uc0]) HP.out (HBB.out) hlt (by rw [HLD.out]; exact OW.out) (by omega)
      have SB := (HB1.out).trans (OnlyIn.below (B := w.heap.size) (Bg w.heap.size [.slice ua0 pl0.length uc0] w1 (k * 1)) (fun b hb => by subst hb; exact Nat.le_refl _) (by omega))
      simp only [stN, List.length_cons, List.length_nil, Nat.reduceAdd, Nat.mul_one] at ST
      simp only [stN, Nat.mul_one] at SB
      have HST := Lib.hid ST
      have HSB := Lib.hid SB
      clear ST SB hxo
      go_wp2
      go_roundw
      case rel => exact ⟨k + 1, by omega, by go_num, HST.out, HSB.out⟩
      case measure => simp [intOf]; omega
    · have hke : k = ls.length := by omega
      have HF := Lib.hid (Part.done hp hke)
      have HB := Lib.hid hb
      clear hp hb hke
      go_wp2
      go_ret
      exact ⟨_, rfl, HF.out, HB.out⟩
end Go.Proofs.YtgggkcoljpimcaaDoor
