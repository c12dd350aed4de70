import Derived.Test.YtmedodfenejimaaGreatProg
import Derived.Test.YtmedodfenejimaaGreatLkBas
import Derived.Outline
import Derived.Laws.MakeOwn
import Derived.RegionTactic
import Derived.BigRegion
import Derived.Deep.RegionHeld3
import Derived.Deep.DrawnRows
namespace Go.Proofs.YtmedodfenejimaaGreat
set_option maxRecDepth 100000
set_option linter.unusedVariables false
set_option linter.unusedSimpArgs false
open Go.RowKit
attribute [local go_sem ↓] Go.wp_at_zero Go.wp_at_succ
set_option maxHeartbeats 4000000 in
theorem Kg (ls : List (List Dat)) (v u : Value) (w : World) (h : Rd w (.sl 3 [.int]) (.sl ls) v) (h' : Rd w (.sl 3 [.int]) (.sl ls) u) :
    Calls Tryz.prog 14 #[v, u] w fun e w' => e = .returned (.bool true) ∧ Below w.heap.size w w' := by
  obtain ⟨a, cap, rfl, hl, hc, hcell⟩ := h.open
  obtain ⟨a', cap', rfl, hl', hc', hcell'⟩ := h'.open
  have HC := Lib.hid hcell
  have HC' := Lib.hid hcell'
  clear hcell h hcell' h'
  go_enter Tryz.func14, Tryz.ntmps14
  go_wp2
  go_loopw [5] (fun i wr => ∃ k : Nat, k ≤ ls.length ∧ i = .int .i64 k ∧ Below w.heap.size w wr) (fun i _ => ls.length - (intOf i).toNat)
  case atStart => exact ⟨0, Nat.zero_le _, rfl, Below.refl _ _⟩
  case round =>
    obtain ⟨k, hk, rfl, hb⟩ := hrel
    by_cases hlt : k < ls.length
    · obtain ⟨b, off, row, rfl, hbs, hcl, hrow⟩ := HC.out k hlt
      obtain ⟨b', off', row', rfl, hbs', hcl', hrow'⟩ := HC'.out k hlt
      generalize ls.getD k [] = ld at hrow hrow'
      obtain ⟨pd, pds, pv, pvs, rfl, rfl, ph, hrow_0⟩ := RdRow.cons_inv hrow
      obtain ⟨px0, rfl, rfl⟩ := Rd.int_inv ph
      obtain ⟨rfl, rfl⟩ := RdRow.nil_inv hrow_0
      obtain ⟨qv, qvs, rfl, qh, hrow'_0⟩ := RdRow.cons2 hrow'
      obtain rfl := Rd.int2 qh
      obtain ⟨-, rfl⟩ := RdRow.nil_inv hrow'_0
      have d0 : wr.cell? ⟨b, off + k, none⟩ = some (.int .i64 px0) := (hb.cell (p := ⟨b, _, none⟩) hbs).trans (by have q := hcl 0 (by decide); simpa [Nat.add_assoc] using q)
      have d'0 : wr.cell? ⟨b', off' + k, none⟩ = some (.int .i64 px0) := (hb.cell (p := ⟨b', _, none⟩) hbs').trans (by have q := hcl' 0 (by decide); simpa [Nat.add_assoc] using q)
      have HB := Lib.hid hb
      have T9 := hb.size
      clear hcl hcl' hb
      go_wp2
      go_region
      all_goals
        go_wp2
        go_roundw
        case rel => exact ⟨k + 1, by omega, by go_num, by first | exact HB.out | exact HB.out.drew⟩
        case measure => simp [intOf]; omega
    · have HB := Lib.hid hb
      clear hb
      go_wp2
      go_ret
      exact ⟨rfl, HB.out⟩
theorem TP : ∃ bytes, bytes ≤ 1024 ∧ ElemT Tryz.prog 33 3 1 bytes := by
  cases hi : Tryz.prog.info? 3 with
  | none => exact absurd hi (by have : (Tryz.prog.info? 3).isSome = true := by kernel_rfl
                                intro h; rw [h] at this; cases this)
  | some i =>
    have h1 : (Tryz.prog.info? 3).map (fun i => i.zero) = some (some ((.int .i64 0))) := by kernel_rfl
    have h2 : (Tryz.prog.info? 3).map (fun i => i.size) = some 1 := by kernel_rfl
    have h3 : (Tryz.prog.info? 3).map (fun i => decide (i.bytes ≤ 1024)) = some true := by kernel_rfl
    rw [hi] at h1 h2 h3
    simp only [Option.map_some, Option.some.injEq, decide_eq_true_eq] at h1 h2 h3
    exact ⟨i.bytes, h3, Tryz.underlying33, ⟨i, _, hi, h1, h2, rfl, rfl⟩, by decide⟩
set_option maxHeartbeats 4000000 in
theorem Kh (ls : List (List Dat)) (hsz : ls.length + AA ls ≤ 1048576) (v : Value) (w : World) (h : Rd w (.sl 3 [.int]) (.sl ls) v) :
    Calls Tryz.prog 65 #[v] w fun e w' => ∃ u : Value, e = .returned u ∧ Own w' w.heap.size w'.heap.size [.sl 3 [.int]] [.sl ls] [u] ∧ Below w.heap.size w w' := by
  obtain ⟨a, cap, rfl, hl, hc, hcell⟩ := h.open
  have HC := Lib.hid hcell
  clear hcell h
  have hln : ls.length ≤ 1048576 := by omega
  have HZ := Lib.hid hsz
  clear hsz
  obtain ⟨bytes, hby0, hE⟩ := TP
  obtain ⟨i, z, hi, hz, hs1, hby, hzc⟩ := hE.info
  obtain ⟨C, hCs, hmk⟩ : ∃ C : Array Value, C.size = ls.length * 1 ∧ ∀ W : World, (Instr.makeSlice 33 (.int .i64 (ls.length : Int)) (.int .i64 (ls.length : Int))).run Tryz.prog W = .ok (.slice (some ⟨W.heap.size, 0, none⟩) ls.length ls.length) (W.alloc (.cells C 3)) := by
    refine ⟨madeCells z.cells (ls.length * i.size), by rw [size_madeCells, hs1], fun W => ?_⟩
    have hbb : ls.length * i.bytes ≤ 1048576 * 1024 := Nat.mul_le_mul hln (by omega)
    have hbc := Nat.mul_comm ls.length i.bytes
    have := run_make (P := Tryz.prog) W 33 3 i z hE.slice hi hz .i64 .i64 ls.length ls.length (by omega) (Int.le_refl _) (by omega) (by omega)
    simpa using this
  have hown0 : (w.alloc (.cells C 3)).ownsRow w.heap.size 3 1 (.slice (some ⟨w.heap.size, 0, none⟩) ls.length ls.length) ls.length C.toList := World.ownsRow_lit w _ ls.length (Nat.le_refl _) (by unfold maxLen; omega) hCs
  have HO0 := Lib.hid (Part.zero (ts := [.int]) (ls := ls) hown0)
  clear hown0 hi hz hs1 hby hzc hCs hE hby0
  go_enter Tryz.func65, Tryz.ntmps65
  go_wp2
  clear hmk
  go_loopw [4] (fun i wr => ∃ k : Nat, k ≤ ls.length ∧ i = .int .i64 k ∧ Part wr w.heap.size 3 [.int] (.slice (some ⟨w.heap.size, 0, none⟩) ls.length ls.length) ls.length k ls ∧ Below w.heap.size w wr) (fun i _ => ls.length - (intOf i).toNat)
  case atStart => exact ⟨0, Nat.zero_le _, rfl, HO0.out, (Below.refl _ _).alloc (Nat.le_refl _) _⟩
  case round =>
    clear HO0
    obtain ⟨k, hk, rfl, hp, hb⟩ := hrel
    by_cases hlt : k < ls.length
    · obtain ⟨b, off, row, rfl, hbs, hcl, hrow⟩ := HC.out k hlt
      have hsn := Ch hlt
      obtain ⟨ld, hld⟩ : ∃ ld, ls.getD k [] = ld := ⟨_, rfl⟩
      rw [hld] at hrow hsn
      obtain ⟨pd, pds, pv, pvs, rfl, rfl, ph, hrow_0⟩ := RdRow.cons_inv hrow
      obtain ⟨px0, rfl, rfl⟩ := Rd.int_inv ph
      obtain ⟨rfl, rfl⟩ := RdRow.nil_inv hrow_0
      have d0 : wr.cell? ⟨b, off + k, none⟩ = some (.int .i64 px0) := (hb.cell (p := ⟨b, _, none⟩) hbs).trans (by have q := hcl 0 (by decide); simpa [Nat.add_assoc] using q)
      simp only [AC, Dat.sz] at hsn
      have HSN := Lib.hid hsn
      have HLD := Lib.hid hld
      have HP := Lib.hid hp
      have HB := Lib.hid hb
      have T9 := hb.size
      have hgs : w.heap.size < wr.heap.size := by obtain ⟨xs, q⟩ := HP.out.owns; exact (World.ownsRow.lt q _ rfl).2
      clear hld hsn hcl hb hp
      have HP1 := Lib.hid (Part.below HP.out (Below.refl _ _))
      obtain ⟨xs, hxo⟩ := HP.out.owns
      have OW : Hid (Own wr wr.heap.size wr.heap.size [.int] [.int px0] [.int .i64 px0]) := Own.leaf (Fp.mk_int _)
      obtain ⟨old0, hd0⟩ : ∃ u, wr.cell? ⟨w.heap.size, k, none⟩ = some u := by
        rw [hxo.cellAt (k) (by simp only [List.length_cons, List.length_nil]; omega)]
        exact ⟨_, List.getElem?_eq_getElem (by have := hxo.1; simp only [List.length_cons, List.length_nil] at this; omega)⟩
      have hf0 := hxo.frozenAt (k)
      have ST := Part.step (cs := [.int .i64 px0]) HP.out (Below.refl _ _) hlt (by rw [HLD.out]; exact OW.out) (by omega)
      have SB := (HB.out).trans (OnlyIn.below (B := w.heap.size) (Db w.heap.size [.int .i64 px0] wr (k * 1)) (fun b hb => by subst hb; exact Nat.le_refl _) (by omega))
      simp only [stN, List.length_cons, List.length_nil, Nat.reduceAdd, Nat.mul_one] at ST
      simp only [stN, Nat.mul_one] at SB
      have HST := Lib.hid ST
      have HSB := Lib.hid SB
      clear ST SB hxo
      go_wp2
      go_roundw
      case rel => exact ⟨k + 1, by omega, by go_num, HST.out, HSB.out⟩
      case measure => simp [intOf]; omega
    · have hke : k = ls.length := by omega
      have HF := Lib.hid (Part.done hp hke)
      have HB := Lib.hid hb
      clear hp hb hke
      go_wp2
      go_ret
      exact ⟨_, rfl, HF.out, HB.out⟩
end Go.Proofs.YtmedodfenejimaaGreat
