import Derived.Test.YtcpjekkiejhgpaaDoorProg
import Derived.Test.YtcpjekkiejhgpaaDoorPpBas
import Derived.Outline
import Derived.Laws.MakeOwn
import Derived.RegionTactic
import Derived.BigRegion
import Derived.Deep.RegionHeld3
import Derived.Deep.DrawnRows
namespace Go.Proofs.YtcpjekkiejhgpaaDoor
set_option maxRecDepth 100000
set_option linter.unusedVariables false
set_option linter.unusedSimpArgs false
open Go.RowKit
attribute [local go_sem ↓] Go.wp_at_zero Go.wp_at_succ
set_option maxHeartbeats 4000000 in
theorem Mf (ds : List Dat) (vs us : List Value) (w : World) (h : RdRow w [.int, .int] ds vs) (h' : RdRow w [.int, .int] ds us) :
    Calls Tryd.prog 15 #[.agg vs.toArray, .agg us.toArray] w fun e w' => e = .returned (.bool true) ∧ Below w.heap.size w w' := by
  obtain ⟨pd, pds, pv, pvs, rfl, rfl, ph, h_0⟩ := RdRow.cons_inv h
  obtain ⟨px0, rfl, rfl⟩ := Rd.int_inv ph
  obtain ⟨pd, pds, pv, pvs, rfl, rfl, ph, h_1⟩ := RdRow.cons_inv h_0
  obtain ⟨px1, rfl, rfl⟩ := Rd.int_inv ph
  obtain ⟨rfl, rfl⟩ := RdRow.nil_inv h_1
  obtain ⟨qv, qvs, rfl, qh, h'_0⟩ := RdRow.cons2 h'
  obtain rfl := Rd.int2 qh
  obtain ⟨qv, qvs, rfl, qh, h'_1⟩ := RdRow.cons2 h'_0
  obtain rfl := Rd.int2 qh
  obtain ⟨-, rfl⟩ := RdRow.nil_inv h'_1
  go_enter Tryd.func15, Tryd.ntmps15
  go_wp2
  go_ret
  exact ⟨rfl, (by (repeat (first | with_reducible exact Below.refl _ _ | with_reducible assumption | with_reducible refine Below.drew ?_ | with_reducible refine Below.setCell ?_ ?_ _ | with_reducible refine Below.alloc ?_ ?_ _)); all_goals first | (simp; done) | (simp; omega) | omega)⟩
set_option maxHeartbeats 4000000 in
theorem MA (ls : List (List Dat)) (v u : Value) (w : World) (h : Rd w (.sl 31 [.int, .int]) (.sl ls) v) (h' : Rd w (.sl 31 [.int, .int]) (.sl ls) u) :
    Calls Tryd.prog 6 #[v, u] w fun e w' => e = .returned (.bool true) ∧ Below w.heap.size w w' := by
  obtain ⟨a, cap, rfl, hl, hc, hcell⟩ := h.open
  obtain ⟨a', cap', rfl, hl', hc', hcell'⟩ := h'.open
  have HC := Lib.hid hcell
  have HC' := Lib.hid hcell'
  clear hcell h hcell' h'
  go_enter Tryd.func6, Tryd.ntmps6
  go_wp2
  go_loopw [5] (fun i wr => ∃ k : Nat, k ≤ ls.length ∧ i = .int .i64 k ∧ Below w.heap.size w wr) (fun i _ => ls.length - (intOf i).toNat)
  case atStart => exact ⟨0, Nat.zero_le _, rfl, Below.refl _ _⟩
  case round =>
    obtain ⟨k, hk, rfl, hb⟩ := hrel
    by_cases hlt : k < ls.length
    · obtain ⟨b, off, row, rfl, hbs, hcl, hrow⟩ := HC.out k hlt
      obtain ⟨b', off', row', rfl, hbs', hcl', hrow'⟩ := HC'.out k hlt
      generalize ls.getD k [] = ld at hrow hrow'
      obtain ⟨pd, pds, pv, pvs, rfl, rfl, ph, hrow_0⟩ := RdRow.cons_inv hrow
      obtain ⟨px0, rfl, rfl⟩ := Rd.int_inv ph
      obtain ⟨pd, pds, pv, pvs, rfl, rfl, ph, hrow_1⟩ := RdRow.cons_inv hrow_0
      obtain ⟨px1, rfl, rfl⟩ := Rd.int_inv ph
      obtain ⟨rfl, rfl⟩ := RdRow.nil_inv hrow_1
      obtain ⟨qv, qvs, rfl, qh, hrow'_0⟩ := RdRow.cons2 hrow'
      obtain rfl := Rd.int2 qh
      obtain ⟨qv, qvs, rfl, qh, hrow'_1⟩ := RdRow.cons2 hrow'_0
      obtain rfl := Rd.int2 qh
      obtain ⟨-, rfl⟩ := RdRow.nil_inv hrow'_1
      have d0 : wr.cell? ⟨b, off + k * 2, none⟩ = some (.int .i64 px0) := (hb.cell (p := ⟨b, _, none⟩) hbs).trans (by have q := hcl 0 (by decide); simpa [Nat.add_assoc] using q)
      have d'0 : wr.cell? ⟨b', off' + k * 2, none⟩ = some (.int .i64 px0) := (hb.cell (p := ⟨b', _, none⟩) hbs').trans (by have q := hcl' 0 (by decide); simpa [Nat.add_assoc] using q)
      have d1 : wr.cell? ⟨b, off + k * 2 + 1, none⟩ = some (.int .i64 px1) := (hb.cell (p := ⟨b, _, none⟩) hbs).trans (by have q := hcl 1 (by decide); simpa [Nat.add_assoc] using q)
      have d'1 : wr.cell? ⟨b', off' + k * 2 + 1, none⟩ = some (.int .i64 px1) := (hb.cell (p := ⟨b', _, none⟩) hbs').trans (by have q := hcl' 1 (by decide); simpa [Nat.add_assoc] using q)
      have HB := Lib.hid hb
      have T9 := hb.size
      clear hcl hcl' hb
      go_wp2
      go_region_held3 (fun w' => w'.cell? ⟨b, off + k * 2, none⟩ = some (.int .i64 px0) ∧ w'.cell? ⟨b, off + k * 2 + 1, none⟩ = some (.int .i64 px1) ∧ w'.cell? ⟨b', off' + k * 2, none⟩ = some (.int .i64 px0) ∧ w'.cell? ⟨b', off' + k * 2 + 1, none⟩ = some (.int .i64 px1)) ((refine ⟨?_, ?_, ?_, ?_⟩ <;> go_simp))
        (((go_at_call 15); (refine (Mf [.int px0, .int px1] [.int .i64 px0, .int .i64 px1] [.int .i64 px0, .int .i64 px1] _ (RdRow.below (by (repeat (first | with_reducible exact Below.refl _ _ | with_reducible assumption | with_reducible refine Below.drew ?_ | with_reducible refine Below.setCell ?_ ?_ _ | with_reducible refine Below.alloc ?_ ?_ _)); all_goals first | (simp; done) | (simp; omega) | omega) _ _ _ (RdRow.mk_cons (Rd.mk_int px0) (RdRow.mk_cons (Rd.mk_int px1) RdRow.mk_nil))) (RdRow.below (by (repeat (first | with_reducible exact Below.refl _ _ | with_reducible assumption | with_reducible refine Below.drew ?_ | with_reducible refine Below.setCell ?_ ?_ _ | with_reducible refine Below.alloc ?_ ?_ _)); all_goals first | (simp; done) | (simp; omega) | omega) _ _ _ (RdRow.mk_cons (Rd.mk_int px0) (RdRow.mk_cons (Rd.mk_int px1) RdRow.mk_nil)))).mono ?_); rintro e w1 ⟨rfl, hb1⟩; have B1 : Below w.heap.size w w1 := Below.trans (Below.drew HB.out) (hb1.mono T9); have HB1 := Lib.hid B1; obtain ⟨k1, f1⟩ := GK hb1; (try simp at k1); (try simp at f1); have x1 : b < wr.heap.size := Nat.lt_of_lt_of_le hbs T9; have x2 : b' < wr.heap.size := Nat.lt_of_lt_of_le hbs' T9; clear B1 hb1))
      all_goals
        go_wp2
        go_roundw
        case rel => exact ⟨k + 1, by omega, by go_num, HB1.out⟩
        case measure => simp [intOf]; omega
    · have HB := Lib.hid hb
      clear hb
      go_wp2
      go_ret
      exact ⟨rfl, HB.out⟩
set_option maxHeartbeats 4000000 in
theorem JZ (ls : List (List Dat)) (k : Int) (hk0 : 0 ≤ k) (hk1 : k + (AD ls : Int) ≤ 4611686018427387904) (bs : List Nat) (hn : bs.Nodup) (v : Value) (w : World) (h : Fp w (.sl 31 [.int, .int]) (.sl ls) v bs) :
    Calls Tryd.prog 7 #[v, .int .i64 k] w fun e w' => e = .returned (.int .i64 (k + (AD ls : Int))) ∧ Fp w' (.sl 31 [.int, .int]) (.sl (AU k ls)) v bs ∧ OnlyIn (fun b => b ∈ bs) w w' := by
  obtain ⟨a, cap, rfl, hl, hc, -⟩ := (Fp.rd _ _ _ _ h).open
  have H := Lib.hid h
  have HN := Lib.hid hn
  have hnil : ∀ b off, a = some ⟨b, off, none⟩ → off = 0 := fun b off ha => by
    simp only [Fp] at h
    obtain ⟨rows, bss, ⟨_, h1⟩, _⟩ := h
    rcases h1 with ⟨h1, _⟩ | ⟨g, _, _, h1, _⟩
    · simp [ha] at h1
    · simp [ha] at h1; exact h1.1.2
  have HNL := Lib.hid hnil
  have HA : Hid (∀ j, j < ls.length → ∃ g, a = some ⟨g, 0, none⟩ ∧ g ∈ bs) := fun j hj => by
    obtain ⟨a', cap', e', _, _, q⟩ := (Fp.rd _ _ _ _ h).open
    simp only [Value.slice.injEq] at e'
    obtain ⟨b, off, row, h1, h2, h3, h4⟩ := q j hj
    rw [← e'.1] at h1
    obtain rfl := HNL.out b off h1
    exact ⟨b, h1, by simp only [Fp] at h; obtain ⟨_, _, _, _, _, _, _, rfl⟩ := h; simp [Value.ownBlock, h1]⟩
  clear h hn hnil
  have hk2 : k ≤ 4611686018427387904 := by omega
  have HK := Lib.hid hk1
  clear hk1
  go_enter Tryd.func7, Tryd.ntmps7
  go_wp2
  go_loopw [1, 5] (fun c i wr => ∃ (j : Nat) (m : Int), j ≤ ls.length ∧ i = .int .i64 j ∧ c = .int .i64 m ∧ m = k + (AD (ls.take j) : Int) ∧ Fp wr (.sl 31 [.int, .int]) (.sl (Aq k j ls)) (.slice a ls.length cap) bs ∧ OnlyIn (fun b => b ∈ bs) w wr) (fun _ i _ => ls.length - (intOf i).toNat)
  case atStart => exact ⟨0, _, Nat.zero_le _, rfl, rfl, by simp [AD], by rw [Hf]; exact H.out, OnlyIn.refl _ _⟩
  case round =>
    obtain ⟨j, m, hj, rfl, rfl, hm, hfp, hon⟩ := hrel
    by_cases hlt : j < ls.length
    · obtain ⟨g, rfl, hgb⟩ := HA.out j hlt
      have hml : j < (Aq k j ls).length := by rw [GA]; exact hlt
      have hms := Hh k j ls hlt
      have hmg := Hg k j ls hlt
      have hct := CK ls j hlt
      have hcl := CQ ls (j + 1)
      rw [← hm] at hms
      obtain ⟨row, bj, hcell, hfz, hrow, -, -, -, -, -⟩ := Fp.row hfp HN.out hml
      rw [hmg] at hrow
      have hrd := FpRow.rd _ _ _ _ hrow
      have hself : (Aq k j ls).set j (ls.getD j []) = Aq k j ls := by rw [← hmg]; exact GB
      rw [← hself] at hfp
      clear hrow hself hmg
      obtain ⟨ld, hld⟩ : ∃ ld, ls.getD j [] = ld := ⟨_, rfl⟩
      rw [hld] at hrd hms hct hfp
      clear hld
      obtain ⟨pd, pds, pv, pvs, rfl, rfl, ph, hrd_0⟩ := RdRow.cons_inv hrd
      obtain ⟨px0, rfl, rfl⟩ := Rd.int_inv ph
      obtain ⟨pd, pds, pv, pvs, rfl, rfl, ph, hrd_1⟩ := RdRow.cons_inv hrd_0
      obtain ⟨px1, rfl, rfl⟩ := Rd.int_inv ph
      obtain ⟨rfl, rfl⟩ := RdRow.nil_inv hrd_1
      obtain ⟨M, hM⟩ : ∃ M, Aq k j ls = M := ⟨_, rfl⟩
      rw [hM] at hms hml hfp
      clear hM
      have d0 : wr.cell? ⟨g, j * 2, none⟩ = some (.int .i64 px0) := by have q := hcell 0 (by decide); simpa using q
      have f0 := hfz (j * 2)
      have d1 : wr.cell? ⟨g, j * 2 + 1, none⟩ = some (.int .i64 px1) := by have q := hcell 1 (by decide); simpa using q
      have f1 := hfz (j * 2 + 1)
      have hmk : DE m [.int px0, .int px1] = [.int (m), .int (m + 1)] := by first | (simp [DE, Dat.mk', Dat.cnt]; done) | (simp [DE, Dat.mk', Dat.cnt]; (repeat apply And.intro) <;> rfl)
      rw [hmk] at hms
      clear hmk
      have hfin : m + 1 + 1 = k + (AD (ls.take (j + 1)) : Int) := by rw [hct, hm]; simp only [BN, Dat.cnt]; omega
      have hbd : m + 1 + 1 ≤ 4611686018427387904 := by have := HK.out; omega
      have hm0 : 0 ≤ m := by omega
      have y1 : 0 ≤ m + 1 ∧ m + 1 ≤ 4611686018427387904 := ⟨by omega, by omega⟩
      have y2 : 0 ≤ m + 1 + 1 ∧ m + 1 + 1 ≤ 4611686018427387904 := ⟨by omega, by omega⟩
      obtain ⟨y1a, y1b⟩ := y1
      obtain ⟨y2a, y2b⟩ := y2
      have HMS := Lib.hid hms
      have HF := Lib.hid hfin
      have HM0 := Lib.hid hm
      have HON := Lib.hid hon
      have HG := Lib.hid hgb
      clear hms hfin hct hcl hm hon hgb hfz hcell
      have F := Lib.hid hfp
      have HL := Lib.hid hml
      clear hfp hml
      have F0_ : Hid (Fp (wr.setCell ⟨g, j * 2, none⟩ (.int .i64 (m))) (.sl 31 [.int, .int]) (.sl (M.set j [.int (m), .int px1])) (.slice (some ⟨g, 0, none⟩) ls.length cap) bs) := by
        have q := Fp.leafAt F.out HN.out HL.out 0 (by decide) rfl (.int (m)) (.int .i64 (m)) (fun _ => Fp.mk_int _)
        exact q
      have N0_ : Hid (OnlyIn (fun b => b ∈ bs) w (wr.setCell ⟨g, j * 2, none⟩ (.int .i64 (m)))) := HON.out.setCell HG.out _
      have F1_ : Hid (Fp ((wr.setCell ⟨g, j * 2, none⟩ (.int .i64 (m))).setCell ⟨g, j * 2 + 1, none⟩ (.int .i64 (m + 1))) (.sl 31 [.int, .int]) (.sl (M.set j [.int (m), .int (m + 1)])) (.slice (some ⟨g, 0, none⟩) ls.length cap) bs) := by
        have q := Fp.leafAt F0_.out HN.out HL.out 1 (by decide) rfl (.int (m + 1)) (.int .i64 (m + 1)) (fun _ => Fp.mk_int _)
        exact q
      have N1_ : Hid (OnlyIn (fun b => b ∈ bs) w ((wr.setCell ⟨g, j * 2, none⟩ (.int .i64 (m))).setCell ⟨g, j * 2 + 1, none⟩ (.int .i64 (m + 1)))) := N0_.out.setCell HG.out _
      go_wp2
      go_roundw
      case rel => exact ⟨j + 1, _, by omega, by go_num, rfl, HF.out, by rw [HMS.out]; exact F1_.out, N1_.out⟩
      case measure => simp [intOf]; omega
    · have hke : j = ls.length := by omega
      have HF : Hid (Fp wr (.sl 31 [.int, .int]) (.sl (AU k ls)) (.slice a ls.length cap) bs) := by rw [hke, Is] at hfp; exact hfp
      have HM : Hid (m = k + (AD ls : Int)) := by rw [hke, List.take_length] at hm; exact hm
      have HON := Lib.hid hon
      clear hfp hm hon hke
      go_wp2
      go_ret
      exact ⟨Ew HM.out, HF.out, HON.out⟩
set_option maxHeartbeats 4000000 in
theorem Ja (ls : List (List Dat)) (k : Int) (hk0 : 0 ≤ k) (hk1 : k + (AD ls : Int) ≤ 4611686018427387904) (w0 : World) (v0 : Value) (h0 : Rd w0 (.sl 31 [.int, .int]) (.sl ls) v0) (v : Value) (w : World) (h : Rd w (.sl 31 [.int, .int]) (.sl (AU k ls)) v) :
    Calls Tryd.prog 8 #[v, .int .i64 k] w fun e w' => e = .returned (.int .i64 (k + (AD ls : Int))) ∧ Below w.heap.size w w' := by
  obtain ⟨a, cap, rfl, hl, hc, hcell⟩ := h.open
  rw [Ar] at hl hcell ⊢
  obtain ⟨a0, cap0, e0, _, _, hcell0⟩ := h0.open
  have HC := Lib.hid hcell
  have HC0 := Lib.hid hcell0
  clear hcell hcell0 h h0
  have hk2 : k ≤ 4611686018427387904 := by omega
  have HK := Lib.hid hk1
  clear hk1
  go_enter Tryd.func8, Tryd.ntmps8
  go_wp2
  go_loopw [1, 5] (fun c i wr => ∃ (j : Nat) (m : Int), j ≤ ls.length ∧ i = .int .i64 j ∧ c = .int .i64 m ∧ m = k + (AD (ls.take j) : Int) ∧ Below w.heap.size w wr) (fun _ i _ => ls.length - (intOf i).toNat)
  case atStart => exact ⟨0, _, Nat.zero_le _, rfl, rfl, by simp [AD], Below.refl _ _⟩
  case round =>
    obtain ⟨j, m, hj, rfl, rfl, hm, hb⟩ := hrel
    by_cases hlt : j < ls.length
    · obtain ⟨b, off, row, rfl, hbs, hcl, hrow⟩ := HC.out j hlt
      obtain ⟨b0, off0, row0, _, _, _, hrow0⟩ := HC0.out j hlt
      have hct := CK ls j hlt
      have hcl2 := CQ ls (j + 1)
      rw [Hk k ls j hlt, ← hm] at hrow
      obtain ⟨ld, hld⟩ : ∃ ld, ls.getD j [] = ld := ⟨_, rfl⟩
      rw [hld] at hrow hrow0 hct
      clear hld
      obtain ⟨pd, pds, pv, pvs, rfl, rfl, ph, hrow0_0⟩ := RdRow.cons_inv hrow0
      obtain ⟨px0, rfl, rfl⟩ := Rd.int_inv ph
      obtain ⟨pd, pds, pv, pvs, rfl, rfl, ph, hrow0_1⟩ := RdRow.cons_inv hrow0_0
      obtain ⟨px1, rfl, rfl⟩ := Rd.int_inv ph
      obtain ⟨rfl, rfl⟩ := RdRow.nil_inv hrow0_1
      have hmk : DE m [.int px0, .int px1] = [.int (m), .int (m + 1)] := by first | (simp [DE, Dat.mk', Dat.cnt]; done) | (simp [DE, Dat.mk', Dat.cnt]; (repeat apply And.intro) <;> rfl)
      rw [hmk] at hrow
      clear hmk
      obtain ⟨qv, qvs, rfl, qh, hrow_0⟩ := RdRow.cons2 hrow
      obtain rfl := Rd.int2 qh
      obtain ⟨qv, qvs, rfl, qh, hrow_1⟩ := RdRow.cons2 hrow_0
      obtain rfl := Rd.int2 qh
      obtain ⟨-, rfl⟩ := RdRow.nil_inv hrow_1
      have d0 : wr.cell? ⟨b, off + j * 2, none⟩ = some (.int .i64 (m)) := (hb.cell (p := ⟨b, _, none⟩) hbs).trans (by have q := hcl 0 (by decide); simpa [Nat.add_assoc] using q)
      have d1 : wr.cell? ⟨b, off + j * 2 + 1, none⟩ = some (.int .i64 (m + 1)) := (hb.cell (p := ⟨b, _, none⟩) hbs).trans (by have q := hcl 1 (by decide); simpa [Nat.add_assoc] using q)
      have hfin : m + 1 + 1 = k + (AD (ls.take (j + 1)) : Int) := by rw [hct, hm]; simp only [BN, Dat.cnt]; omega
      have hbd : m + 1 + 1 ≤ 4611686018427387904 := by have := HK.out; omega
      have hm0 : 0 ≤ m := by omega
      have y1 : 0 ≤ m + 1 ∧ m + 1 ≤ 4611686018427387904 := ⟨by omega, by omega⟩
      have y2 : 0 ≤ m + 1 + 1 ∧ m + 1 + 1 ≤ 4611686018427387904 := ⟨by omega, by omega⟩
      obtain ⟨y1a, y1b⟩ := y1
      obtain ⟨y2a, y2b⟩ := y2
      have HF := Lib.hid hfin
      have HB := Lib.hid hb
      have T9 := hb.size
      have xb0 : b < wr.heap.size := Nat.lt_of_lt_of_le hbs T9
      clear hfin hct hcl hcl2 hm hb
      go_wp2
      go_roundw
      case rel => exact ⟨j + 1, _, by omega, by go_num, rfl, HF.out, HB.out⟩
      case measure => simp [intOf]; omega
    · have hke : j = ls.length := by omega
      have HM : Hid (m = k + (AD ls : Int)) := by rw [hke, List.take_length] at hm; exact hm
      have HB := Lib.hid hb
      clear hm hb hke
      go_wp2
      go_ret
      exact ⟨Ew HM.out, HB.out⟩
end Go.Proofs.YtcpjekkiejhgpaaDoor
