import Derived.Test.YthnkggacopepgaaGreatProg
import Derived.Test.YthnkggacopepgaaGreatSwTyD
import Derived.Outline
import Derived.Laws.MakeOwn
import Derived.RegionTactic
import Derived.BigRegion
import Derived.Deep.RegionHeld3
import Derived.Deep.DrawnRows
namespace Go.Proofs.YthnkggacopepgaaGreat
set_option linter.unusedVariables false
set_option linter.unusedSimpArgs false
open Go.RowKit
attribute [local go_sem ↓] Go.wp_at_zero Go.wp_at_succ
set_option maxRecDepth 100000 in
set_option maxHeartbeats 4000000 in
theorem eqPointS_c (ls : List (List Dat)) (v u : Value) (w : World) (h : Rd w (.sl 39 [.bool, .sl 3 [.int], .sl 3 [.int], .bool, .sl 3 [.int], .sl 3 [.int]]) (.sl ls) v) (h' : Rd w (.sl 39 [.bool, .sl 3 [.int], .sl 3 [.int], .bool, .sl 3 [.int], .sl 3 [.int]]) (.sl ls) u) :
    Calls Tryz.prog 37 #[v, u] w fun e w' => e = .returned (.bool true) ∧ Below w.heap.size w w' := by
  obtain ⟨a, cap, rfl, hl, hc, hcell⟩ := h.open
  obtain ⟨a', cap', rfl, hl', hc', hcell'⟩ := h'.open
  have HC := Lib.hid hcell
  have HC' := Lib.hid hcell'
  clear hcell h hcell' h'
  go_enter Tryz.func37, Tryz.ntmps37
  go_wp2
  go_loopw [5] (fun i wr => ∃ k : Nat, k ≤ ls.length ∧ i = .int .i64 k ∧ Below w.heap.size w wr) (fun i _ => ls.length - (intOf i).toNat)
  case atStart => exact ⟨0, Nat.zero_le _, rfl, Below.refl _ _⟩
  case round =>
    obtain ⟨k, hk, rfl, hb⟩ := hrel
    by_cases hlt : k < ls.length
    · obtain ⟨b, off, row, rfl, hbs, hcl, hrow⟩ := HC.out k hlt
      obtain ⟨b', off', row', rfl, hbs', hcl', hrow'⟩ := HC'.out k hlt
      generalize ls.getD k [] = ld at hrow hrow'
      obtain ⟨pd, pds, pv, pvs, rfl, rfl, ph, hrow_0⟩ := RdRow.cons_inv hrow
      obtain ⟨px0, rfl, rfl⟩ := Rd.bool_inv ph
      obtain ⟨pd, pds, pv, pvs, rfl, rfl, ph, hrow_1⟩ := RdRow.cons_inv hrow_0
      obtain ⟨pl1, pa1, pc1, rfl, rfl, pe1, pf1, pr1⟩ := Rd.sl_inv ph
      obtain ⟨pd, pds, pv, pvs, rfl, rfl, ph, hrow_2⟩ := RdRow.cons_inv hrow_1
      obtain ⟨pl2, pa2, pc2, rfl, rfl, pe2, pf2, pr2⟩ := Rd.sl_inv ph
      obtain ⟨pd, pds, pv, pvs, rfl, rfl, ph, hrow_3⟩ := RdRow.cons_inv hrow_2
      obtain ⟨px3, rfl, rfl⟩ := Rd.bool_inv ph
      obtain ⟨pd, pds, pv, pvs, rfl, rfl, ph, hrow_4⟩ := RdRow.cons_inv hrow_3
      obtain ⟨pl4, pa4, pc4, rfl, rfl, pe4, pf4, pr4⟩ := Rd.sl_inv ph
      obtain ⟨pd, pds, pv, pvs, rfl, rfl, ph, hrow_5⟩ := RdRow.cons_inv hrow_4
      obtain ⟨pl5, pa5, pc5, rfl, rfl, pe5, pf5, pr5⟩ := Rd.sl_inv ph
      obtain ⟨rfl, rfl⟩ := RdRow.nil_inv hrow_5
      obtain ⟨qv, qvs, rfl, qh, hrow'_0⟩ := RdRow.cons2 hrow'
      obtain rfl := Rd.bool2 qh
      obtain ⟨qv, qvs, rfl, qh, hrow'_1⟩ := RdRow.cons2 hrow'_0
      obtain ⟨qa1, qc1, rfl, qe1, qf1, qr1⟩ := Rd.sl2 qh
      obtain ⟨qv, qvs, rfl, qh, hrow'_2⟩ := RdRow.cons2 hrow'_1
      obtain ⟨qa2, qc2, rfl, qe2, qf2, qr2⟩ := Rd.sl2 qh
      obtain ⟨qv, qvs, rfl, qh, hrow'_3⟩ := RdRow.cons2 hrow'_2
      obtain rfl := Rd.bool2 qh
      obtain ⟨qv, qvs, rfl, qh, hrow'_4⟩ := RdRow.cons2 hrow'_3
      obtain ⟨qa4, qc4, rfl, qe4, qf4, qr4⟩ := Rd.sl2 qh
      obtain ⟨qv, qvs, rfl, qh, hrow'_5⟩ := RdRow.cons2 hrow'_4
      obtain ⟨qa5, qc5, rfl, qe5, qf5, qr5⟩ := Rd.sl2 qh
      obtain ⟨-, rfl⟩ := RdRow.nil_inv hrow'_5
      have d0 : wr.cell? ⟨b, off + k * 6, none⟩ = some (.bool px0) := (hb.cell (p := ⟨b, _, none⟩) hbs).trans (by have q := hcl 0 (by decide); simpa [Nat.add_assoc] using q)
      have d'0 : wr.cell? ⟨b', off' + k * 6, none⟩ = some (.bool px0) := (hb.cell (p := ⟨b', _, none⟩) hbs').trans (by have q := hcl' 0 (by decide); simpa [Nat.add_assoc] using q)
      have d1 : wr.cell? ⟨b, off + k * 6 + 1, none⟩ = some (.slice pa1 pl1.length pc1) := (hb.cell (p := ⟨b, _, none⟩) hbs).trans (by have q := hcl 1 (by decide); simpa [Nat.add_assoc] using q)
      have d'1 : wr.cell? ⟨b', off' + k * 6 + 1, none⟩ = some (.slice qa1 pl1.length qc1) := (hb.cell (p := ⟨b', _, none⟩) hbs').trans (by have q := hcl' 1 (by decide); simpa [Nat.add_assoc] using q)
      have d2 : wr.cell? ⟨b, off + k * 6 + 2, none⟩ = some (.slice pa2 pl2.length pc2) := (hb.cell (p := ⟨b, _, none⟩) hbs).trans (by have q := hcl 2 (by decide); simpa [Nat.add_assoc] using q)
      have d'2 : wr.cell? ⟨b', off' + k * 6 + 2, none⟩ = some (.slice qa2 pl2.length qc2) := (hb.cell (p := ⟨b', _, none⟩) hbs').trans (by have q := hcl' 2 (by decide); simpa [Nat.add_assoc] using q)
      have d3 : wr.cell? ⟨b, off + k * 6 + 3, none⟩ = some (.bool px3) := (hb.cell (p := ⟨b, _, none⟩) hbs).trans (by have q := hcl 3 (by decide); simpa [Nat.add_assoc] using q)
      have d'3 : wr.cell? ⟨b', off' + k * 6 + 3, none⟩ = some (.bool px3) := (hb.cell (p := ⟨b', _, none⟩) hbs').trans (by have q := hcl' 3 (by decide); simpa [Nat.add_assoc] using q)
      have d4 : wr.cell? ⟨b, off + k * 6 + 4, none⟩ = some (.slice pa4 pl4.length pc4) := (hb.cell (p := ⟨b, _, none⟩) hbs).trans (by have q := hcl 4 (by decide); simpa [Nat.add_assoc] using q)
      have d'4 : wr.cell? ⟨b', off' + k * 6 + 4, none⟩ = some (.slice qa4 pl4.length qc4) := (hb.cell (p := ⟨b', _, none⟩) hbs').trans (by have q := hcl' 4 (by decide); simpa [Nat.add_assoc] using q)
      have d5 : wr.cell? ⟨b, off + k * 6 + 5, none⟩ = some (.slice pa5 pl5.length pc5) := (hb.cell (p := ⟨b, _, none⟩) hbs).trans (by have q := hcl 5 (by decide); simpa [Nat.add_assoc] using q)
      have d'5 : wr.cell? ⟨b', off' + k * 6 + 5, none⟩ = some (.slice qa5 pl5.length qc5) := (hb.cell (p := ⟨b', _, none⟩) hbs').trans (by have q := hcl' 5 (by decide); simpa [Nat.add_assoc] using q)
      have H1 := Lib.hid (Rd.below hb _ _ _ pr1)
      have G1 := Lib.hid (Rd.below hb _ _ _ qr1)
      clear pr1 qr1
      have H2 := Lib.hid (Rd.below hb _ _ _ pr2)
      have G2 := Lib.hid (Rd.below hb _ _ _ qr2)
      clear pr2 qr2
      have H4 := Lib.hid (Rd.below hb _ _ _ pr4)
      have G4 := Lib.hid (Rd.below hb _ _ _ qr4)
      clear pr4 qr4
      have H5 := Lib.hid (Rd.below hb _ _ _ pr5)
      have G5 := Lib.hid (Rd.below hb _ _ _ qr5)
      clear pr5 qr5
      have HB := Lib.hid hb
      have T9 := hb.size
      clear hcl hcl' hb
      go_wp2
      go_region_held3 (fun w' => w'.cell? ⟨b, off + k * 6, none⟩ = some (.bool px0) ∧ w'.cell? ⟨b, off + k * 6 + 1, none⟩ = some (.slice pa1 pl1.length pc1) ∧ w'.cell? ⟨b, off + k * 6 + 2, none⟩ = some (.slice pa2 pl2.length pc2) ∧ w'.cell? ⟨b, off + k * 6 + 3, none⟩ = some (.bool px3) ∧ w'.cell? ⟨b, off + k * 6 + 4, none⟩ = some (.slice pa4 pl4.length pc4) ∧ w'.cell? ⟨b, off + k * 6 + 5, none⟩ = some (.slice pa5 pl5.length pc5) ∧ w'.cell? ⟨b', off' + k * 6, none⟩ = some (.bool px0) ∧ w'.cell? ⟨b', off' + k * 6 + 1, none⟩ = some (.slice qa1 pl1.length qc1) ∧ w'.cell? ⟨b', off' + k * 6 + 2, none⟩ = some (.slice qa2 pl2.length qc2) ∧ w'.cell? ⟨b', off' + k * 6 + 3, none⟩ = some (.bool px3) ∧ w'.cell? ⟨b', off' + k * 6 + 4, none⟩ = some (.slice qa4 pl4.length qc4) ∧ w'.cell? ⟨b', off' + k * 6 + 5, none⟩ = some (.slice qa5 pl5.length qc5)) ((refine ⟨?_, ?_, ?_, ?_, ?_, ?_, ?_, ?_, ?_, ?_, ?_, ?_⟩ <;> go_simp))
        (((go_at_call 21); (refine (eqPoint_c [.bool px0, .sl pl1, .sl pl2, .bool px3, .sl pl4, .sl pl5] [.bool px0, .slice pa1 pl1.length pc1, .slice pa2 pl2.length pc2, .bool px3, .slice pa4 pl4.length pc4, .slice pa5 pl5.length pc5] [.bool px0, .slice qa1 pl1.length qc1, .slice qa2 pl2.length qc2, .bool px3, .slice qa4 pl4.length qc4, .slice qa5 pl5.length qc5] _ (RdRow.below (by (repeat (first | with_reducible exact Below.refl _ _ | with_reducible assumption | with_reducible refine Below.drew ?_ | with_reducible refine Below.setCell ?_ ?_ _ | with_reducible refine Below.alloc ?_ ?_ _)); all_goals first | (simp; done) | (simp; omega) | omega) _ _ _ (RdRow.mk_cons (Rd.mk_bool px0) (RdRow.mk_cons H1.out (RdRow.mk_cons H2.out (RdRow.mk_cons (Rd.mk_bool px3) (RdRow.mk_cons H4.out (RdRow.mk_cons H5.out RdRow.mk_nil))))))) (RdRow.below (by (repeat (first | with_reducible exact Below.refl _ _ | with_reducible assumption | with_reducible refine Below.drew ?_ | with_reducible refine Below.setCell ?_ ?_ _ | with_reducible refine Below.alloc ?_ ?_ _)); all_goals first | (simp; done) | (simp; omega) | omega) _ _ _ (RdRow.mk_cons (Rd.mk_bool px0) (RdRow.mk_cons G1.out (RdRow.mk_cons G2.out (RdRow.mk_cons (Rd.mk_bool px3) (RdRow.mk_cons G4.out (RdRow.mk_cons G5.out RdRow.mk_nil)))))))).mono ?_); rintro e w1 ⟨rfl, hb1⟩; have B1 : Below w.heap.size w w1 := Below.trans (Below.drew HB.out) (hb1.mono T9); have HB1 := Lib.hid B1; obtain ⟨k1, f1⟩ := bcell hb1; (try simp at k1); (try simp at f1); have x1 : b < wr.heap.size := Nat.lt_of_lt_of_le hbs T9; have x2 : b' < wr.heap.size := Nat.lt_of_lt_of_le hbs' T9; clear B1 hb1))
      all_goals
        go_wp2
        go_roundw
        case rel => exact ⟨k + 1, by omega, by go_num, HB1.out⟩
        case measure => simp [intOf]; omega
    · have HB := Lib.hid hb
      clear hb
      go_wp2
      go_ret
      exact ⟨rfl, HB.out⟩
set_option maxRecDepth 100000 in
set_option maxHeartbeats 4000000 in
theorem markPointS_c (ls : List (List Dat)) (k : Int) (hk0 : 0 ≤ k) (hk1 : k + (cntRows ls : Int) ≤ 4611686018427387904) (bs : List Nat) (hn : bs.Nodup) (v : Value) (w : World) (h : Fp w (.sl 39 [.bool, .sl 3 [.int], .sl 3 [.int], .bool, .sl 3 [.int], .sl 3 [.int]]) (.sl ls) v bs) :
    Calls Tryz.prog 40 #[v, .int .i64 k] w fun e w' => e = .returned (.int .i64 (k + (cntRows ls : Int))) ∧ Fp w' (.sl 39 [.bool, .sl 3 [.int], .sl 3 [.int], .bool, .sl 3 [.int], .sl 3 [.int]]) (.sl (mkRows k ls)) v bs ∧ OnlyIn (fun b => b ∈ bs) w w' := by
  obtain ⟨a, cap, rfl, hl, hc, -⟩ := (Fp.rd _ _ _ _ h).open
  have H := Lib.hid h
  have HN := Lib.hid hn
  have hnil : ∀ b off, a = some ⟨b, off, none⟩ → off = 0 := fun b off ha => by
    simp only [Fp] at h
    obtain ⟨rows, bss, ⟨_, h1⟩, _⟩ := h
    rcases h1 with ⟨h1, _⟩ | ⟨g, _, _, h1, _⟩
    · simp [ha] at h1
    · simp [ha] at h1; exact h1.1.2
  have HNL := Lib.hid hnil
  have HA : Hid (∀ j, j < ls.length → ∃ g, a = some ⟨g, 0, none⟩ ∧ g ∈ bs) := fun j hj => by
    obtain ⟨a', cap', e', _, _, q⟩ := (Fp.rd _ _ _ _ h).open
    simp only [Value.slice.injEq] at e'
    obtain ⟨b, off, row, h1, h2, h3, h4⟩ := q j hj
    rw [← e'.1] at h1
    obtain rfl := HNL.out b off h1
    exact ⟨b, h1, by simp only [Fp] at h; obtain ⟨_, _, _, _, _, _, _, rfl⟩ := h; simp [Value.ownBlock, h1]⟩
  clear h hn hnil
  have hk2 : k ≤ 4611686018427387904 := by omega
  have HK := Lib.hid hk1
  clear hk1
  go_enter Tryz.func40, Tryz.ntmps40
  go_wp2
  go_loopw [1, 5] (fun c i wr => ∃ (j : Nat) (m : Int), j ≤ ls.length ∧ i = .int .i64 j ∧ c = .int .i64 m ∧ m = k + (cntRows (ls.take j) : Int) ∧ Fp wr (.sl 39 [.bool, .sl 3 [.int], .sl 3 [.int], .bool, .sl 3 [.int], .sl 3 [.int]]) (.sl (marked k j ls)) (.slice a ls.length cap) bs ∧ OnlyIn (fun b => b ∈ bs) w wr) (fun _ i _ => ls.length - (intOf i).toNat)
  case atStart => exact ⟨0, _, Nat.zero_le _, rfl, rfl, by simp [cntRows], by rw [marked_zero]; exact H.out, OnlyIn.refl _ _⟩
  case round =>
    obtain ⟨j, m, hj, rfl, rfl, hm, hfp, hon⟩ := hrel
    by_cases hlt : j < ls.length
    · obtain ⟨g, rfl, hgb⟩ := HA.out j hlt
      have hml : j < (marked k j ls).length := by rw [marked_length]; exact hlt
      have hms := marked_succ k j ls hlt
      have hmg := marked_getD k j ls hlt
      have hct := cntRows_take ls j hlt
      have hcl := cntRows_take_le ls (j + 1)
      rw [← hm] at hms
      obtain ⟨row, bj, hcell, hfz, hrow, -, -, -, -, -⟩ := Fp.row hfp HN.out hml
      rw [hmg] at hrow
      have hrd := FpRow.rd _ _ _ _ hrow
      have hself : (marked k j ls).set j (ls.getD j []) = marked k j ls := by rw [← hmg]; exact set_getD_self
      rw [← hself] at hfp
      clear hrow hself hmg
      obtain ⟨ld, hld⟩ : ∃ ld, ls.getD j [] = ld := ⟨_, rfl⟩
      rw [hld] at hrd hms hct hfp
      clear hld
      obtain ⟨pd, pds, pv, pvs, rfl, rfl, ph, hrd_0⟩ := RdRow.cons_inv hrd
      obtain ⟨px0, rfl, rfl⟩ := Rd.bool_inv ph
      obtain ⟨pd, pds, pv, pvs, rfl, rfl, ph, hrd_1⟩ := RdRow.cons_inv hrd_0
      obtain ⟨pl1, pa1, pc1, rfl, rfl, pe1, pf1, pr1⟩ := Rd.sl_inv ph
      obtain ⟨pd, pds, pv, pvs, rfl, rfl, ph, hrd_2⟩ := RdRow.cons_inv hrd_1
      obtain ⟨pl2, pa2, pc2, rfl, rfl, pe2, pf2, pr2⟩ := Rd.sl_inv ph
      obtain ⟨pd, pds, pv, pvs, rfl, rfl, ph, hrd_3⟩ := RdRow.cons_inv hrd_2
      obtain ⟨px3, rfl, rfl⟩ := Rd.bool_inv ph
      obtain ⟨pd, pds, pv, pvs, rfl, rfl, ph, hrd_4⟩ := RdRow.cons_inv hrd_3
      obtain ⟨pl4, pa4, pc4, rfl, rfl, pe4, pf4, pr4⟩ := Rd.sl_inv ph
      obtain ⟨pd, pds, pv, pvs, rfl, rfl, ph, hrd_5⟩ := RdRow.cons_inv hrd_4
      obtain ⟨pl5, pa5, pc5, rfl, rfl, pe5, pf5, pr5⟩ := Rd.sl_inv ph
      obtain ⟨rfl, rfl⟩ := RdRow.nil_inv hrd_5
      obtain ⟨M, hM⟩ : ∃ M, marked k j ls = M := ⟨_, rfl⟩
      rw [hM] at hms hml hfp
      clear hM
      have d0 : wr.cell? ⟨g, j * 6, none⟩ = some (.bool px0) := by have q := hcell 0 (by decide); simpa using q
      have f0 := hfz (j * 6)
      have d1 : wr.cell? ⟨g, j * 6 + 1, none⟩ = some (.slice pa1 pl1.length pc1) := by have q := hcell 1 (by decide); simpa using q
      have f1 := hfz (j * 6 + 1)
      have d2 : wr.cell? ⟨g, j * 6 + 2, none⟩ = some (.slice pa2 pl2.length pc2) := by have q := hcell 2 (by decide); simpa using q
      have f2 := hfz (j * 6 + 2)
      have d3 : wr.cell? ⟨g, j * 6 + 3, none⟩ = some (.bool px3) := by have q := hcell 3 (by decide); simpa using q
      have f3 := hfz (j * 6 + 3)
      have d4 : wr.cell? ⟨g, j * 6 + 4, none⟩ = some (.slice pa4 pl4.length pc4) := by have q := hcell 4 (by decide); simpa using q
      have f4 := hfz (j * 6 + 4)
      have d5 : wr.cell? ⟨g, j * 6 + 5, none⟩ = some (.slice pa5 pl5.length pc5) := by have q := hcell 5 (by decide); simpa using q
      have f5 := hfz (j * 6 + 5)
      clear pr1
      clear pr2
      clear pr4
      clear pr5
      have hmk : mkRow m [.bool px0, .sl pl1, .sl pl2, .bool px3, .sl pl4, .sl pl5] = [.bool ((m) % 3 == 0), .sl (mkRows (m + 1) pl1), .sl (mkRows (m + 1 + (cntRows pl1 : Int)) pl2), .bool ((m + 1 + (cntRows pl1 : Int) + (cntRows pl2 : Int)) % 3 == 0), .sl (mkRows (m + 1 + (cntRows pl1 : Int) + (cntRows pl2 : Int) + 1) pl4), .sl (mkRows (m + 1 + (cntRows pl1 : Int) + (cntRows pl2 : Int) + 1 + (cntRows pl4 : Int)) pl5)] := by first | (simp [mkRow, Dat.mk', Dat.cnt]; done) | (simp [mkRow, Dat.mk', Dat.cnt]; (repeat apply And.intro) <;> rfl)
      rw [hmk] at hms
      clear hmk
      have hfin : m + 1 + (cntRows pl1 : Int) + (cntRows pl2 : Int) + 1 + (cntRows pl4 : Int) + (cntRows pl5 : Int) = k + (cntRows (ls.take (j + 1)) : Int) := by rw [hct, hm]; simp only [cntRow, Dat.cnt]; omega
      have hbd : m + 1 + (cntRows pl1 : Int) + (cntRows pl2 : Int) + 1 + (cntRows pl4 : Int) + (cntRows pl5 : Int) ≤ 4611686018427387904 := by have := HK.out; omega
      have hm0 : 0 ≤ m := by omega
      have y1 : 0 ≤ m + 1 ∧ m + 1 ≤ 4611686018427387904 := ⟨by omega, by omega⟩
      have y2 : 0 ≤ m + 1 + (cntRows pl1 : Int) ∧ m + 1 + (cntRows pl1 : Int) ≤ 4611686018427387904 := ⟨by omega, by omega⟩
      have y3 : 0 ≤ m + 1 + (cntRows pl1 : Int) + (cntRows pl2 : Int) ∧ m + 1 + (cntRows pl1 : Int) + (cntRows pl2 : Int) ≤ 4611686018427387904 := ⟨by omega, by omega⟩
      have y4 : 0 ≤ m + 1 + (cntRows pl1 : Int) + (cntRows pl2 : Int) + 1 ∧ m + 1 + (cntRows pl1 : Int) + (cntRows pl2 : Int) + 1 ≤ 4611686018427387904 := ⟨by omega, by omega⟩
      have y5 : 0 ≤ m + 1 + (cntRows pl1 : Int) + (cntRows pl2 : Int) + 1 + (cntRows pl4 : Int) ∧ m + 1 + (cntRows pl1 : Int) + (cntRows pl2 : Int) + 1 + (cntRows pl4 : Int) ≤ 4611686018427387904 := ⟨by omega, by omega⟩
      have y6 : 0 ≤ m + 1 + (cntRows pl1 : Int) + (cntRows pl2 : Int) + 1 + (cntRows pl4 : Int) + (cntRows pl5 : Int) ∧ m + 1 + (cntRows pl1 : Int) + (cntRows pl2 : Int) + 1 + (cntRows pl4 : Int) + (cntRows pl5 : Int) ≤ 4611686018427387904 := ⟨by omega, by omega⟩
      obtain ⟨y1a, y1b⟩ := y1
      obtain ⟨y2a, y2b⟩ := y2
      obtain ⟨y3a, y3b⟩ := y3
      obtain ⟨y4a, y4b⟩ := y4
      obtain ⟨y5a, y5b⟩ := y5
      obtain ⟨y6a, y6b⟩ := y6
      have HMS := Lib.hid hms
      have HF := Lib.hid hfin
      have HM0 := Lib.hid hm
      have HON := Lib.hid hon
      have HG := Lib.hid hgb
      clear hms hfin hct hcl hm hon hgb hfz hcell
      have F := Lib.hid hfp
      have HL := Lib.hid hml
      clear hfp hml
      have F0_ : Hid (Fp (wr.setCell ⟨g, j * 6, none⟩ (.bool ((m) % 3 == 0))) (.sl 39 [.bool, .sl 3 [.int], .sl 3 [.int], .bool, .sl 3 [.int], .sl 3 [.int]]) (.sl (M.set j [.bool ((m) % 3 == 0), .sl pl1, .sl pl2, .bool px3, .sl pl4, .sl pl5])) (.slice (some ⟨g, 0, none⟩) ls.length cap) bs) := by
        have q := Fp.leafAt F.out HN.out HL.out 0 (by decide) rfl (.bool ((m) % 3 == 0)) (.bool ((m) % 3 == 0)) (fun _ => Fp.mk_bool _)
        exact q
      have N0_ : Hid (OnlyIn (fun b => b ∈ bs) w (wr.setCell ⟨g, j * 6, none⟩ (.bool ((m) % 3 == 0)))) := HON.out.setCell HG.out _
      obtain ⟨c1, b1, e1, p1, o1, s1, q1⟩ := Fp.nestedAt (ts := [.bool, .sl 3 [.int], .sl 3 [.int], .bool, .sl 3 [.int], .sl 3 [.int]]) [.bool] (.sl 3 [.int]) [.sl 3 [.int], .bool, .sl 3 [.int], .sl 3 [.int]] [.bool ((m) % 3 == 0)] (.sl pl1) [.sl pl2, .bool px3, .sl pl4, .sl pl5] F0_.out HN.out HL.out rfl rfl
      obtain rfl : c1 = .slice pa1 pl1.length pc1 := by
        have z : (wr.setCell ⟨g, j * 6, none⟩ (.bool ((m) % 3 == 0))).cell? ⟨g, j * 6 + 1, none⟩ = some (.slice pa1 pl1.length pc1) := by go_simp
        have z2 : (wr.setCell ⟨g, j * 6, none⟩ (.bool ((m) % 3 == 0))).cell? ⟨g, j * 6 + 1, none⟩ = some c1 := by simpa using e1
        rw [z] at z2; exact (Option.some.inj z2).symm
      have P1_ := Lib.hid (And.intro p1 (And.intro o1 (And.intro s1 q1)))
      clear e1 p1 o1 s1 q1
      go_wp2_with fail
      refine (markIntS_c pl1 (m + 1) (by omega) (by omega) b1 P1_.out.2.1 _ _ P1_.out.1).mono ?_
      rintro e w1 ⟨rfl, hf, ho⟩
      have F1_ : Hid (Fp w1 (.sl 39 [.bool, .sl 3 [.int], .sl 3 [.int], .bool, .sl 3 [.int], .sl 3 [.int]]) (.sl (M.set j [.bool ((m) % 3 == 0), .sl (mkRows (m + 1) pl1), .sl pl2, .bool px3, .sl pl4, .sl pl5])) (.slice (some ⟨g, 0, none⟩) ls.length cap) bs) := P1_.out.2.2.2 w1 (.sl (mkRows (m + 1) pl1)) ho hf
      have N1_ : Hid (OnlyIn (fun b => b ∈ bs) w w1) := N0_.out.trans (ho.mono (fun b hb => P1_.out.2.2.1 b hb))
      obtain ⟨row1, bj1, hcell, hfz, hrow, -, -, -, -, -⟩ := Fp.row F1_.out HN.out (j := j) (by have := HL.out; simpa using this)
      rw [getD_set_self HL.out] at hrow
      have hrd := FpRow.rd _ _ _ _ hrow
      clear hf ho hrow hrd
      have fz1 := Lib.hid hfz
      clear hfz
      have dd2 := hcell 2 (by decide)
      obtain ⟨z1_2, d2⟩ : ∃ c, w1.cell? ⟨g, j * 6 + 2, none⟩ = some c := ⟨_, by simpa using dd2⟩
      have f2 := fz1.out (j * 6 + 2)
      clear dd2
      have dd3 := hcell 3 (by decide)
      obtain ⟨z1_3, d3⟩ : ∃ c, w1.cell? ⟨g, j * 6 + 3, none⟩ = some c := ⟨_, by simpa using dd3⟩
      have f3 := fz1.out (j * 6 + 3)
      clear dd3
      have dd4 := hcell 4 (by decide)
      obtain ⟨z1_4, d4⟩ : ∃ c, w1.cell? ⟨g, j * 6 + 4, none⟩ = some c := ⟨_, by simpa using dd4⟩
      have f4 := fz1.out (j * 6 + 4)
      clear dd4
      have dd5 := hcell 5 (by decide)
      obtain ⟨z1_5, d5⟩ : ∃ c, w1.cell? ⟨g, j * 6 + 5, none⟩ = some c := ⟨_, by simpa using dd5⟩
      have f5 := fz1.out (j * 6 + 5)
      clear dd5
      clear hcell
      obtain ⟨c2, b2, e2, p2, o2, s2, q2⟩ := Fp.nestedAt (ts := [.bool, .sl 3 [.int], .sl 3 [.int], .bool, .sl 3 [.int], .sl 3 [.int]]) [.bool, .sl 3 [.int]] (.sl 3 [.int]) [.bool, .sl 3 [.int], .sl 3 [.int]] [.bool ((m) % 3 == 0), .sl (mkRows (m + 1) pl1)] (.sl pl2) [.bool px3, .sl pl4, .sl pl5] F1_.out HN.out HL.out rfl rfl
      obtain rfl : c2 = z1_2 := by
        have z : w1.cell? ⟨g, j * 6 + 2, none⟩ = some (z1_2) := by go_simp
        have z2 : w1.cell? ⟨g, j * 6 + 2, none⟩ = some c2 := by simpa using e2
        rw [z] at z2; exact (Option.some.inj z2).symm
      have P2_ := Lib.hid (And.intro p2 (And.intro o2 (And.intro s2 q2)))
      clear e2 p2 o2 s2 q2
      go_wp2_with fail
      refine (markIntS_c pl2 (m + 1 + (cntRows pl1 : Int)) (by omega) (by omega) b2 P2_.out.2.1 _ _ P2_.out.1).mono ?_
      rintro e w2 ⟨rfl, hf, ho⟩
      have F2_ : Hid (Fp w2 (.sl 39 [.bool, .sl 3 [.int], .sl 3 [.int], .bool, .sl 3 [.int], .sl 3 [.int]]) (.sl (M.set j [.bool ((m) % 3 == 0), .sl (mkRows (m + 1) pl1), .sl (mkRows (m + 1 + (cntRows pl1 : Int)) pl2), .bool px3, .sl pl4, .sl pl5])) (.slice (some ⟨g, 0, none⟩) ls.length cap) bs) := P2_.out.2.2.2 w2 (.sl (mkRows (m + 1 + (cntRows pl1 : Int)) pl2)) ho hf
      have N2_ : Hid (OnlyIn (fun b => b ∈ bs) w w2) := N1_.out.trans (ho.mono (fun b hb => P2_.out.2.2.1 b hb))
      obtain ⟨row2, bj2, hcell, hfz, hrow, -, -, -, -, -⟩ := Fp.row F2_.out HN.out (j := j) (by have := HL.out; simpa using this)
      rw [getD_set_self HL.out] at hrow
      have hrd := FpRow.rd _ _ _ _ hrow
      clear hf ho hrow hrd
      have fz2 := Lib.hid hfz
      clear hfz
      have dd3 := hcell 3 (by decide)
      obtain ⟨z2_3, d3⟩ : ∃ c, w2.cell? ⟨g, j * 6 + 3, none⟩ = some c := ⟨_, by simpa using dd3⟩
      have f3 := fz2.out (j * 6 + 3)
      clear dd3
      have dd4 := hcell 4 (by decide)
      obtain ⟨z2_4, d4⟩ : ∃ c, w2.cell? ⟨g, j * 6 + 4, none⟩ = some c := ⟨_, by simpa using dd4⟩
      have f4 := fz2.out (j * 6 + 4)
      clear dd4
      have dd5 := hcell 5 (by decide)
      obtain ⟨z2_5, d5⟩ : ∃ c, w2.cell? ⟨g, j * 6 + 5, none⟩ = some c := ⟨_, by simpa using dd5⟩
      have f5 := fz2.out (j * 6 + 5)
      clear dd5
      clear hcell
      have F3_ : Hid (Fp (w2.setCell ⟨g, j * 6 + 3, none⟩ (.bool ((m + 1 + (cntRows pl1 : Int) + (cntRows pl2 : Int)) % 3 == 0))) (.sl 39 [.bool, .sl 3 [.int], .sl 3 [.int], .bool, .sl 3 [.int], .sl 3 [.int]]) (.sl (M.set j [.bool ((m) % 3 == 0), .sl (mkRows (m + 1) pl1), .sl (mkRows (m + 1 + (cntRows pl1 : Int)) pl2), .bool ((m + 1 + (cntRows pl1 : Int) + (cntRows pl2 : Int)) % 3 == 0), .sl pl4, .sl pl5])) (.slice (some ⟨g, 0, none⟩) ls.length cap) bs) := by
        have q := Fp.leafAt F2_.out HN.out HL.out 3 (by decide) rfl (.bool ((m + 1 + (cntRows pl1 : Int) + (cntRows pl2 : Int)) % 3 == 0)) (.bool ((m + 1 + (cntRows pl1 : Int) + (cntRows pl2 : Int)) % 3 == 0)) (fun _ => Fp.mk_bool _)
        exact q
      have N3_ : Hid (OnlyIn (fun b => b ∈ bs) w (w2.setCell ⟨g, j * 6 + 3, none⟩ (.bool ((m + 1 + (cntRows pl1 : Int) + (cntRows pl2 : Int)) % 3 == 0)))) := N2_.out.setCell HG.out _
      obtain ⟨c4, b4, e4, p4, o4, s4, q4⟩ := Fp.nestedAt (ts := [.bool, .sl 3 [.int], .sl 3 [.int], .bool, .sl 3 [.int], .sl 3 [.int]]) [.bool, .sl 3 [.int], .sl 3 [.int], .bool] (.sl 3 [.int]) [.sl 3 [.int]] [.bool ((m) % 3 == 0), .sl (mkRows (m + 1) pl1), .sl (mkRows (m + 1 + (cntRows pl1 : Int)) pl2), .bool ((m + 1 + (cntRows pl1 : Int) + (cntRows pl2 : Int)) % 3 == 0)] (.sl pl4) [.sl pl5] F3_.out HN.out HL.out rfl rfl
      obtain rfl : c4 = z2_4 := by
        have z : (w2.setCell ⟨g, j * 6 + 3, none⟩ (.bool ((m + 1 + (cntRows pl1 : Int) + (cntRows pl2 : Int)) % 3 == 0))).cell? ⟨g, j * 6 + 4, none⟩ = some (z2_4) := by go_simp
        have z2 : (w2.setCell ⟨g, j * 6 + 3, none⟩ (.bool ((m + 1 + (cntRows pl1 : Int) + (cntRows pl2 : Int)) % 3 == 0))).cell? ⟨g, j * 6 + 4, none⟩ = some c4 := by simpa using e4
        rw [z] at z2; exact (Option.some.inj z2).symm
      have P4_ := Lib.hid (And.intro p4 (And.intro o4 (And.intro s4 q4)))
      clear e4 p4 o4 s4 q4
      go_wp2_with fail
      refine (markIntS_c pl4 (m + 1 + (cntRows pl1 : Int) + (cntRows pl2 : Int) + 1) (by omega) (by omega) b4 P4_.out.2.1 _ _ P4_.out.1).mono ?_
      rintro e w3 ⟨rfl, hf, ho⟩
      have F4_ : Hid (Fp w3 (.sl 39 [.bool, .sl 3 [.int], .sl 3 [.int], .bool, .sl 3 [.int], .sl 3 [.int]]) (.sl (M.set j [.bool ((m) % 3 == 0), .sl (mkRows (m + 1) pl1), .sl (mkRows (m + 1 + (cntRows pl1 : Int)) pl2), .bool ((m + 1 + (cntRows pl1 : Int) + (cntRows pl2 : Int)) % 3 == 0), .sl (mkRows (m + 1 + (cntRows pl1 : Int) + (cntRows pl2 : Int) + 1) pl4), .sl pl5])) (.slice (some ⟨g, 0, none⟩) ls.length cap) bs) := P4_.out.2.2.2 w3 (.sl (mkRows (m + 1 + (cntRows pl1 : Int) + (cntRows pl2 : Int) + 1) pl4)) ho hf
      have N4_ : Hid (OnlyIn (fun b => b ∈ bs) w w3) := N3_.out.trans (ho.mono (fun b hb => P4_.out.2.2.1 b hb))
      obtain ⟨row4, bj4, hcell, hfz, hrow, -, -, -, -, -⟩ := Fp.row F4_.out HN.out (j := j) (by have := HL.out; simpa using this)
      rw [getD_set_self HL.out] at hrow
      have hrd := FpRow.rd _ _ _ _ hrow
      clear hf ho hrow hrd
      have fz4 := Lib.hid hfz
      clear hfz
      have dd5 := hcell 5 (by decide)
      obtain ⟨z4_5, d5⟩ : ∃ c, w3.cell? ⟨g, j * 6 + 5, none⟩ = some c := ⟨_, by simpa using dd5⟩
      have f5 := fz4.out (j * 6 + 5)
      clear dd5
      clear hcell
      obtain ⟨c5, b5, e5, p5, o5, s5, q5⟩ := Fp.nestedAt (ts := [.bool, .sl 3 [.int], .sl 3 [.int], .bool, .sl 3 [.int], .sl 3 [.int]]) [.bool, .sl 3 [.int], .sl 3 [.int], .bool, .sl 3 [.int]] (.sl 3 [.int]) [] [.bool ((m) % 3 == 0), .sl (mkRows (m + 1) pl1), .sl (mkRows (m + 1 + (cntRows pl1 : Int)) pl2), .bool ((m + 1 + (cntRows pl1 : Int) + (cntRows pl2 : Int)) % 3 == 0), .sl (mkRows (m + 1 + (cntRows pl1 : Int) + (cntRows pl2 : Int) + 1) pl4)] (.sl pl5) [] F4_.out HN.out HL.out rfl rfl
      obtain rfl : c5 = z4_5 := by
        have z : w3.cell? ⟨g, j * 6 + 5, none⟩ = some (z4_5) := by go_simp
        have z2 : w3.cell? ⟨g, j * 6 + 5, none⟩ = some c5 := by simpa using e5
        rw [z] at z2; exact (Option.some.inj z2).symm
      have P5_ := Lib.hid (And.intro p5 (And.intro o5 (And.intro s5 q5)))
      clear e5 p5 o5 s5 q5
      go_wp2_with fail
      refine (markIntS_c pl5 (m + 1 + (cntRows pl1 : Int) + (cntRows pl2 : Int) + 1 + (cntRows pl4 : Int)) (by omega) (by omega) b5 P5_.out.2.1 _ _ P5_.out.1).mono ?_
      rintro e w4 ⟨rfl, hf, ho⟩
      have F5_ : Hid (Fp w4 (.sl 39 [.bool, .sl 3 [.int], .sl 3 [.int], .bool, .sl 3 [.int], .sl 3 [.int]]) (.sl (M.set j [.bool ((m) % 3 == 0), .sl (mkRows (m + 1) pl1), .sl (mkRows (m + 1 + (cntRows pl1 : Int)) pl2), .bool ((m + 1 + (cntRows pl1 : Int) + (cntRows pl2 : Int)) % 3 == 0), .sl (mkRows (m + 1 + (cntRows pl1 : Int) + (cntRows pl2 : Int) + 1) pl4), .sl (mkRows (m + 1 + (cntRows pl1 : Int) + (cntRows pl2 : Int) + 1 + (cntRows pl4 : Int)) pl5)])) (.slice (some ⟨g, 0, none⟩) ls.length cap) bs) := P5_.out.2.2.2 w4 (.sl (mkRows (m + 1 + (cntRows pl1 : Int) + (cntRows pl2 : Int) + 1 + (cntRows pl4 : Int)) pl5)) ho hf
      have N5_ : Hid (OnlyIn (fun b => b ∈ bs) w w4) := N4_.out.trans (ho.mono (fun b hb => P5_.out.2.2.1 b hb))
      obtain ⟨row5, bj5, hcell, hfz, hrow, -, -, -, -, -⟩ := Fp.row F5_.out HN.out (j := j) (by have := HL.out; simpa using this)
      rw [getD_set_self HL.out] at hrow
      have hrd := FpRow.rd _ _ _ _ hrow
      clear hf ho hrow hrd
      clear hcell hfz
      go_wp2
      go_roundw
      case rel => exact ⟨j + 1, _, by omega, by go_num, rfl, HF.out, by rw [HMS.out]; exact F5_.out, N5_.out⟩
      case measure => simp [intOf]; omega
    · have hke : j = ls.length := by omega
      have HF : Hid (Fp wr (.sl 39 [.bool, .sl 3 [.int], .sl 3 [.int], .bool, .sl 3 [.int], .sl 3 [.int]]) (.sl (mkRows k ls)) (.slice a ls.length cap) bs) := by rw [hke, marked_all] at hfp; exact hfp
      have HM : Hid (m = k + (cntRows ls : Int)) := by rw [hke, List.take_length] at hm; exact hm
      have HON := Lib.hid hon
      clear hfp hm hon hke
      go_wp2
      go_ret
      exact ⟨ret_int HM.out, HF.out, HON.out⟩
set_option maxRecDepth 100000 in
set_option maxHeartbeats 4000000 in
theorem heldPointS_c (ls : List (List Dat)) (k : Int) (hk0 : 0 ≤ k) (hk1 : k + (cntRows ls : Int) ≤ 4611686018427387904) (w0 : World) (v0 : Value) (h0 : Rd w0 (.sl 39 [.bool, .sl 3 [.int], .sl 3 [.int], .bool, .sl 3 [.int], .sl 3 [.int]]) (.sl ls) v0) (v : Value) (w : World) (h : Rd w (.sl 39 [.bool, .sl 3 [.int], .sl 3 [.int], .bool, .sl 3 [.int], .sl 3 [.int]]) (.sl (mkRows k ls)) v) :
    Calls Tryz.prog 41 #[v, .int .i64 k] w fun e w' => e = .returned (.int .i64 (k + (cntRows ls : Int))) ∧ Below w.heap.size w w' := by
  obtain ⟨a, cap, rfl, hl, hc, hcell⟩ := h.open
  rw [mkRows_length] at hl hcell ⊢
  obtain ⟨a0, cap0, e0, _, _, hcell0⟩ := h0.open
  have HC := Lib.hid hcell
  have HC0 := Lib.hid hcell0
  clear hcell hcell0 h h0
  have hk2 : k ≤ 4611686018427387904 := by omega
  have HK := Lib.hid hk1
  clear hk1
  go_enter Tryz.func41, Tryz.ntmps41
  go_wp2
  go_loopw [1, 5] (fun c i wr => ∃ (j : Nat) (m : Int), j ≤ ls.length ∧ i = .int .i64 j ∧ c = .int .i64 m ∧ m = k + (cntRows (ls.take j) : Int) ∧ Below w.heap.size w wr) (fun _ i _ => ls.length - (intOf i).toNat)
  case atStart => exact ⟨0, _, Nat.zero_le _, rfl, rfl, by simp [cntRows], Below.refl _ _⟩
  case round =>
    obtain ⟨j, m, hj, rfl, rfl, hm, hb⟩ := hrel
    by_cases hlt : j < ls.length
    · obtain ⟨b, off, row, rfl, hbs, hcl, hrow⟩ := HC.out j hlt
      obtain ⟨b0, off0, row0, _, _, _, hrow0⟩ := HC0.out j hlt
      have hct := cntRows_take ls j hlt
      have hcl2 := cntRows_take_le ls (j + 1)
      rw [mkRows_getD k ls j hlt, ← hm] at hrow
      obtain ⟨ld, hld⟩ : ∃ ld, ls.getD j [] = ld := ⟨_, rfl⟩
      rw [hld] at hrow hrow0 hct
      clear hld
      obtain ⟨pd, pds, pv, pvs, rfl, rfl, ph, hrow0_0⟩ := RdRow.cons_inv hrow0
      obtain ⟨px0, rfl, rfl⟩ := Rd.bool_inv ph
      obtain ⟨pd, pds, pv, pvs, rfl, rfl, ph, hrow0_1⟩ := RdRow.cons_inv hrow0_0
      obtain ⟨pl1, pa1, pc1, rfl, rfl, pe1, pf1, pr1⟩ := Rd.sl_inv ph
      obtain ⟨pd, pds, pv, pvs, rfl, rfl, ph, hrow0_2⟩ := RdRow.cons_inv hrow0_1
      obtain ⟨pl2, pa2, pc2, rfl, rfl, pe2, pf2, pr2⟩ := Rd.sl_inv ph
      obtain ⟨pd, pds, pv, pvs, rfl, rfl, ph, hrow0_3⟩ := RdRow.cons_inv hrow0_2
      obtain ⟨px3, rfl, rfl⟩ := Rd.bool_inv ph
      obtain ⟨pd, pds, pv, pvs, rfl, rfl, ph, hrow0_4⟩ := RdRow.cons_inv hrow0_3
      obtain ⟨pl4, pa4, pc4, rfl, rfl, pe4, pf4, pr4⟩ := Rd.sl_inv ph
      obtain ⟨pd, pds, pv, pvs, rfl, rfl, ph, hrow0_5⟩ := RdRow.cons_inv hrow0_4
      obtain ⟨pl5, pa5, pc5, rfl, rfl, pe5, pf5, pr5⟩ := Rd.sl_inv ph
      obtain ⟨rfl, rfl⟩ := RdRow.nil_inv hrow0_5
      have P01 := Lib.hid pr1
      clear pr1
      have P02 := Lib.hid pr2
      clear pr2
      have P04 := Lib.hid pr4
      clear pr4
      have P05 := Lib.hid pr5
      clear pr5
      have hmk : mkRow m [.bool px0, .sl pl1, .sl pl2, .bool px3, .sl pl4, .sl pl5] = [.bool ((m) % 3 == 0), .sl (mkRows (m + 1) pl1), .sl (mkRows (m + 1 + (cntRows pl1 : Int)) pl2), .bool ((m + 1 + (cntRows pl1 : Int) + (cntRows pl2 : Int)) % 3 == 0), .sl (mkRows (m + 1 + (cntRows pl1 : Int) + (cntRows pl2 : Int) + 1) pl4), .sl (mkRows (m + 1 + (cntRows pl1 : Int) + (cntRows pl2 : Int) + 1 + (cntRows pl4 : Int)) pl5)] := by first | (simp [mkRow, Dat.mk', Dat.cnt]; done) | (simp [mkRow, Dat.mk', Dat.cnt]; (repeat apply And.intro) <;> rfl)
      rw [hmk] at hrow
      clear hmk
      obtain ⟨qv, qvs, rfl, qh, hrow_0⟩ := RdRow.cons2 hrow
      obtain rfl := Rd.bool2 qh
      obtain ⟨qv, qvs, rfl, qh, hrow_1⟩ := RdRow.cons2 hrow_0
      obtain ⟨qa1, qc1, rfl, qe1, qf1, qr1⟩ := Rd.sl2 qh
      rw [mkRows_length] at qe1 qr1 hcl
      obtain ⟨qv, qvs, rfl, qh, hrow_2⟩ := RdRow.cons2 hrow_1
      obtain ⟨qa2, qc2, rfl, qe2, qf2, qr2⟩ := Rd.sl2 qh
      rw [mkRows_length] at qe2 qr2 hcl
      obtain ⟨qv, qvs, rfl, qh, hrow_3⟩ := RdRow.cons2 hrow_2
      obtain rfl := Rd.bool2 qh
      obtain ⟨qv, qvs, rfl, qh, hrow_4⟩ := RdRow.cons2 hrow_3
      obtain ⟨qa4, qc4, rfl, qe4, qf4, qr4⟩ := Rd.sl2 qh
      rw [mkRows_length] at qe4 qr4 hcl
      obtain ⟨qv, qvs, rfl, qh, hrow_5⟩ := RdRow.cons2 hrow_4
      obtain ⟨qa5, qc5, rfl, qe5, qf5, qr5⟩ := Rd.sl2 qh
      rw [mkRows_length] at qe5 qr5 hcl
      obtain ⟨-, rfl⟩ := RdRow.nil_inv hrow_5
      have d0 : wr.cell? ⟨b, off + j * 6, none⟩ = some (.bool ((m) % 3 == 0)) := (hb.cell (p := ⟨b, _, none⟩) hbs).trans (by have q := hcl 0 (by decide); simpa [Nat.add_assoc] using q)
      have d1 : wr.cell? ⟨b, off + j * 6 + 1, none⟩ = some (.slice qa1 pl1.length qc1) := (hb.cell (p := ⟨b, _, none⟩) hbs).trans (by have q := hcl 1 (by decide); simpa [Nat.add_assoc] using q)
      have d2 : wr.cell? ⟨b, off + j * 6 + 2, none⟩ = some (.slice qa2 pl2.length qc2) := (hb.cell (p := ⟨b, _, none⟩) hbs).trans (by have q := hcl 2 (by decide); simpa [Nat.add_assoc] using q)
      have d3 : wr.cell? ⟨b, off + j * 6 + 3, none⟩ = some (.bool ((m + 1 + (cntRows pl1 : Int) + (cntRows pl2 : Int)) % 3 == 0)) := (hb.cell (p := ⟨b, _, none⟩) hbs).trans (by have q := hcl 3 (by decide); simpa [Nat.add_assoc] using q)
      have d4 : wr.cell? ⟨b, off + j * 6 + 4, none⟩ = some (.slice qa4 pl4.length qc4) := (hb.cell (p := ⟨b, _, none⟩) hbs).trans (by have q := hcl 4 (by decide); simpa [Nat.add_assoc] using q)
      have d5 : wr.cell? ⟨b, off + j * 6 + 5, none⟩ = some (.slice qa5 pl5.length qc5) := (hb.cell (p := ⟨b, _, none⟩) hbs).trans (by have q := hcl 5 (by decide); simpa [Nat.add_assoc] using q)
      have H1 := Lib.hid (Rd.below hb _ _ _ qr1)
      clear qr1
      have H2 := Lib.hid (Rd.below hb _ _ _ qr2)
      clear qr2
      have H4 := Lib.hid (Rd.below hb _ _ _ qr4)
      clear qr4
      have H5 := Lib.hid (Rd.below hb _ _ _ qr5)
      clear qr5
      have hfin : m + 1 + (cntRows pl1 : Int) + (cntRows pl2 : Int) + 1 + (cntRows pl4 : Int) + (cntRows pl5 : Int) = k + (cntRows (ls.take (j + 1)) : Int) := by rw [hct, hm]; simp only [cntRow, Dat.cnt]; omega
      have hbd : m + 1 + (cntRows pl1 : Int) + (cntRows pl2 : Int) + 1 + (cntRows pl4 : Int) + (cntRows pl5 : Int) ≤ 4611686018427387904 := by have := HK.out; omega
      have hm0 : 0 ≤ m := by omega
      have y1 : 0 ≤ m + 1 ∧ m + 1 ≤ 4611686018427387904 := ⟨by omega, by omega⟩
      have y2 : 0 ≤ m + 1 + (cntRows pl1 : Int) ∧ m + 1 + (cntRows pl1 : Int) ≤ 4611686018427387904 := ⟨by omega, by omega⟩
      have y3 : 0 ≤ m + 1 + (cntRows pl1 : Int) + (cntRows pl2 : Int) ∧ m + 1 + (cntRows pl1 : Int) + (cntRows pl2 : Int) ≤ 4611686018427387904 := ⟨by omega, by omega⟩
      have y4 : 0 ≤ m + 1 + (cntRows pl1 : Int) + (cntRows pl2 : Int) + 1 ∧ m + 1 + (cntRows pl1 : Int) + (cntRows pl2 : Int) + 1 ≤ 4611686018427387904 := ⟨by omega, by omega⟩
      have y5 : 0 ≤ m + 1 + (cntRows pl1 : Int) + (cntRows pl2 : Int) + 1 + (cntRows pl4 : Int) ∧ m + 1 + (cntRows pl1 : Int) + (cntRows pl2 : Int) + 1 + (cntRows pl4 : Int) ≤ 4611686018427387904 := ⟨by omega, by omega⟩
      have y6 : 0 ≤ m + 1 + (cntRows pl1 : Int) + (cntRows pl2 : Int) + 1 + (cntRows pl4 : Int) + (cntRows pl5 : Int) ∧ m + 1 + (cntRows pl1 : Int) + (cntRows pl2 : Int) + 1 + (cntRows pl4 : Int) + (cntRows pl5 : Int) ≤ 4611686018427387904 := ⟨by omega, by omega⟩
      obtain ⟨y1a, y1b⟩ := y1
      obtain ⟨y2a, y2b⟩ := y2
      obtain ⟨y3a, y3b⟩ := y3
      obtain ⟨y4a, y4b⟩ := y4
      obtain ⟨y5a, y5b⟩ := y5
      obtain ⟨y6a, y6b⟩ := y6
      have HF := Lib.hid hfin
      have HB := Lib.hid hb
      have T9 := hb.size
      have xb0 : b < wr.heap.size := Nat.lt_of_lt_of_le hbs T9
      clear hfin hct hcl hcl2 hm hb
      go_wp2_with fail
      refine (heldIntS_c pl1 (m + 1) (by omega) (by omega) _ _ P01.out _ _ (Rd.below (by (repeat (first | with_reducible exact Below.refl _ _ | with_reducible assumption | with_reducible refine Below.drew ?_ | with_reducible refine Below.setCell ?_ ?_ _ | with_reducible refine Below.alloc ?_ ?_ _)); all_goals first | (simp; done) | (simp; omega) | omega) _ _ _ H1.out)).mono ?_
      rintro e w1 ⟨rfl, h1⟩
      have B1 : Below wr.heap.size wr w1 := Below.trans (by (repeat (first | with_reducible exact Below.refl _ _ | with_reducible assumption | with_reducible refine Below.drew ?_ | with_reducible refine Below.setCell ?_ ?_ _ | with_reducible refine Below.alloc ?_ ?_ _)); all_goals first | (simp; done) | (simp; omega) | omega) (h1.mono (by first | (simp; done) | (simp; omega) | omega))
      have S1 := h1.size
      have T1 := B1.size
      try simp at S1
      obtain ⟨k1, f1⟩ := bcell h1
      try simp at k1
      try simp at f1
      have Hc1 := Lib.hid h1
      clear h1
      have xb1 : b < w1.heap.size := Nat.lt_of_lt_of_le xb0 T1
      go_wp2_with fail
      refine (heldIntS_c pl2 (m + 1 + (cntRows pl1 : Int)) (by omega) (by omega) _ _ P02.out _ _ (Rd.below (by (repeat (first | with_reducible exact Below.refl _ _ | with_reducible assumption | with_reducible refine Below.drew ?_ | with_reducible refine Below.setCell ?_ ?_ _ | with_reducible refine Below.alloc ?_ ?_ _)); all_goals first | (simp; done) | (simp; omega) | omega) _ _ _ H2.out)).mono ?_
      rintro e w2 ⟨rfl, h2⟩
      have B2 : Below wr.heap.size wr w2 := Below.trans (by (repeat (first | with_reducible exact Below.refl _ _ | with_reducible assumption | with_reducible refine Below.drew ?_ | with_reducible refine Below.setCell ?_ ?_ _ | with_reducible refine Below.alloc ?_ ?_ _)); all_goals first | (simp; done) | (simp; omega) | omega) (h2.mono (by first | (simp; done) | (simp; omega) | omega))
      have S2 := h2.size
      have T2 := B2.size
      try simp at S2
      obtain ⟨k2, f2⟩ := bcell h2
      try simp at k2
      try simp at f2
      have Hc2 := Lib.hid h2
      clear h2
      have xb2 : b < w2.heap.size := Nat.lt_of_lt_of_le xb0 T2
      go_wp2_with fail
      refine (heldIntS_c pl4 (m + 1 + (cntRows pl1 : Int) + (cntRows pl2 : Int) + 1) (by omega) (by omega) _ _ P04.out _ _ (Rd.below (by (repeat (first | with_reducible exact Below.refl _ _ | with_reducible assumption | with_reducible refine Below.drew ?_ | with_reducible refine Below.setCell ?_ ?_ _ | with_reducible refine Below.alloc ?_ ?_ _)); all_goals first | (simp; done) | (simp; omega) | omega) _ _ _ H4.out)).mono ?_
      rintro e w3 ⟨rfl, h3⟩
      have B3 : Below wr.heap.size wr w3 := Below.trans (by (repeat (first | with_reducible exact Below.refl _ _ | with_reducible assumption | with_reducible refine Below.drew ?_ | with_reducible refine Below.setCell ?_ ?_ _ | with_reducible refine Below.alloc ?_ ?_ _)); all_goals first | (simp; done) | (simp; omega) | omega) (h3.mono (by first | (simp; done) | (simp; omega) | omega))
      have S3 := h3.size
      have T3 := B3.size
      try simp at S3
      obtain ⟨k3, f3⟩ := bcell h3
      try simp at k3
      try simp at f3
      have Hc3 := Lib.hid h3
      clear h3
      have xb3 : b < w3.heap.size := Nat.lt_of_lt_of_le xb0 T3
      go_wp2_with fail
      refine (heldIntS_c pl5 (m + 1 + (cntRows pl1 : Int) + (cntRows pl2 : Int) + 1 + (cntRows pl4 : Int)) (by omega) (by omega) _ _ P05.out _ _ (Rd.below (by (repeat (first | with_reducible exact Below.refl _ _ | with_reducible assumption | with_reducible refine Below.drew ?_ | with_reducible refine Below.setCell ?_ ?_ _ | with_reducible refine Below.alloc ?_ ?_ _)); all_goals first | (simp; done) | (simp; omega) | omega) _ _ _ H5.out)).mono ?_
      rintro e w4 ⟨rfl, h4⟩
      have B4 : Below wr.heap.size wr w4 := Below.trans (by (repeat (first | with_reducible exact Below.refl _ _ | with_reducible assumption | with_reducible refine Below.drew ?_ | with_reducible refine Below.setCell ?_ ?_ _ | with_reducible refine Below.alloc ?_ ?_ _)); all_goals first | (simp; done) | (simp; omega) | omega) (h4.mono (by first | (simp; done) | (simp; omega) | omega))
      have S4 := h4.size
      have T4 := B4.size
      try simp at S4
      obtain ⟨k4, f4⟩ := bcell h4
      try simp at k4
      try simp at f4
      have Hc4 := Lib.hid h4
      clear h4
      have xb4 : b < w4.heap.size := Nat.lt_of_lt_of_le xb0 T4
      go_wp2
      go_roundw
      case rel => exact ⟨j + 1, _, by omega, by go_num, rfl, HF.out, HB.out.trans (B4.mono T9)⟩
      case measure => simp [intOf]; omega
    · have hke : j = ls.length := by omega
      have HM : Hid (m = k + (cntRows ls : Int)) := by rw [hke, List.take_length] at hm; exact hm
      have HB := Lib.hid hb
      clear hm hb hke
      go_wp2
      go_ret
      exact ⟨ret_int HM.out, HB.out⟩
end Go.Proofs.YthnkggacopepgaaGreat
