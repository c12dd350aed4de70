import Derived.Test.YtppjhpglejehkaaGreatProg
import Derived.Test.YtppjhpglejehkaaGreatTsBas
import Derived.Outline
import Derived.Laws.MakeOwn
import Derived.RegionTactic
import Derived.BigRegion
import Derived.Deep.RegionHeld3
import Derived.Deep.DrawnRows
namespace Go.Proofs.YtppjhpglejehkaaGreat
set_option linter.unusedVariables false
set_option linter.unusedSimpArgs false
open Go.RowKit
attribute [local go_sem ↓] Go.wp_at_zero Go.wp_at_succ
set_option maxRecDepth 100000 in
set_option maxHeartbeats 4000000 in
theorem eqIntS_c (ls : List (List Dat)) (v u : Value) (w : World) (h : Rd w (.sl 3 [.int]) (.sl ls) v) (h' : Rd w (.sl 3 [.int]) (.sl ls) u) :
    Calls Tryz.prog 10 #[v, u] w fun e w' => e = .returned (.bool true) ∧ Below w.heap.size w w' := by
  obtain ⟨a, cap, rfl, hl, hc, hcell⟩ := h.open
  obtain ⟨a', cap', rfl, hl', hc', hcell'⟩ := h'.open
  have HC := Lib.hid hcell
  have HC' := Lib.hid hcell'
  clear hcell h hcell' h'
  go_enter Tryz.func10, Tryz.ntmps10
  go_wp2
  go_loopw [5] (fun i wr => ∃ k : Nat, k ≤ ls.length ∧ i = .int .i64 k ∧ Below w.heap.size w wr) (fun i _ => ls.length - (intOf i).toNat)
  case atStart => exact ⟨0, Nat.zero_le _, rfl, Below.refl _ _⟩
  case round =>
    obtain ⟨k, hk, rfl, hb⟩ := hrel
    by_cases hlt : k < ls.length
    · obtain ⟨b, off, row, rfl, hbs, hcl, hrow⟩ := HC.out k hlt
      obtain ⟨b', off', row', rfl, hbs', hcl', hrow'⟩ := HC'.out k hlt
      generalize ls.getD k [] = ld at hrow hrow'
      obtain ⟨pd, pds, pv, pvs, rfl, rfl, ph, hrow_0⟩ := RdRow.cons_inv hrow
      obtain ⟨px0, rfl, rfl⟩ := Rd.int_inv ph
      obtain ⟨rfl, rfl⟩ := RdRow.nil_inv hrow_0
      obtain ⟨qv, qvs, rfl, qh, hrow'_0⟩ := RdRow.cons2 hrow'
      obtain rfl := Rd.int2 qh
      obtain ⟨-, rfl⟩ := RdRow.nil_inv hrow'_0
      have d0 : wr.cell? ⟨b, off + k, none⟩ = some (.int .i64 px0) := (hb.cell (p := ⟨b, _, none⟩) hbs).trans (by have q := hcl 0 (by decide); simpa [Nat.add_assoc] using q)
      have d'0 : wr.cell? ⟨b', off' + k, none⟩ = some (.int .i64 px0) := (hb.cell (p := ⟨b', _, none⟩) hbs').trans (by have q := hcl' 0 (by decide); simpa [Nat.add_assoc] using q)
      have HB := Lib.hid hb
      have T9 := hb.size
      clear hcl hcl' hb
      go_wp2
      go_region
      all_goals
        go_wp2
        go_roundw
        case rel => exact ⟨k + 1, by omega, by go_num, by first | exact HB.out | exact HB.out.drew⟩
        case measure => simp [intOf]; omega
    · have HB := Lib.hid hb
      clear hb
      go_wp2
      go_ret
      exact ⟨rfl, HB.out⟩
set_option maxRecDepth 100000 in
set_option maxHeartbeats 4000000 in
theorem markIntS_c (ls : List (List Dat)) (k : Int) (hk0 : 0 ≤ k) (hk1 : k + (cntRows ls : Int) ≤ 4611686018427387904) (bs : List Nat) (hn : bs.Nodup) (v : Value) (w : World) (h : Fp w (.sl 3 [.int]) (.sl ls) v bs) :
    Calls Tryz.prog 13 #[v, .int .i64 k] w fun e w' => e = .returned (.int .i64 (k + (cntRows ls : Int))) ∧ Fp w' (.sl 3 [.int]) (.sl (mkRows k ls)) v bs ∧ OnlyIn (fun b => b ∈ bs) w w' := by
  obtain ⟨a, cap, rfl, hl, hc, -⟩ := (Fp.rd _ _ _ _ h).open
  have H := Lib.hid h
  have HN := Lib.hid hn
  have hnil : ∀ b off, a = some ⟨b, off, none⟩ → off = 0 := fun b off ha => by
    simp only [Fp] at h
    obtain ⟨rows, bss, ⟨_, h1⟩, _⟩ := h
    rcases h1 with ⟨h1, _⟩ | ⟨g, _, _, h1, _⟩
    · simp [ha] at h1
    · simp [ha] at h1; exact h1.1.2
  have HNL := Lib.hid hnil
  have HA : Hid (∀ j, j < ls.length → ∃ g, a = some ⟨g, 0, none⟩ ∧ g ∈ bs) := fun j hj => by
    obtain ⟨a', cap', e', _, _, q⟩ := (Fp.rd _ _ _ _ h).open
    simp only [Value.slice.injEq] at e'
    obtain ⟨b, off, row, h1, h2, h3, h4⟩ := q j hj
    rw [← e'.1] at h1
    obtain rfl := HNL.out b off h1
    exact ⟨b, h1, by simp only [Fp] at h; obtain ⟨_, _, _, _, _, _, _, rfl⟩ := h; simp [Value.ownBlock, h1]⟩
  clear h hn hnil
  have hk2 : k ≤ 4611686018427387904 := by omega
  have HK := Lib.hid hk1
  clear hk1
  go_enter Tryz.func13, Tryz.ntmps13
  go_wp2
  go_loopw [1, 5] (fun c i wr => ∃ (j : Nat) (m : Int), j ≤ ls.length ∧ i = .int .i64 j ∧ c = .int .i64 m ∧ m = k + (cntRows (ls.take j) : Int) ∧ Fp wr (.sl 3 [.int]) (.sl (marked k j ls)) (.slice a ls.length cap) bs ∧ OnlyIn (fun b => b ∈ bs) w wr) (fun _ i _ => ls.length - (intOf i).toNat)
  case atStart => exact ⟨0, _, Nat.zero_le _, rfl, rfl, by simp [cntRows], by rw [marked_zero]; exact H.out, OnlyIn.refl _ _⟩
  case round =>
    obtain ⟨j, m, hj, rfl, rfl, hm, hfp, hon⟩ := hrel
    by_cases hlt : j < ls.length
    · obtain ⟨g, rfl, hgb⟩ := HA.out j hlt
      have hml : j < (marked k j ls).length := by rw [marked_length]; exact hlt
      have hms := marked_succ k j ls hlt
      have hmg := marked_getD k j ls hlt
      have hct := cntRows_take ls j hlt
      have hcl := cntRows_take_le ls (j + 1)
      rw [← hm] at hms
      obtain ⟨row, bj, hcell, hfz, hrow, -, -, -, -, -⟩ := Fp.row hfp HN.out hml
      rw [hmg] at hrow
      have hrd := FpRow.rd _ _ _ _ hrow
      have hself : (marked k j ls).set j (ls.getD j []) = marked k j ls := by rw [← hmg]; exact set_getD_self
      rw [← hself] at hfp
      clear hrow hself hmg
      obtain ⟨ld, hld⟩ : ∃ ld, ls.getD j [] = ld := ⟨_, rfl⟩
      rw [hld] at hrd hms hct hfp
      clear hld
      obtain ⟨pd, pds, pv, pvs, rfl, rfl, ph, hrd_0⟩ := RdRow.cons_inv hrd
      obtain ⟨px0, rfl, rfl⟩ := Rd.int_inv ph
      obtain ⟨rfl, rfl⟩ := RdRow.nil_inv hrd_0
      obtain ⟨M, hM⟩ : ∃ M, marked k j ls = M := ⟨_, rfl⟩
      rw [hM] at hms hml hfp
      clear hM
      have d0 : wr.cell? ⟨g, j, none⟩ = some (.int .i64 px0) := by have q := hcell 0 (by decide); simpa using q
      have f0 := hfz (j)
      have hmk : mkRow m [.int px0] = [.int (m)] := by first | (simp [mkRow, Dat.mk']; done) | (simp [mkRow, Dat.mk']; (repeat apply And.intro) <;> rfl)
      rw [hmk] at hms
      clear hmk
      have hfin : m + 1 = k + (cntRows (ls.take (j + 1)) : Int) := by rw [hct, hm]; simp only [cntRow, Dat.cnt]; omega
      have hbd : m + 1 ≤ 4611686018427387904 := by have := HK.out; omega
      have hm0 : 0 ≤ m := by omega
      have y1 : 0 ≤ m + 1 ∧ m + 1 ≤ 4611686018427387904 := ⟨by omega, by omega⟩
      obtain ⟨y1a, y1b⟩ := y1
      have HMS := Lib.hid hms
      have HF := Lib.hid hfin
      have HM0 := Lib.hid hm
      have HON := Lib.hid hon
      have HG := Lib.hid hgb
      clear hms hfin hct hcl hm hon hgb hfz hcell
      have F := Lib.hid hfp
      have HL := Lib.hid hml
      clear hfp hml
      have F0_ : Hid (Fp (wr.setCell ⟨g, j, none⟩ (.int .i64 (m))) (.sl 3 [.int]) (.sl (M.set j [.int (m)])) (.slice (some ⟨g, 0, none⟩) ls.length cap) bs) := by
        have q := Fp.leafAt F.out HN.out HL.out 0 (by decide) rfl (.int (m)) (.int .i64 (m)) (fun _ => Fp.mk_int _)
        exact Lib.hid (by simpa using q)
      have N0_ : Hid (OnlyIn (fun b => b ∈ bs) w (wr.setCell ⟨g, j, none⟩ (.int .i64 (m)))) := HON.out.setCell HG.out _
      go_wp2
      go_roundw
      case rel => exact ⟨j + 1, _, by omega, by go_num, rfl, HF.out, by rw [HMS.out]; exact F0_.out, N0_.out⟩
      case measure => simp [intOf]; omega
    · have hke : j = ls.length := by omega
      have HF : Hid (Fp wr (.sl 3 [.int]) (.sl (mkRows k ls)) (.slice a ls.length cap) bs) := by rw [hke, marked_all] at hfp; exact hfp
      have HM : Hid (m = k + (cntRows ls : Int)) := by rw [hke, List.take_length] at hm; exact hm
      have HON := Lib.hid hon
      clear hfp hm hon hke
      go_wp2
      go_ret
      exact ⟨ret_int HM.out, HF.out, HON.out⟩
set_option maxRecDepth 100000 in
set_option maxHeartbeats 4000000 in
theorem heldIntS_c (ls : List (List Dat)) (k : Int) (hk0 : 0 ≤ k) (hk1 : k + (cntRows ls : Int) ≤ 4611686018427387904) (w0 : World) (v0 : Value) (h0 : Rd w0 (.sl 3 [.int]) (.sl ls) v0) (v : Value) (w : World) (h : Rd w (.sl 3 [.int]) (.sl (mkRows k ls)) v) :
    Calls Tryz.prog 14 #[v, .int .i64 k] w fun e w' => e = .returned (.int .i64 (k + (cntRows ls : Int))) ∧ Below w.heap.size w w' := by
  obtain ⟨a, cap, rfl, hl, hc, hcell⟩ := h.open
  rw [mkRows_length] at hl hcell ⊢
  obtain ⟨a0, cap0, e0, _, _, hcell0⟩ := h0.open
  have HC := Lib.hid hcell
  have HC0 := Lib.hid hcell0
  clear hcell hcell0 h h0
  have hk2 : k ≤ 4611686018427387904 := by omega
  have HK := Lib.hid hk1
  clear hk1
  go_enter Tryz.func14, Tryz.ntmps14
  go_wp2
  go_loopw [1, 5] (fun c i wr => ∃ (j : Nat) (m : Int), j ≤ ls.length ∧ i = .int .i64 j ∧ c = .int .i64 m ∧ m = k + (cntRows (ls.take j) : Int) ∧ Below w.heap.size w wr) (fun _ i _ => ls.length - (intOf i).toNat)
  case atStart => exact ⟨0, _, Nat.zero_le _, rfl, rfl, by simp [cntRows], Below.refl _ _⟩
  case round =>
    obtain ⟨j, m, hj, rfl, rfl, hm, hb⟩ := hrel
    by_cases hlt : j < ls.length
    · obtain ⟨b, off, row, rfl, hbs, hcl, hrow⟩ := HC.out j hlt
      obtain ⟨b0, off0, row0, _, _, _, hrow0⟩ := HC0.out j hlt
      have hct := cntRows_take ls j hlt
      have hcl2 := cntRows_take_le ls (j + 1)
      rw [mkRows_getD k ls j hlt, ← hm] at hrow
      obtain ⟨ld, hld⟩ : ∃ ld, ls.getD j [] = ld := ⟨_, rfl⟩
      rw [hld] at hrow hrow0 hct
      clear hld
      obtain ⟨pd, pds, pv, pvs, rfl, rfl, ph, hrow0_0⟩ := RdRow.cons_inv hrow0
      obtain ⟨px0, rfl, rfl⟩ := Rd.int_inv ph
      obtain ⟨rfl, rfl⟩ := RdRow.nil_inv hrow0_0
      have hmk : mkRow m [.int px0] = [.int (m)] := by first | (simp [mkRow, Dat.mk']; done) | (simp [mkRow, Dat.mk']; (repeat apply And.intro) <;> rfl)
      rw [hmk] at hrow
      clear hmk
      obtain ⟨qv, qvs, rfl, qh, hrow_0⟩ := RdRow.cons2 hrow
      obtain rfl := Rd.int2 qh
      obtain ⟨-, rfl⟩ := RdRow.nil_inv hrow_0
      have d0 : wr.cell? ⟨b, off + j, none⟩ = some (.int .i64 (m)) := (hb.cell (p := ⟨b, _, none⟩) hbs).trans (by have q := hcl 0 (by decide); simpa [Nat.add_assoc] using q)
      have hfin : m + 1 = k + (cntRows (ls.take (j + 1)) : Int) := by rw [hct, hm]; simp only [cntRow, Dat.cnt]; omega
      have hbd : m + 1 ≤ 4611686018427387904 := by have := HK.out; omega
      have hm0 : 0 ≤ m := by omega
      have y1 : 0 ≤ m + 1 ∧ m + 1 ≤ 4611686018427387904 := ⟨by omega, by omega⟩
      obtain ⟨y1a, y1b⟩ := y1
      have HF := Lib.hid hfin
      have HB := Lib.hid hb
      have T9 := hb.size
      have xb0 : b < wr.heap.size := Nat.lt_of_lt_of_le hbs T9
      clear hfin hct hcl hcl2 hm hb
      go_wp2
      go_roundw
      case rel => exact ⟨j + 1, _, by omega, by go_num, rfl, HF.out, HB.out⟩
      case measure => simp [intOf]; omega
    · have hke : j = ls.length := by omega
      have HM : Hid (m = k + (cntRows ls : Int)) := by rw [hke, List.take_length] at hm; exact hm
      have HB := Lib.hid hb
      clear hm hb hke
      go_wp2
      go_ret
      exact ⟨ret_int HM.out, HB.out⟩
end Go.Proofs.YtppjhpglejehkaaGreat
