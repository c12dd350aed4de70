/-
  Contracts of quarter turns of vectors and of polygons.
-/
import Derived.Test.YtemgpfojmdncjaaScan
import Derived.Test.YtemgpfojmdncjaaOwn
import Derived.Test.YtemgpfojmdncjaaMath2
namespace Go.Proofs.Ytemgpfojmdncjaa
set_option linter.unusedVariables false
set_option linter.unusedSimpArgs false
open Go.RowKit

theorem elemVec : ElemT Try.prog 36 31 2 16 := ElemT.mk' (.agg #[.int .i64 0, .int .i64 0]) Try.underlying36 (by kernel_rfl) rfl (by decide)

theorem isHeading_c (n : Int) (w : World) : Calls Try.prog 109 #[.int .i64 n] w fun e w' => e = .returned (.bool (inR n 0 3)) ∧ w = w' := by
  go_enter Try.func109, Try.ntmps109
  go_wp2_with (go_at_call 53; refine (within_c _ _ _ _).mono ?_; rintro e w' ⟨rfl, rfl⟩)
  go_ret
  exact ⟨rfl, rfl⟩

theorem turnVec_c (x y : Int) (k : Nat) (hk : k ≤ 3) (hp : isVec (x, y) = true) (w : World) :
    Calls Try.prog 135 #[.agg #[.int .i64 x, .int .i64 y], .int .i64 k] w fun e w' => e = .returned (.agg #[.int .i64 (rotN k (x, y)).1, .int .i64 (rotN k (x, y)).2]) ∧ Below w.heap.size w w' := by
  have HB := Lib.hid (isVec_bd hp); clear hp
  have h1 : (((k : Int) % 4) + 4) % 4 = k := by omega
  have hk' : (k : Int) ≤ 3 := by omega
  go_enter Try.func135, Try.ntmps135
  go_wp2
  go_loopw [9] (fun i wr => ∃ j : Nat, j ≤ k ∧ i = .int .i64 j ∧ wr = ((w.alloc (.cells #[.int .i64 (rotN j (x, y)).1, .int .i64 (rotN j (x, y)).2] 31)).alloc (.cells #[.int .i64 0, .int .i64 0] 31))) (fun i _ => k - (intOf i).toNat)
  case atStart => exact ⟨0, Nat.zero_le _, rfl, rfl⟩
  case round =>
    obtain ⟨j, hj, rfl, rfl⟩ := hrel
    have hbd := rotN_bd (p := (x, y)) HB.out j
    have hsuc : rotN (j + 1) (x, y) = rot (rotN j (x, y)) := rfl
    obtain ⟨a, b, hab⟩ : ∃ a b, rotN j (x, y) = (a, b) := ⟨_, _, rfl⟩
    rw [hab] at hbd hsuc
    simp only [rot] at hbd hsuc
    obtain ⟨b1, b2, b3, b4⟩ := hbd
    have HS := Lib.hid hsuc; clear hsuc
    rw [hab]
    have HAB := Lib.hid hab; clear hab
    by_cases hlt : j < k
    · go_wp2
      go_roundw
      case rel => exact ⟨j + 1, by omega, by go_num, by rw [HS.out]⟩
      case measure => simp [intOf]; omega
    · obtain rfl : j = k := by omega
      go_wp2
      exact bodyPost_ret (v := .agg #[.int .i64 a, .int .i64 b]) (by simp [results, Try.results135, go_sem]) rfl ⟨by rw [HAB.out], (by (repeat (first | with_reducible exact Below.refl _ _ | with_reducible assumption | with_reducible refine Below.drew ?_ | with_reducible refine Below.setCell ?_ ?_ _ | with_reducible refine Below.alloc ?_ ?_ _)); all_goals first | (simp; done) | (simp; omega) | omega)⟩

/-- A vector's own variable: block b. -/
def BoxAt (w : World) (b : Nat) (p : V2) : Prop := w.cell? ⟨b, 0, none⟩ = some (.int .i64 p.1) ∧ w.cell? ⟨b, 1, none⟩ = some (.int .i64 p.2) ∧ w.frozen? ⟨b, 0, none⟩ = false ∧ w.frozen? ⟨b, 1, none⟩ = false

theorem TurnVec_c (x y : Int) (k : Nat) (hk : k ≤ 3) (hp : isVec (x, y) = true) (w : World) :
    Calls Try.prog 130 #[.agg #[.int .i64 x, .int .i64 y], .int .i64 k] w fun e w' => e = .returned (.agg #[.int .i64 (rotN k (x, y)).1, .int .i64 (rotN k (x, y)).2]) ∧ Below w.heap.size w w' := by
  have HB := Lib.hid (isVec_bd hp)
  have h1 : (k : Int) % 4 = k := by omega
  have hk' : (k : Int) ≤ 3 := by omega
  go_enter Try.func130, Try.ntmps130
  go_wp2_with fail
  refine (IsValidVec_c _ _ _).mono ?_
  rintro e w1 ⟨rfl, h1⟩
  have B1 : Below w.heap.size w w1 := Below.trans (by (repeat (first | with_reducible exact Below.refl _ _ | with_reducible assumption | with_reducible refine Below.drew ?_ | with_reducible refine Below.setCell ?_ ?_ _ | with_reducible refine Below.alloc ?_ ?_ _)); all_goals first | (simp; done) | (simp; omega) | omega) (h1.mono (by first | (simp; done) | (simp; omega) | omega))
  have S1 := h1.size
  have T1 := B1.size
  try simp at S1
  obtain ⟨k1, f1⟩ := bcell h1
  try simp at k1
  try simp at f1
  have Hc1 := Lib.hid h1
  clear h1
  have u1_0 : w.heap.size < w1.heap.size := by omega
  have u1_1 : w.heap.size + 1 < w1.heap.size := by omega
  go_wp2
  clear hp
  have b0 : w1.cell? ⟨w.heap.size, 0, none⟩ = some (.int .i64 x) := by go_simp
  have b1 : w1.cell? ⟨w.heap.size, 1, none⟩ = some (.int .i64 y) := by go_simp
  have b2 : w1.cell? ⟨w.heap.size + 1, 0, none⟩ = some (.int .i64 0) := by go_simp
  have b3 : w1.cell? ⟨w.heap.size + 1, 1, none⟩ = some (.int .i64 0) := by go_simp
  have g0 : w1.frozen? ⟨w.heap.size, 0, none⟩ = false := by go_simp
  have g1 : w1.frozen? ⟨w.heap.size, 1, none⟩ = false := by go_simp
  have g2 : w1.frozen? ⟨w.heap.size + 1, 0, none⟩ = false := by go_simp
  have g3 : w1.frozen? ⟨w.heap.size + 1, 1, none⟩ = false := by go_simp
  have HX : Hid (BoxAt w1 w.heap.size (x, y) ∧ BoxAt w1 (w.heap.size + 1) (0, 0)) := ⟨⟨b0, b1, g0, g1⟩, ⟨b2, b3, g2, g3⟩⟩
  clear b0 b1 b2 b3 g0 g1 g2 g3 k1 f1
  rw [h1]
  go_loopw [1] (fun i wr => ∃ j : Nat, j ≤ k ∧ i = .int .i64 ((k : Int) - j) ∧ BoxAt wr w.heap.size (rotN j (x, y)) ∧ BoxAt wr (w.heap.size + 1) (0, 0) ∧ Below w.heap.size w wr) (fun i _ => (intOf i).toNat)
  case atStart => exact ⟨0, Nat.zero_le _, by simp, HX.out.1, HX.out.2, B1⟩
  case round =>
    clear B1 S1 T1 u1_0 u1_1 HX
    obtain ⟨j, hj, rfl, hbx, ⟨b2, b3, g2, g3⟩, hb⟩ := hrel
    have hbd := rotN_bd (p := (x, y)) HB.out j
    have hsuc : rotN (j + 1) (x, y) = rot (rotN j (x, y)) := rfl
    obtain ⟨a, b, hab⟩ : ∃ a b, rotN j (x, y) = (a, b) := ⟨_, _, rfl⟩
    rw [hab] at hbd hsuc hbx
    obtain ⟨b0, b1, g0, g1⟩ := hbx
    simp only [rot] at hbd hsuc b0 b1 b2 b3
    obtain ⟨c1, c2, c3, c4⟩ := hbd
    have HS := Lib.hid hsuc; clear hsuc
    have HAB := Lib.hid hab; clear hab
    have HBW := Lib.hid hb
    have T9 := hb.size
    clear hb
    by_cases hlt : j < k
    · go_wp2
      go_roundw
      case rel =>
        refine ⟨j + 1, by omega, by go_num, ?_, ?_, (HBW.out.setCell (by simp) _).setCell (by simp) _⟩
        · rw [HS.out]
          exact ⟨by go_simp, by go_simp, by go_simp, by go_simp⟩
        · exact ⟨by go_simp, by go_simp, by go_simp, by go_simp⟩
      case measure => simp [intOf]; omega
    · obtain rfl : j = k := by omega
      go_wp2
      have q0 : ((wr.setCell ⟨w.heap.size + 1, 0, none⟩ (.int .i64 a)).setCell ⟨w.heap.size + 1, 1, none⟩ (.int .i64 b)).cell? ⟨w.heap.size + 1, 0, none⟩ = some (.int .i64 a) := by go_simp
      have q1 : ((wr.setCell ⟨w.heap.size + 1, 0, none⟩ (.int .i64 a)).setCell ⟨w.heap.size + 1, 1, none⟩ (.int .i64 b)).cell? ⟨w.heap.size + 1, 1, none⟩ = some (.int .i64 b) := by go_simp
      exact bodyPost_ret (v := .agg #[.int .i64 a, .int .i64 b]) (by simp [results, Try.results130, go_sem, q0, q1]) rfl ⟨by rw [HAB.out], (HBW.out.setCell (by simp) _).setCell (by simp) _⟩

theorem take_map_snoc {α β : Type} (f : α → β) (l : List α) (d : α) (k : Nat) (hk : k < l.length) : (l.take (k + 1)).map f = (l.take k).map f ++ [f (l.getD k d)] := by
  rw [List.take_succ_eq_append_getElem hk, List.map_append]
  simp [List.getD, List.getElem?_eq_getElem hk]

set_option maxRecDepth 100000 in
set_option maxHeartbeats 1000000 in
theorem TurnPolygon_c (l : List V2) (k : Nat) (hk : k ≤ 3) (hall : l.all isVec = true) (hlen : l.length ≤ 1000000) (v : Value) (w : World) (hv : VecsAt w v l) :
    Calls Try.prog 110 #[v, .int .i64 k] w fun e w' => ∃ v', e = .returned v' ∧ ownsVecs w' w.heap.size 31 v' (turnPoly l k) ∧ Below w.heap.size w w' := by
  have HV := Lib.hid hv
  obtain ⟨a, cap, rfl, hl, hc, hcell⟩ := hv.open
  have HC := Lib.hid hcell; clear hcell hv
  have HI := Lib.hid hall
  go_enter Try.func110, Try.ntmps110
  go_wp2_with fail
  refine (areVecs_c l _ _ HV.out).mono ?_
  rintro e w1 ⟨rfl, h1⟩
  have B1 : Below w.heap.size w w1 := Below.trans (by (repeat (first | with_reducible exact Below.refl _ _ | with_reducible assumption | with_reducible refine Below.drew ?_ | with_reducible refine Below.setCell ?_ ?_ _ | with_reducible refine Below.alloc ?_ ?_ _)); all_goals first | (simp; done) | (simp; omega) | omega) (h1.mono (by first | (simp; done) | (simp; omega) | omega))
  have S1 := h1.size
  have T1 := B1.size
  try simp at S1
  obtain ⟨k1, f1⟩ := bcell h1
  try simp at k1
  try simp at f1
  have Hc1 := Lib.hid h1
  clear h1
  go_wp2
  clear hall k1 f1
  go_loopw [5, 14] (fun o i wr => ∃ j : Nat, j ≤ l.length ∧ i = .int .i64 j ∧ ownsVecs wr w.heap.size 31 o ((l.take j).map (rotN k)) ∧ Below w.heap.size w wr) (fun _ i _ => l.length - (intOf i).toNat)
  case atStart => exact ⟨0, Nat.zero_le _, rfl, by simpa using ownsVecs_empty w1 _ _ T1, B1.alloc T1 _⟩
  case round =>
    clear B1 T1 S1 Hc1
    obtain ⟨j, hj, rfl, hown, hb⟩ := hrel
    by_cases hlt : j < l.length
    · obtain ⟨b, off, rfl, hbs, c0, c1⟩ := HC.out j hlt
      have d0 := (hb.cell (p := ⟨b, off + j * 2, none⟩) hbs).trans c0
      have d1 := (hb.cell (p := ⟨b, off + j * 2 + 1, none⟩) hbs).trans c1
      have hva := all_getD HI.out (0, 0) j hlt
      have hsn := take_map_snoc (rotN k) l (0, 0) j hlt
      obtain ⟨x, y, hxy⟩ : ∃ x y, l.getD j (0, 0) = (x, y) := ⟨_, _, rfl⟩
      rw [hxy] at d0 d1 hva hsn
      simp only at d0 d1
      have HVA := Lib.hid hva
      have HSN := Lib.hid hsn
      have hz : b < wr.heap.size := Nat.lt_of_lt_of_le hbs hb.size
      have T8 := hb.size
      clear c0 c1 hva hsn hxy
      have HO := Lib.hid hown; clear hown
      have HB := Lib.hid hb; clear hb
      go_wp2_with fail
      refine (turnVec_c _ _ k hk HVA.out _).mono ?_
      rintro e w2 ⟨rfl, h2⟩
      have B2 : Below wr.heap.size wr w2 := Below.trans (by (repeat (first | with_reducible exact Below.refl _ _ | with_reducible assumption | with_reducible refine Below.drew ?_ | with_reducible refine Below.setCell ?_ ?_ _ | with_reducible refine Below.alloc ?_ ?_ _)); all_goals first | (simp; done) | (simp; omega) | omega) (h2.mono (by first | (simp; done) | (simp; omega) | omega))
      have S2 := h2.size
      have T2 := B2.size
      try simp at S2
      obtain ⟨k2, f2⟩ := bcell h2
      try simp at k2
      try simp at f2
      have Hc2 := Lib.hid h2
      clear h2
      have u2_0 : wr.heap.size < w2.heap.size := by omega
      have HB2 := Lib.hid (HB.out.trans (B2.mono T8))
      have HO2 := Lib.hid (HO.out.below B2)
      have T9 : w.heap.size ≤ w2.heap.size := by omega
      clear B2 k2 f2
      go_wp2_with (at_builtin; refine wp_appVec elemVec rfl _ _ rfl w.heap.size _ _ rfl (HO2.out.alloc _) w2.heap.size (rotN k (x, y)).1 (rotN k (x, y)).2 rfl ?c1 ?c2 ?c3 (by decide) ?c4 ?_; rotate_left 4; intro v1 w3 hown3 hg3)
      case c1 => go_simp
      case c2 => go_simp
      case c3 => simp; omega
      case c4 => simp; omega
      have HO3 := Lib.hid hown3; clear hown3
      have HB3 := Lib.hid (below_own (HB2.out.alloc T9 _) (HO2.out.alloc _) hg3 (by simp; omega) (Nat.le_refl _)); clear hg3
      go_wp2
      go_roundw
      case rel => exact ⟨j + 1, by omega, by go_num, by rw [HSN.out]; exact HO3.out, HB3.out⟩
      case measure => simp [intOf]; omega
    · have HO := Lib.hid hown; clear hown
      have HB := Lib.hid hb; clear hb
      go_wp2
      go_ret
      refine ⟨_, rfl, ?_, HB.out⟩
      have := HO.out
      rw [List.take_of_length_le (by omega)] at this
      exact this
set_option maxRecDepth 100000 in
set_option maxHeartbeats 1000000 in
theorem sTurnPolygon_c (l : List V2) (k : Nat) (hk : k ≤ 3) (hall : l.all isVec = true) (hlen : l.length ≤ 1000000) (v : Value) (w : World) (hv : VecsAt w v l) :
    Calls Try.prog 107 #[v, .int .i64 k] w fun e w' => ∃ v', e = .returned v' ∧ ownsVecs w' w.heap.size 31 v' (turnPoly l k) ∧ Below w.heap.size w w' := by
  obtain ⟨a, cap, rfl, hl, hc, hcell⟩ := hv.open
  have HC := Lib.hid hcell; clear hcell hv
  have HI := Lib.hid hall
  go_enter Try.func107, Try.ntmps107
  go_wp2
  clear hall
  go_loopw [5, 11] (fun o i wr => ∃ j : Nat, j ≤ l.length ∧ i = .int .i64 j ∧ ownsVecs wr w.heap.size 31 o ((l.take j).map (rotN k)) ∧ Below w.heap.size w wr) (fun _ i _ => l.length - (intOf i).toNat)
  case atStart => exact ⟨0, Nat.zero_le _, rfl, by simpa using ownsVecs_empty w _ _ (Nat.le_refl _), (Below.refl _ _).alloc (Nat.le_refl _) _⟩
  case round =>
    obtain ⟨j, hj, rfl, hown, hb⟩ := hrel
    by_cases hlt : j < l.length
    · obtain ⟨b, off, rfl, hbs, c0, c1⟩ := HC.out j hlt
      have d0 := (hb.cell (p := ⟨b, off + j * 2, none⟩) hbs).trans c0
      have d1 := (hb.cell (p := ⟨b, off + j * 2 + 1, none⟩) hbs).trans c1
      have hva := all_getD HI.out (0, 0) j hlt
      have hsn := take_map_snoc (rotN k) l (0, 0) j hlt
      obtain ⟨x, y, hxy⟩ : ∃ x y, l.getD j (0, 0) = (x, y) := ⟨_, _, rfl⟩
      rw [hxy] at d0 d1 hva hsn
      simp only at d0 d1
      have HVA := Lib.hid hva
      have HSN := Lib.hid hsn
      have hz : b < wr.heap.size := Nat.lt_of_lt_of_le hbs hb.size
      have T8 := hb.size
      clear c0 c1 hva hsn hxy
      have HO := Lib.hid hown; clear hown
      have HB := Lib.hid hb; clear hb
      have hva := HVA.out
      go_wp2_with fail
      refine (IsValidVec_c _ _ _).mono ?_
      rintro e w1 ⟨rfl, h1⟩
      have B1 : Below wr.heap.size wr w1 := Below.trans (by (repeat (first | with_reducible exact Below.refl _ _ | with_reducible assumption | with_reducible refine Below.drew ?_ | with_reducible refine Below.setCell ?_ ?_ _ | with_reducible refine Below.alloc ?_ ?_ _)); all_goals first | (simp; done) | (simp; omega) | omega) (h1.mono (by first | (simp; done) | (simp; omega) | omega))
      have S1 := h1.size
      have T1 := B1.size
      try simp at S1
      obtain ⟨k1, f1⟩ := bcell h1
      try simp at k1
      try simp at f1
      have Hc1 := Lib.hid h1
      clear h1
      have u1_0 : wr.heap.size < w1.heap.size := by omega
      go_wp2_with fail
      clear hva
      refine (TurnVec_c _ _ k hk HVA.out _).mono ?_
      rintro e w2 ⟨rfl, h2⟩
      have B2 : Below wr.heap.size wr w2 := Below.trans (by (repeat (first | with_reducible exact Below.refl _ _ | with_reducible assumption | with_reducible refine Below.drew ?_ | with_reducible refine Below.setCell ?_ ?_ _ | with_reducible refine Below.alloc ?_ ?_ _)); all_goals first | (simp; done) | (simp; omega) | omega) (h2.mono (by first | (simp; done) | (simp; omega) | omega))
      have S2 := h2.size
      have T2 := B2.size
      try simp at S2
      obtain ⟨k2, f2⟩ := bcell h2
      try simp at k2
      try simp at f2
      have Hc2 := Lib.hid h2
      clear h2
      have u2_0 : wr.heap.size < w2.heap.size := by omega
      have HB2 := Lib.hid (HB.out.trans (B2.mono T8))
      have HO2 := Lib.hid (HO.out.below B2)
      have T9 : w.heap.size ≤ w2.heap.size := by omega
      clear B2 k2 f2 B1 k1 f1
      go_wp2_with (at_builtin; refine wp_appVec elemVec rfl _ _ rfl w.heap.size _ _ rfl (HO2.out.alloc _) w2.heap.size (rotN k (x, y)).1 (rotN k (x, y)).2 rfl ?c1 ?c2 ?c3 (by decide) ?c4 ?_; rotate_left 4; intro v1 w3 hown3 hg3)
      case c1 => go_simp
      case c2 => go_simp
      case c3 => simp; omega
      case c4 => simp; omega
      have HO3 := Lib.hid hown3; clear hown3
      have HB3 := Lib.hid (below_own (HB2.out.alloc T9 _) (HO2.out.alloc _) hg3 (by simp; omega) (Nat.le_refl _)); clear hg3
      go_wp2
      go_roundw
      case rel => exact ⟨j + 1, by omega, by go_num, by rw [HSN.out]; exact HO3.out, HB3.out⟩
      case measure => simp [intOf]; omega
    · have HO := Lib.hid hown; clear hown
      have HB := Lib.hid hb; clear hb
      go_wp2
      go_ret
      refine ⟨_, rfl, ?_, HB.out⟩
      have := HO.out
      rw [List.take_of_length_le (by omega)] at this
      exact this
end Go.Proofs.Ytemgpfojmdncjaa
