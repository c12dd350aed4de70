/-
  Contracts of the law's own counts of sizes, and of its comparisons of equal scenes and boxes.
-/
import Derived.Test.YtemgpfojmdncjaaEq
namespace Go.Proofs.Ytemgpfojmdncjaa
open Go.RowKit

/-- What a count leaves: -1, or what is left. -/
def szOk (size : Nat) (left r : Int) : Prop := r = -1 ∨ (0 ≤ r ∧ r + size = left)
def sumLen (ll : List (List V2)) : Nat := (ll.map List.length).sum
theorem sumLen_snoc (ll : List (List V2)) (k : Nat) (hk : k < ll.length) : sumLen (ll.take (k + 1)) = sumLen (ll.take k) + (ll.getD k []).length := by
  unfold sumLen
  rw [List.take_succ_eq_append_getElem hk, List.map_append, List.sum_append]
  simp [List.getD, List.getElem?_eq_getElem hk]

theorem szVecS_c (l : List V2) (left : Int) (h0 : 0 ≤ left) (h1 : left ≤ 1048576) (v : Value) (w : World) (hv : VecsAt w v l) :
    Calls Try.prog 41 #[v, .int .i64 left] w fun e w' => ∃ r, e = .returned (.int .i64 r) ∧ szOk l.length left r ∧ w = w' := by
  obtain ⟨a, cap, rfl, hl, hc, _⟩ := hv.open
  clear hv
  have hlen : (l.length : Int) ≤ 9223372036854775807 := by omega
  by_cases h : left - (l.length : Int) < 0
  · have HP : Hid (szOk l.length left (-1)) := .inl rfl
    go_enter Try.func41, Try.ntmps41
    go_wp2
    go_ret
    exact ⟨_, rfl, HP.out, rfl⟩
  · have HP : Hid (szOk l.length left (left - l.length)) := .inr ⟨by omega, by omega⟩
    go_enter Try.func41, Try.ntmps41
    go_wp2
    go_ret
    exact ⟨_, rfl, HP.out, rfl⟩

set_option maxHeartbeats 1000000 in
theorem szVecSS_c (l : List (List V2)) (left : Int) (h0 : 0 ≤ left) (h1 : left ≤ 1048576) (v : Value) (w : World) (hv : VecSSAt w v l) :
    Calls Try.prog 54 #[v, .int .i64 left] w fun e w' => ∃ r, e = .returned (.int .i64 r) ∧ szOk (l.length + sumLen l) left r ∧ w = w' := by
  obtain ⟨a, cap, rfl, hl, hc, hcell⟩ := hv.open
  have HC := Lib.hid hcell; clear hcell hv
  have hlen : (l.length : Int) ≤ 9223372036854775807 := by omega
  by_cases h : left - (l.length : Int) < 0
  · have HP : Hid (szOk (l.length + sumLen l) left (-1)) := .inl rfl
    go_enter Try.func54, Try.ntmps54
    go_wp2
    go_ret
    exact ⟨_, rfl, HP.out, rfl⟩
  · go_enter Try.func54, Try.ntmps54
    go_wp2
    go_loop [1, 5] (fun c i => ∃ (k : Nat) (n : Int), k ≤ l.length ∧ i = .int .i64 k ∧ c = .int .i64 n ∧ 0 ≤ n ∧ n ≤ 1048576 ∧ n + l.length + sumLen (l.take k) = left) (fun _ i => l.length - (intOf i).toNat)
    case atStart => exact ⟨0, _, Nat.zero_le _, rfl, rfl, by omega, by omega, by simp [sumLen]⟩
    case round =>
      obtain ⟨k, n, hk, rfl, rfl, hn0, hn1, hsum⟩ := hrel
      have HS := Lib.hid hsum; clear hsum
      by_cases hlt : k < l.length
      · obtain ⟨b, off, q, rfl, hbs, c0, hq0⟩ := HC.out k hlt
        have hsn := sumLen_snoc l k hlt
        obtain ⟨P, hP⟩ : ∃ P, l.getD k [] = P := ⟨_, rfl⟩
        rw [hP] at hq0 hsn
        have HSN := Lib.hid hsn
        have HQ := Lib.hid hq0
        clear hP hq0 hsn
        go_wp2_with fail
        refine (szVecS_c P n hn0 hn1 _ _ HQ.out).mono ?_
        rintro e w' ⟨r, rfl, hr, rfl⟩
        have HR := Lib.hid hr
        rcases hr with rfl | ⟨hr0, hr1⟩
        · have HP : Hid (szOk (l.length + sumLen l) left (-1)) := .inl rfl
          go_wp2
          go_ret
          exact ⟨_, rfl, HP.out, rfl⟩
        · have hr2 : r ≤ 1048576 := by omega
          have HR1 := Lib.hid hr1; clear hr1
          go_wp2
          go_round
          case rel => exact ⟨k + 1, r, by omega, by go_num, rfl, by omega, by omega, by have := HS.out; have := HR1.out; have := HSN.out; omega⟩
          case measure => simp [intOf]; omega
      · have hke : k = l.length := by omega
        have HP : Hid (szOk (l.length + sumLen l) left n) := .inr ⟨hn0, by have := HS.out; rw [hke, List.take_length] at this; omega⟩
        clear hke
        go_wp2
        go_ret
        exact ⟨_, rfl, HP.out, rfl⟩

/-- The size of a scene. -/
def scnSize (s : Scn) : Nat := s.robot.length + (s.obst.length + sumLen s.obst) + s.tables.length

set_option maxHeartbeats 1000000 in
theorem szScene_c (s : Scn) (left : Int) (h0 : 0 ≤ left) (h1 : left ≤ 1048576) (v : Value) (w : World) (hv : SceneAt w v s) :
    Calls Try.prog 14 #[v, .int .i64 left] w fun e w' => ∃ r, e = .returned (.int .i64 r) ∧ szOk (scnSize s) left r ∧ Below w.heap.size w w' := by
  obtain ⟨r, o, t, rfl, hr, ho, ht⟩ := hv
  have HR := Lib.hid (hr.below (w' := w.alloc (.cells #[.int .i64 s.low.1, .int .i64 s.low.2, .int .i64 s.high.1, .int .i64 s.high.2, r, o, t] 29)) ((Below.refl _ _).alloc (Nat.le_refl _) _))
  have HO := Lib.hid (ho.below (w' := w.alloc (.cells #[.int .i64 s.low.1, .int .i64 s.low.2, .int .i64 s.high.1, .int .i64 s.high.2, r, o, t] 29)) ((Below.refl _ _).alloc (Nat.le_refl _) _))
  have HT := Lib.hid (ht.below (w' := w.alloc (.cells #[.int .i64 s.low.1, .int .i64 s.low.2, .int .i64 s.high.1, .int .i64 s.high.2, r, o, t] 29)) ((Below.refl _ _).alloc (Nat.le_refl _) _))
  obtain ⟨ra, rcap, rfl, _, _, _⟩ := hr.open
  obtain ⟨oa, ocap, rfl, _, _, _⟩ := ho.open
  obtain ⟨ta, tcap, rfl, _, _, _⟩ := ht.open
  clear hr ho ht
  have HM : Hid (szOk (scnSize s) left (-1)) := .inl rfl
  go_enter Try.func14, Try.ntmps14
  go_wp2_with fail
  refine (szVecS_c s.robot left h0 h1 _ _ HR.out).mono ?_
  rintro e w' ⟨r1, rfl, hr1, rfl⟩
  rcases hr1 with rfl | ⟨a0, a1⟩
  · go_wp2
    go_ret
    exact ⟨_, rfl, HM.out, (by repeat (first | exact Below.refl _ _ | assumption | refine Below.drew ?_ | refine Below.setCell ?_ (by first | (simp; done) | (simp; omega) | omega) _ | refine Below.alloc ?_ (by first | (simp; done) | (simp; omega) | omega) _))⟩
  have a2 : r1 ≤ 1048576 := by omega
  have A1 := Lib.hid a1; clear a1
  go_wp2_with fail
  refine (szVecSS_c s.obst r1 a0 a2 _ _ HO.out).mono ?_
  rintro e w' ⟨r2, rfl, hr2, rfl⟩
  rcases hr2 with rfl | ⟨b0, b1⟩
  · go_wp2
    go_ret
    exact ⟨_, rfl, HM.out, (by repeat (first | exact Below.refl _ _ | assumption | refine Below.drew ?_ | refine Below.setCell ?_ (by first | (simp; done) | (simp; omega) | omega) _ | refine Below.alloc ?_ (by first | (simp; done) | (simp; omega) | omega) _))⟩
  have b2 : r2 ≤ 1048576 := by omega
  have A2 := Lib.hid b1; clear b1
  go_wp2_with fail
  refine (szVecS_c s.tables r2 b0 b2 _ _ HT.out).mono ?_
  rintro e w' ⟨r3, rfl, hr3, rfl⟩
  rcases hr3 with rfl | ⟨c0, c1⟩
  · go_wp2
    go_ret
    exact ⟨_, rfl, HM.out, (by repeat (first | exact Below.refl _ _ | assumption | refine Below.drew ?_ | refine Below.setCell ?_ (by first | (simp; done) | (simp; omega) | omega) _ | refine Below.alloc ?_ (by first | (simp; done) | (simp; omega) | omega) _))⟩
  have A3 := Lib.hid c1; clear c1
  go_wp2
  go_ret
  exact ⟨_, rfl, .inr ⟨c0, by have := A1.out; have := A2.out; have := A3.out; unfold scnSize; omega⟩, (by repeat (first | exact Below.refl _ _ | assumption | refine Below.drew ?_ | refine Below.setCell ?_ (by first | (simp; done) | (simp; omega) | omega) _ | refine Below.alloc ?_ (by first | (simp; done) | (simp; omega) | omega) _))⟩

set_option maxHeartbeats 1000000 in
theorem eqScene_c (s : Scn) (v u : Value) (w : World) (hv : SceneAt w v s) (hu : SceneAt w u s) :
    Calls Try.prog 19 #[v, u] w fun e w' => e = .returned (.bool true) ∧ Below w.heap.size w w' := by
  obtain ⟨r, o, t, rfl, hr, ho, ht⟩ := hv
  obtain ⟨r', o', t', rfl, hr', ho', ht'⟩ := hu
  have HA := Lib.hid (And.intro (And.intro hr (And.intro ho ht)) (And.intro hr' (And.intro ho' ht')))
  obtain ⟨ra, rcap, rfl, _, _, _⟩ := hr.open
  obtain ⟨oa, ocap, rfl, _, _, _⟩ := ho.open
  obtain ⟨ta, tcap, rfl, _, _, _⟩ := ht.open
  obtain ⟨ra', rcap', rfl, _, _, _⟩ := hr'.open
  obtain ⟨oa', ocap', rfl, _, _, _⟩ := ho'.open
  obtain ⟨ta', tcap', rfl, _, _, _⟩ := ht'.open
  clear hr ho ht hr' ho' ht'
  have e1 : eqB (s.low.1, s.low.2) (s.low.1, s.low.2) = true := eqB_true rfl
  have e2 : eqB (s.high.1, s.high.2) (s.high.1, s.high.2) = true := eqB_true rfl
  have e3 : eqB s.robot s.robot = true := eqB_true rfl
  have e4 : eqB s.obst s.obst = true := eqB_true rfl
  have e5 : eqB s.tables s.tables = true := eqB_true rfl
  go_enter Try.func19, Try.ntmps19
  go_wp2_with fail
  refine (eqVec_c _ _ _ _ _).mono ?_
  rintro e w1 ⟨rfl, h1⟩
  have B1 : Below w.heap.size w w1 := Below.trans (by repeat (first | exact Below.refl _ _ | assumption | refine Below.drew ?_ | refine Below.setCell ?_ (by first | (simp; done) | (simp; omega) | omega) _ | refine Below.alloc ?_ (by first | (simp; done) | (simp; omega) | omega) _)) (h1.mono (by first | (simp; done) | (simp; omega) | omega))
  have S1 := h1.size
  have T1 := B1.size
  try simp at S1
  obtain ⟨k1, f1⟩ := bcell h1
  try simp at k1
  try simp at f1
  have Hc1 := Lib.hid h1
  clear h1
  have u1_0 : w.heap.size < w1.heap.size := by omega
  have u1_1 : w.heap.size + 1 < w1.heap.size := by omega
  go_wp2_with fail
  refine (eqVec_c _ _ _ _ _).mono ?_
  rintro e w2 ⟨rfl, h2⟩
  have B2 : Below w.heap.size w w2 := Below.trans (by repeat (first | exact Below.refl _ _ | assumption | refine Below.drew ?_ | refine Below.setCell ?_ (by first | (simp; done) | (simp; omega) | omega) _ | refine Below.alloc ?_ (by first | (simp; done) | (simp; omega) | omega) _)) (h2.mono (by first | (simp; done) | (simp; omega) | omega))
  have S2 := h2.size
  have T2 := B2.size
  try simp at S2
  obtain ⟨k2, f2⟩ := bcell h2
  try simp at k2
  try simp at f2
  have Hc2 := Lib.hid h2
  clear h2
  have u2_0 : w.heap.size < w2.heap.size := by omega
  have u2_1 : w.heap.size + 1 < w2.heap.size := by omega
  go_wp2_with fail
  refine (eqVecS_c s.robot s.robot _ _ _ (HA.out.1.1.below B2) (HA.out.2.1.below B2)).mono ?_
  rintro e w3 ⟨rfl, h3⟩
  have B3 : Below w.heap.size w w3 := Below.trans (by repeat (first | exact Below.refl _ _ | assumption | refine Below.drew ?_ | refine Below.setCell ?_ (by first | (simp; done) | (simp; omega) | omega) _ | refine Below.alloc ?_ (by first | (simp; done) | (simp; omega) | omega) _)) (h3.mono (by first | (simp; done) | (simp; omega) | omega))
  have S3 := h3.size
  have T3 := B3.size
  try simp at S3
  obtain ⟨k3, f3⟩ := bcell h3
  try simp at k3
  try simp at f3
  have Hc3 := Lib.hid h3
  clear h3
  have u3_0 : w.heap.size < w3.heap.size := by omega
  have u3_1 : w.heap.size + 1 < w3.heap.size := by omega
  go_wp2_with fail
  refine (eqVecSS_c s.obst s.obst _ _ _ (HA.out.1.2.1.below B3) (HA.out.2.2.1.below B3)).mono ?_
  rintro e w4 ⟨rfl, h4⟩
  have B4 : Below w.heap.size w w4 := Below.trans (by repeat (first | exact Below.refl _ _ | assumption | refine Below.drew ?_ | refine Below.setCell ?_ (by first | (simp; done) | (simp; omega) | omega) _ | refine Below.alloc ?_ (by first | (simp; done) | (simp; omega) | omega) _)) (h4.mono (by first | (simp; done) | (simp; omega) | omega))
  have S4 := h4.size
  have T4 := B4.size
  try simp at S4
  obtain ⟨k4, f4⟩ := bcell h4
  try simp at k4
  try simp at f4
  have Hc4 := Lib.hid h4
  clear h4
  have u4_0 : w.heap.size < w4.heap.size := by omega
  have u4_1 : w.heap.size + 1 < w4.heap.size := by omega
  go_wp2_with fail
  refine (eqVecS_c s.tables s.tables _ _ _ (HA.out.1.2.2.below B4) (HA.out.2.2.2.below B4)).mono ?_
  rintro e w5 ⟨rfl, h5⟩
  have B5 : Below w.heap.size w w5 := Below.trans (by repeat (first | exact Below.refl _ _ | assumption | refine Below.drew ?_ | refine Below.setCell ?_ (by first | (simp; done) | (simp; omega) | omega) _ | refine Below.alloc ?_ (by first | (simp; done) | (simp; omega) | omega) _)) (h5.mono (by first | (simp; done) | (simp; omega) | omega))
  have S5 := h5.size
  have T5 := B5.size
  try simp at S5
  obtain ⟨k5, f5⟩ := bcell h5
  try simp at k5
  try simp at f5
  have Hc5 := Lib.hid h5
  clear h5
  have u5_0 : w.heap.size < w5.heap.size := by omega
  have u5_1 : w.heap.size + 1 < w5.heap.size := by omega
  go_wp2
  go_ret
  exact ⟨rfl, B5⟩

theorem eqBox_c (a b c d : Int) (w : World) :
    Calls Try.prog 18 #[.agg #[.int .i64 a, .int .i64 b, .int .i64 c, .int .i64 d], .agg #[.int .i64 a, .int .i64 b, .int .i64 c, .int .i64 d]] w fun e w' => e = .returned (.bool true) ∧ Below w.heap.size w w' := by
  have e1 : eqB (a, b) (a, b) = true := eqB_true rfl
  have e2 : eqB (c, d) (c, d) = true := eqB_true rfl
  go_enter Try.func18, Try.ntmps18
  go_wp2_with fail
  refine (eqVec_c _ _ _ _ _).mono ?_
  rintro e w1 ⟨rfl, h1⟩
  have B1 : Below w.heap.size w w1 := Below.trans (by repeat (first | exact Below.refl _ _ | assumption | refine Below.drew ?_ | refine Below.setCell ?_ (by first | (simp; done) | (simp; omega) | omega) _ | refine Below.alloc ?_ (by first | (simp; done) | (simp; omega) | omega) _)) (h1.mono (by first | (simp; done) | (simp; omega) | omega))
  have S1 := h1.size
  have T1 := B1.size
  try simp at S1
  obtain ⟨k1, f1⟩ := bcell h1
  try simp at k1
  try simp at f1
  have Hc1 := Lib.hid h1
  clear h1
  have u1_0 : w.heap.size < w1.heap.size := by omega
  have u1_1 : w.heap.size + 1 < w1.heap.size := by omega
  go_wp2_with fail
  refine (eqVec_c _ _ _ _ _).mono ?_
  rintro e w2 ⟨rfl, h2⟩
  have B2 : Below w.heap.size w w2 := Below.trans (by repeat (first | exact Below.refl _ _ | assumption | refine Below.drew ?_ | refine Below.setCell ?_ (by first | (simp; done) | (simp; omega) | omega) _ | refine Below.alloc ?_ (by first | (simp; done) | (simp; omega) | omega) _)) (h2.mono (by first | (simp; done) | (simp; omega) | omega))
  have S2 := h2.size
  have T2 := B2.size
  try simp at S2
  obtain ⟨k2, f2⟩ := bcell h2
  try simp at k2
  try simp at f2
  have Hc2 := Lib.hid h2
  clear h2
  have u2_0 : w.heap.size < w2.heap.size := by omega
  have u2_1 : w.heap.size + 1 < w2.heap.size := by omega
  go_wp2
  go_ret
  exact ⟨rfl, B2⟩
end Go.Proofs.Ytemgpfojmdncjaa
