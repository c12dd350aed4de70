/-
  The walk of the law FnExactLimitsOf: it returns true and writes nothing that was there.
-/
import Derived.Test.YtemgpfojmdncjaaLimits
import Derived.Test.YtemgpfojmdncjaaSz
import Derived.Test.YtemgpfojmdncjaaTo
import Derived.RegionTactic
import Derived.BigRegion
import Derived.Deep.RegionWith
namespace Go.Proofs.Ytemgpfojmdncjaa
open Go.RowKit

theorem scn_small {s : Scn} (h : scnSize s ≤ 1048576) : s.robot.length ≤ 1048576 ∧ s.obst.length ≤ 1048576 ∧ (∀ x ∈ s.obst, x.length ≤ 1048576) ∧ s.tables.length ≤ 1048576 := by
  unfold scnSize at h
  refine ⟨by omega, by omega, fun x hx => ?_, by omega⟩
  have : x.length ≤ sumLen s.obst := by
    unfold sumLen
    generalize s.obst = ll at hx
    induction ll with
    | nil => simp at hx
    | cons y r ih =>
      simp only [List.map_cons, List.sum_cons]
      rcases List.mem_cons.1 hx with rfl | hx
      · omega
      · have := ih hx; omega
  omega

theorem ownsScene.shape {w : World} {base : Nat} {v : Value} {s : Scn} (h : ownsScene w base v s) : ∃ a1 n1 c1 a2 n2 c2 a3 n3 c3, v = .agg #[.int .i64 s.low.1, .int .i64 s.low.2, .int .i64 s.high.1, .int .i64 s.high.2, .slice a1 n1 c1, .slice a2 n2 c2, .slice a3 n3 c3] := by
  obtain ⟨r, o, t, vs, rfl, p1, p2, p3, _, _, _⟩ := h
  obtain ⟨a, c, rfl⟩ := owns_slice p1
  obtain ⟨a', c', rfl⟩ := owns_slice p2
  obtain ⟨a'', c'', rfl⟩ := owns_slice p3
  exact ⟨_, _, _, _, _, _, _, _, _, rfl⟩

set_option maxRecDepth 100000 in
set_option maxHeartbeats 4000000 in
theorem lawLimits_walk (s : Scn) (h : Int) (v : Value) (w : World) (hv : SceneAt w v s) :
    Calls Try.prog 4 #[v, .int .i64 h] w fun e w' => e = .returned (.bool true) ∧ Below w.heap.size w w' := by
  have HV := Lib.hid hv
  obtain ⟨r, o, t, rfl, hr, ho, ht⟩ := hv
  obtain ⟨ra, rcap, rfl, _, _, _⟩ := hr.open
  obtain ⟨oa, ocap, rfl, _, _, _⟩ := ho.open
  obtain ⟨ta, tcap, rfl, _, _, _⟩ := ht.open
  clear hr ho ht
  obtain ⟨a, b, c, d, hbx⟩ : ∃ a b c d, limitsBox s h = ((a, b), (c, d)) := ⟨_, _, _, _, rfl⟩
  have hL : limVal s h = .tuple #[.agg #[.int .i64 a, .int .i64 b, .int .i64 c, .int .i64 d], .bool (limitsOk s h)] := by simp [limVal, hbx]
  obtain ⟨ok, hok⟩ : ∃ ok, limitsOk s h = ok := ⟨_, rfl⟩
  rw [hok] at hL
  have HL := Lib.hid hL
  clear hL hbx hok
  go_enter Try.func4, Try.ntmps4
  go_wp2_with fail
  refine (szScene_c s 1048576 (by omega) (by omega) _ _ (HV.out.below ((Below.refl _ _).alloc (Nat.le_refl _) _))).mono ?_
  rintro e w1 ⟨r, rfl, hr, h1⟩
  have B1 : Below w.heap.size w w1 := Below.trans (by repeat (first | exact Below.refl _ _ | assumption | refine Below.drew ?_ | refine Below.setCell ?_ (by first | (simp; done) | (simp; omega) | omega) _ | refine Below.alloc ?_ (by first | (simp; done) | (simp; omega) | omega) _)) (h1.mono (by first | (simp; done) | (simp; omega) | omega))
  have S1 := h1.size
  have T1 := B1.size
  try simp at S1
  obtain ⟨k1, f1⟩ := bcell h1
  try simp at k1
  try simp at f1
  have Hc1 := Lib.hid h1
  clear h1
  have u1_0 : w.heap.size < w1.heap.size := by omega
  rcases hr with rfl | ⟨hr0, hr1⟩
  · go_wp2
    go_ret
    exact ⟨rfl, B1⟩
  have hsm := scn_small (s := s) (by omega)
  have HS := Lib.hid hsm
  clear hsm hr1
  go_wp2_with fail
  refine (toScene_c s HS.out.1 HS.out.2.1 HS.out.2.2.1 HS.out.2.2.2 _ _ (HV.out.below B1)).mono ?_
  rintro e w2 ⟨v1, rfl, hs1, h2⟩
  have B2 : Below w.heap.size w w2 := Below.trans (by repeat (first | exact Below.refl _ _ | assumption | refine Below.drew ?_ | refine Below.setCell ?_ (by first | (simp; done) | (simp; omega) | omega) _ | refine Below.alloc ?_ (by first | (simp; done) | (simp; omega) | omega) _)) (h2.mono (by first | (simp; done) | (simp; omega) | omega))
  have S2 := h2.size
  have T2 := B2.size
  try simp at S2
  obtain ⟨k2, f2⟩ := bcell h2
  try simp at k2
  try simp at f2
  have Hc2 := Lib.hid h2
  clear h2
  have u2_0 : w.heap.size < w2.heap.size := by omega
  have HS1 := Lib.hid hs1; clear hs1
  go_wp2_with fail
  refine (sLimitsOf_c s h _ _ HS1.out.at).mono ?_
  rintro e w3 ⟨rfl, h3⟩
  have B3 : Below w.heap.size w w3 := Below.trans (by repeat (first | exact Below.refl _ _ | assumption | refine Below.drew ?_ | refine Below.setCell ?_ (by first | (simp; done) | (simp; omega) | omega) _ | refine Below.alloc ?_ (by first | (simp; done) | (simp; omega) | omega) _)) (h3.mono (by first | (simp; done) | (simp; omega) | omega))
  have S3 := h3.size
  have T3 := B3.size
  try simp at S3
  obtain ⟨k3, f3⟩ := bcell h3
  try simp at k3
  try simp at f3
  have Hc3 := Lib.hid h3
  clear h3
  have u3_0 : w.heap.size < w3.heap.size := by omega
  rw [HL.out]
  go_wp2_with fail
  refine (toScene_c s HS.out.1 HS.out.2.1 HS.out.2.2.1 HS.out.2.2.2 _ _ (HV.out.below (B3.alloc T3 _))).mono ?_
  rintro e w4 ⟨v2, rfl, hs2, h4⟩
  have B4 : Below w.heap.size w w4 := Below.trans (by repeat (first | exact Below.refl _ _ | assumption | refine Below.drew ?_ | refine Below.setCell ?_ (by first | (simp; done) | (simp; omega) | omega) _ | refine Below.alloc ?_ (by first | (simp; done) | (simp; omega) | omega) _)) (h4.mono (by first | (simp; done) | (simp; omega) | omega))
  have S4 := h4.size
  have T4 := B4.size
  try simp at S4
  obtain ⟨k4, f4⟩ := bcell h4
  try simp at k4
  try simp at f4
  have Hc4 := Lib.hid h4
  clear h4
  have u4_0 : w.heap.size < w4.heap.size := by omega
  have HS2 := Lib.hid hs2
  obtain ⟨ar2, nr2, cr2, ao2, no2, co2, at2, nt2, ct2, rfl⟩ := hs2.shape
  clear hs2
  have y1 : w3.heap.size < w4.heap.size := by omega
  have y2 : w3.heap.size < w4.heap.size + 1 := by omega
  go_wp2_with fail
  refine (LimitsOf_c s h _ _ (HS2.out.at.below ((Below.refl _ _).alloc (Nat.le_refl _) _))).mono ?_
  rintro e w5 ⟨rfl, h5⟩
  have B5 : Below w.heap.size w w5 := Below.trans (by repeat (first | exact Below.refl _ _ | assumption | refine Below.drew ?_ | refine Below.setCell ?_ (by first | (simp; done) | (simp; omega) | omega) _ | refine Below.alloc ?_ (by first | (simp; done) | (simp; omega) | omega) _)) (h5.mono (by first | (simp; done) | (simp; omega) | omega))
  have S5 := h5.size
  have T5 := B5.size
  try simp at S5
  obtain ⟨k5, f5⟩ := bcell h5
  try simp at k5
  try simp at f5
  have Hc5 := Lib.hid h5
  clear h5
  have u5_0 : w.heap.size < w5.heap.size := by omega
  rw [HL.out]
  have y3 : w3.heap.size < w5.heap.size := by omega
  have y4 : w4.heap.size < w5.heap.size := by omega
  have y5 : w4.heap.size < w5.heap.size + 1 := by omega
  have y6 : w3.heap.size < w5.heap.size + 1 := by omega
  go_wp2_with fail
  refine (eqBox_c a b c d _).mono ?_
  rintro e w6 ⟨rfl, h6⟩
  have B6 : Below w.heap.size w w6 := Below.trans (by repeat (first | exact Below.refl _ _ | assumption | refine Below.drew ?_ | refine Below.setCell ?_ (by first | (simp; done) | (simp; omega) | omega) _ | refine Below.alloc ?_ (by first | (simp; done) | (simp; omega) | omega) _)) (h6.mono (by first | (simp; done) | (simp; omega) | omega))
  have S6 := h6.size
  have T6 := B6.size
  try simp at S6
  obtain ⟨k6, f6⟩ := bcell h6
  try simp at k6
  try simp at f6
  have Hc6 := Lib.hid h6
  clear h6
  have u6_0 : w.heap.size < w6.heap.size := by omega
  have y7 : w4.heap.size < w6.heap.size := by omega
  have BW4 : Below w4.heap.size w4 w6 := ((((Below.refl _ _).alloc (Nat.le_refl _) _).trans (Hc5.out.mono (by simp))).alloc (by omega) _).trans (Hc6.out.mono (by simp; omega))
  have HSX := Lib.hid (HS2.out.at.below BW4)
  have HV6 := Lib.hid (HV.out.below B6)
  have HB6 := Lib.hid B6
  clear BW4
  have g0 : w6.cell? ⟨w4.heap.size, 0, none⟩ = some (.int .i64 s.low.1) := by go_simp
  have g1 : w6.cell? ⟨w4.heap.size, 1, none⟩ = some (.int .i64 s.low.2) := by go_simp
  have g2 : w6.cell? ⟨w4.heap.size, 2, none⟩ = some (.int .i64 s.high.1) := by go_simp
  have g3 : w6.cell? ⟨w4.heap.size, 3, none⟩ = some (.int .i64 s.high.2) := by go_simp
  have g4 : w6.cell? ⟨w4.heap.size, 4, none⟩ = some (.slice ar2 nr2 cr2) := by go_simp
  have g5 : w6.cell? ⟨w4.heap.size, 5, none⟩ = some (.slice ao2 no2 co2) := by go_simp
  have g6 : w6.cell? ⟨w4.heap.size, 6, none⟩ = some (.slice at2 nt2 ct2) := by go_simp
  have m0 : w6.cell? ⟨w.heap.size, 0, none⟩ = some (.int .i64 s.low.1) := by go_simp
  have m1 : w6.cell? ⟨w.heap.size, 1, none⟩ = some (.int .i64 s.low.2) := by go_simp
  have m2 : w6.cell? ⟨w.heap.size, 2, none⟩ = some (.int .i64 s.high.1) := by go_simp
  have m3 : w6.cell? ⟨w.heap.size, 3, none⟩ = some (.int .i64 s.high.2) := by go_simp
  have m4 : w6.cell? ⟨w.heap.size, 4, none⟩ = some (.slice ra s.robot.length rcap) := by go_simp
  have m5 : w6.cell? ⟨w.heap.size, 5, none⟩ = some (.slice oa s.obst.length ocap) := by go_simp
  have m6 : w6.cell? ⟨w.heap.size, 6, none⟩ = some (.slice ta s.tables.length tcap) := by go_simp
  have hw6 : w.heap.size < w6.heap.size := u6_0
  clear k1 f1 k2 f2 k3 f3 k4 f4 k5 f5
  go_wp2
  clear k6 f6 B1 B2 B3 B4 B5 B6
  go_region_with (first | (go_at_call 16; refine (toScene_c s HS.out.1 HS.out.2.1 HS.out.2.2.1 HS.out.2.2.2 _ _ (by first | exact HV6.out | exact HV6.out.below (Below.refl _ _).drew)).mono ?_; rintro e wA ⟨vA, rfl, hsA, hbA⟩; obtain ⟨kA, fA⟩ := bcell hbA; try simp at kA; clear fA; have HSA := Lib.hid hsA; have HBA := Lib.hid hbA; clear hsA hbA) | (go_at_call 19; refine (eqScene_c s _ _ _ (by first | exact HSX.out.below HBA.out | exact (HSX.out.below (Below.refl _ _).drew).below HBA.out) HSA.out.at).mono ?_; rintro e wB ⟨rfl, hbB⟩; have HBB := Lib.hid hbB; clear hbB))
  all_goals
    have z1 := HBA.out.size
    try simp at z1
    go_wp2
    go_ret
    refine ⟨rfl, ?_⟩
    first
      | exact (HB6.out.trans (HBA.out.mono (by simp; omega))).trans (HBB.out.mono (by omega))
      | exact (HB6.out.drew.trans (HBA.out.mono (by simp; omega))).trans (HBB.out.mono (by omega))
      | exact ((HB6.out.drew.trans (HBA.out.mono (by simp; omega))).trans (HBB.out.mono (by omega))).drew
end Go.Proofs.Ytemgpfojmdncjaa
