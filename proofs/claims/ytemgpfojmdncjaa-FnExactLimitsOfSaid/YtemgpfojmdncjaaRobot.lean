/-
  Contracts of RobotAt, of the program and of the reference.
-/
import Derived.Test.YtemgpfojmdncjaaScene
import Derived.Test.YtemgpfojmdncjaaTurn
namespace Go.Proofs.Ytemgpfojmdncjaa
open Go.RowKit

/-- The corners of the robot of a scene at a heading, or nothing. -/
def robotAt (s : Scn) (h : Int) : List V2 := if validScn s && inR h 0 3 then turnPoly s.robot h.toNat else []

theorem validScn_robot {s : Scn} (h : validScn s = true) : isPoly s.robot = true ∧ s.robot.length ≤ 5 ∧ s.robot.all (insB 20) = true := by
  simp only [validScn, shape, Bool.and_eq_true, decide_eq_true_eq] at h
  obtain ⟨⟨_, ⟨h1, h2⟩, h3⟩, _⟩ := h
  exact ⟨h1, h2, h3⟩
theorem isPoly_vecs {l : List V2} (h : isPoly l = true) : 3 ≤ l.length ∧ l.length ≤ 16 ∧ l.all isVec = true := by
  simp only [isPoly, Bool.and_eq_true, inR_iff] at h
  exact ⟨by omega, by omega, h.1.2⟩

set_option maxRecDepth 100000 in
set_option maxHeartbeats 1000000 in
theorem RobotAt_c (s : Scn) (h : Int) (v : Value) (w : World) (hv : SceneAt w v s) :
    Calls Try.prog 58 #[v, .int .i64 h] w fun e w' => ∃ v', e = .returned v' ∧ ownsVecs w' w.heap.size 31 v' (robotAt s h) ∧ ((validScn s && inR h 0 3) = false → v' = .slice none 0 0) ∧ Below w.heap.size w w' := by
  have HV := Lib.hid hv
  obtain ⟨⟨lx, ly⟩, ⟨hx, hy⟩, rob, obs, tabs⟩ := s
  obtain ⟨r, o, t, rfl, hr, ho, ht⟩ := hv
  simp only at hr ho ht
  have HR := Lib.hid hr
  obtain ⟨ra, rcap, rfl, _, _, _⟩ := hr.open
  obtain ⟨oa, ocap, rfl, _, _, _⟩ := ho.open
  obtain ⟨ta, tcap, rfl, _, _, _⟩ := ht.open
  clear hr ho ht
  obtain ⟨S, hS⟩ : ∃ S : Scn, S = ⟨(lx, ly), (hx, hy), rob, obs, tabs⟩ := ⟨_, rfl⟩
  rw [← hS] at HV ⊢
  have hrob : S.robot = rob := by rw [hS]
  have HS := Lib.hid hrob
  clear hS hrob
  cases h1 : validScn S
  · have he : robotAt S h = [] := by simp [robotAt, h1]
    rw [he]
    go_enter Try.func58, Try.ntmps58
    go_wp2_with fail
    refine (IsValidScene_c S _ _ (HV.out.below ((Below.refl _ _).alloc (Nat.le_refl _) _))).mono ?_
    rintro e w1 ⟨rfl, h1⟩
    have B1 : Below w.heap.size w w1 := Below.trans (by repeat (first | exact Below.refl _ _ | assumption | refine Below.drew ?_ | refine Below.setCell ?_ (by first | (simp; done) | (simp; omega) | omega) _ | refine Below.alloc ?_ (by first | (simp; done) | (simp; omega) | omega) _)) (h1.mono (by first | (simp; done) | (simp; omega) | omega))
    have S1 := h1.size
    have T1 := B1.size
    try simp at S1
    obtain ⟨k1, f1⟩ := bcell h1
    try simp at k1
    try simp at f1
    have Hc1 := Lib.hid h1
    clear h1
    have u1_0 : w.heap.size < w1.heap.size := by omega
    go_wp2
    go_ret
    exact ⟨_, rfl, World.ownsRow_nil _ _ _ _, fun _ => rfl, B1⟩
  · cases h2 : inR h 0 3
    · have he : robotAt S h = [] := by simp [robotAt, h2]
      rw [he]
      go_enter Try.func58, Try.ntmps58
      go_wp2_with fail
      refine (IsValidScene_c S _ _ (HV.out.below ((Below.refl _ _).alloc (Nat.le_refl _) _))).mono ?_
      rintro e w1 ⟨rfl, h1⟩
      have B1 : Below w.heap.size w w1 := Below.trans (by repeat (first | exact Below.refl _ _ | assumption | refine Below.drew ?_ | refine Below.setCell ?_ (by first | (simp; done) | (simp; omega) | omega) _ | refine Below.alloc ?_ (by first | (simp; done) | (simp; omega) | omega) _)) (h1.mono (by first | (simp; done) | (simp; omega) | omega))
      have S1 := h1.size
      have T1 := B1.size
      try simp at S1
      obtain ⟨k1, f1⟩ := bcell h1
      try simp at k1
      try simp at f1
      have Hc1 := Lib.hid h1
      clear h1
      have u1_0 : w.heap.size < w1.heap.size := by omega
      go_wp2_with fail
      refine (isHeading_c _ _).mono ?_
      rintro e w' ⟨rfl, rfl⟩
      go_wp2
      go_ret
      exact ⟨_, rfl, World.ownsRow_nil _ _ _ _, fun _ => rfl, B1⟩
    · obtain ⟨n, rfl⟩ := Int.eq_ofNat_of_zero_le (inR_iff.1 h2).1
      have hn : n ≤ 3 := by have := (inR_iff.1 h2).2; omega
      have he : robotAt S n = turnPoly rob n := by simp only [robotAt, h1, h2, HS.out]; rfl
      rw [he]
      have hp := validScn_robot h1
      rw [HS.out] at hp
      have HP := Lib.hid hp
      have HP2 := Lib.hid (isPoly_vecs hp.1)
      clear hp he
      go_enter Try.func58, Try.ntmps58
      go_wp2_with fail
      refine (IsValidScene_c S _ _ (HV.out.below ((Below.refl _ _).alloc (Nat.le_refl _) _))).mono ?_
      rintro e w1 ⟨rfl, h1⟩
      have B1 : Below w.heap.size w w1 := Below.trans (by repeat (first | exact Below.refl _ _ | assumption | refine Below.drew ?_ | refine Below.setCell ?_ (by first | (simp; done) | (simp; omega) | omega) _ | refine Below.alloc ?_ (by first | (simp; done) | (simp; omega) | omega) _)) (h1.mono (by first | (simp; done) | (simp; omega) | omega))
      have S1 := h1.size
      have T1 := B1.size
      try simp at S1
      obtain ⟨k1, f1⟩ := bcell h1
      try simp at k1
      try simp at f1
      have Hc1 := Lib.hid h1
      clear h1
      have u1_0 : w.heap.size < w1.heap.size := by omega
      go_wp2_with fail
      refine (isHeading_c _ _).mono ?_
      rintro e w' ⟨rfl, rfl⟩
      go_wp2_with fail
      refine (TurnPolygon_c rob n hn HP2.out.2.2 (by have := HP.out.2.1; omega) _ _ (HR.out.below B1)).mono ?_
      rintro e w2 ⟨v', rfl, hown, hb2⟩
      have HO := Lib.hid hown; clear hown
      have HB2 := Lib.hid (B1.trans (hb2.mono T1)); clear hb2
      go_wp2
      go_ret
      refine ⟨_, rfl, ?_, fun h => by simp at h, HB2.out⟩
      obtain ⟨g1, g2⟩ := HO.out
      refine ⟨g1, ?_⟩
      rcases g2 with g2 | ⟨g, cap, cur, q1, q2, q3⟩
      · exact .inl g2
      · exact .inr ⟨g, cap, cur, q1, Nat.le_trans T1 q2, q3⟩

set_option maxRecDepth 100000 in
set_option maxHeartbeats 1000000 in
theorem sRobotAt_c (s : Scn) (h : Int) (v : Value) (w : World) (hv : SceneAt w v s) :
    Calls Try.prog 56 #[v, .int .i64 h] w fun e w' => ∃ v', e = .returned v' ∧ ownsVecs w' w.heap.size 31 v' (robotAt s h) ∧ ((validScn s && inR h 0 3) = false → v' = .slice none 0 0) ∧ Below w.heap.size w w' := by
  have HV := Lib.hid hv
  obtain ⟨⟨lx, ly⟩, ⟨hx, hy⟩, rob, obs, tabs⟩ := s
  obtain ⟨r, o, t, rfl, hr, ho, ht⟩ := hv
  simp only at hr ho ht
  have HR := Lib.hid hr
  obtain ⟨ra, rcap, rfl, _, _, _⟩ := hr.open
  obtain ⟨oa, ocap, rfl, _, _, _⟩ := ho.open
  obtain ⟨ta, tcap, rfl, _, _, _⟩ := ht.open
  clear hr ho ht
  obtain ⟨S, hS⟩ : ∃ S : Scn, S = ⟨(lx, ly), (hx, hy), rob, obs, tabs⟩ := ⟨_, rfl⟩
  rw [← hS] at HV ⊢
  have hrob : S.robot = rob := by rw [hS]
  have HS := Lib.hid hrob
  clear hS hrob
  cases h1 : validScn S
  · have he : robotAt S h = [] := by simp [robotAt, h1]
    rw [he]
    go_enter Try.func56, Try.ntmps56
    go_wp2_with fail
    refine (sIsValidScene_c S _ _ (HV.out.below ((Below.refl _ _).alloc (Nat.le_refl _) _))).mono ?_
    rintro e w1 ⟨rfl, h1⟩
    have B1 : Below w.heap.size w w1 := Below.trans (by repeat (first | exact Below.refl _ _ | assumption | refine Below.drew ?_ | refine Below.setCell ?_ (by first | (simp; done) | (simp; omega) | omega) _ | refine Below.alloc ?_ (by first | (simp; done) | (simp; omega) | omega) _)) (h1.mono (by first | (simp; done) | (simp; omega) | omega))
    have S1 := h1.size
    have T1 := B1.size
    try simp at S1
    obtain ⟨k1, f1⟩ := bcell h1
    try simp at k1
    try simp at f1
    have Hc1 := Lib.hid h1
    clear h1
    have u1_0 : w.heap.size < w1.heap.size := by omega
    go_wp2
    go_ret
    exact ⟨_, rfl, World.ownsRow_nil _ _ _ _, fun _ => rfl, B1⟩
  · cases h2 : inR h 0 3
    · have he : robotAt S h = [] := by simp [robotAt, h2]
      rw [he]
      go_enter Try.func56, Try.ntmps56
      go_wp2_with fail
      refine (sIsValidScene_c S _ _ (HV.out.below ((Below.refl _ _).alloc (Nat.le_refl _) _))).mono ?_
      rintro e w1 ⟨rfl, h1⟩
      have B1 : Below w.heap.size w w1 := Below.trans (by repeat (first | exact Below.refl _ _ | assumption | refine Below.drew ?_ | refine Below.setCell ?_ (by first | (simp; done) | (simp; omega) | omega) _ | refine Below.alloc ?_ (by first | (simp; done) | (simp; omega) | omega) _)) (h1.mono (by first | (simp; done) | (simp; omega) | omega))
      have S1 := h1.size
      have T1 := B1.size
      try simp at S1
      obtain ⟨k1, f1⟩ := bcell h1
      try simp at k1
      try simp at f1
      have Hc1 := Lib.hid h1
      clear h1
      have u1_0 : w.heap.size < w1.heap.size := by omega
      go_wp2_with fail
      refine (l01In_c _ _ _ _).mono ?_
      rintro e w' ⟨rfl, rfl⟩
      go_wp2
      go_ret
      exact ⟨_, rfl, World.ownsRow_nil _ _ _ _, fun _ => rfl, B1⟩
    · obtain ⟨n, rfl⟩ := Int.eq_ofNat_of_zero_le (inR_iff.1 h2).1
      have hn : n ≤ 3 := by have := (inR_iff.1 h2).2; omega
      have he : robotAt S n = turnPoly rob n := by simp only [robotAt, h1, h2, HS.out]; rfl
      rw [he]
      have hp := validScn_robot h1
      rw [HS.out] at hp
      have HP := Lib.hid hp
      have HP2 := Lib.hid (isPoly_vecs hp.1)
      clear hp he
      go_enter Try.func56, Try.ntmps56
      go_wp2_with fail
      refine (sIsValidScene_c S _ _ (HV.out.below ((Below.refl _ _).alloc (Nat.le_refl _) _))).mono ?_
      rintro e w1 ⟨rfl, h1⟩
      have B1 : Below w.heap.size w w1 := Below.trans (by repeat (first | exact Below.refl _ _ | assumption | refine Below.drew ?_ | refine Below.setCell ?_ (by first | (simp; done) | (simp; omega) | omega) _ | refine Below.alloc ?_ (by first | (simp; done) | (simp; omega) | omega) _)) (h1.mono (by first | (simp; done) | (simp; omega) | omega))
      have S1 := h1.size
      have T1 := B1.size
      try simp at S1
      obtain ⟨k1, f1⟩ := bcell h1
      try simp at k1
      try simp at f1
      have Hc1 := Lib.hid h1
      clear h1
      have u1_0 : w.heap.size < w1.heap.size := by omega
      go_wp2_with fail
      refine (l01In_c _ _ _ _).mono ?_
      rintro e w' ⟨rfl, rfl⟩
      go_wp2_with fail
      refine (sTurnPolygon_c rob n hn HP2.out.2.2 (by have := HP.out.2.1; omega) _ _ (HR.out.below B1)).mono ?_
      rintro e w2 ⟨v', rfl, hown, hb2⟩
      have HO := Lib.hid hown; clear hown
      have HB2 := Lib.hid (B1.trans (hb2.mono T1)); clear hb2
      go_wp2
      go_ret
      refine ⟨_, rfl, ?_, fun h => by simp at h, HB2.out⟩
      obtain ⟨g1, g2⟩ := HO.out
      refine ⟨g1, ?_⟩
      rcases g2 with g2 | ⟨g, cap, cur, q1, q2, q3⟩
      · exact .inl g2
      · exact .inr ⟨g, cap, cur, q1, Nat.le_trans T1 q2, q3⟩
end Go.Proofs.Ytemgpfojmdncjaa
