import Derived.Test.YtlejeadlmpkffaaGreatMaRobN
namespace Go.Proofs.YtlejeadlmpkffaaGreat
set_option linter.unusedVariables false
set_option linter.unusedSimpArgs false
open Go.RowKit
set_option maxRecDepth 100000 in
set_option maxHeartbeats 1000000 in
theorem LimitsNil_c (s : Scn) (h : Int) (v : Value) (w : World) (hv : SceneAt w v s) (hn : (validScn s && inR h 0 3) = false) :
    Calls Tryz.prog 41 #[v, .int .i64 h] w fun e w' => e = .returned (.tuple #[.agg #[.int .i64 0, .int .i64 0, .int .i64 0, .int .i64 0], .bool false]) ∧ Below w.heap.size w w' := by
  have HV := Lib.hid hv
  obtain ⟨⟨lx, ly⟩, ⟨hx, hy⟩, rob, obs, tabs⟩ := s
  obtain ⟨r, o, t, rfl, hr, ho, ht⟩ := hv
  simp only at hr ho ht
  obtain ⟨ra, rcap, rfl, _, _, _⟩ := hr.open
  obtain ⟨oa, ocap, rfl, _, _, _⟩ := ho.open
  obtain ⟨ta, tcap, rfl, _, _, _⟩ := ht.open
  clear hr ho ht
  obtain ⟨S, hS⟩ : ∃ S : Scn, S = ⟨(lx, ly), (hx, hy), rob, obs, tabs⟩ := ⟨_, rfl⟩
  rw [← hS] at HV hn ⊢
  clear hS
  have hsn := fun (w : World) (a : Option Addr) (n c n' c' : Nat) => Lib.run_eql_slice_nil (P := Tryz.prog) w 39 38 a n c n' c' Tryz.underlying39
  have HN := Lib.hid hn
  clear hn
  go_enter Tryz.func41, Tryz.ntmps41
  go_wp2_with fail
  refine (RobotNil_c S h _ _ (HV.out.below (((Below.refl _ _).alloc (Nat.le_refl _) _).alloc (by simp) _)) HN.out).mono ?_
  rintro e w1 ⟨rfl, h1⟩
  have B1 : Below w.heap.size w w1 := Below.trans (by (repeat (first | with_reducible exact Below.refl _ _ | with_reducible assumption | with_reducible refine Below.drew ?_ | with_reducible refine Below.setCell ?_ ?_ _ | with_reducible refine Below.alloc ?_ ?_ _)); all_goals first | (simp; done) | (simp; omega) | omega) (h1.mono (by first | (simp; done) | (simp; omega) | omega))
  have S1 := h1.size
  have T1 := B1.size
  try simp at S1
  obtain ⟨k1, f1⟩ := bcell h1
  try simp at k1
  try simp at f1
  have Hc1 := Lib.hid h1
  clear h1
  have u1_0 : w.heap.size < w1.heap.size := by omega
  have u1_1 : w.heap.size + 1 < w1.heap.size := by omega
  have hr0 : w1.cell? ⟨w.heap.size + 1, 0, none⟩ = some (.int .i64 0) := by go_simp
  have hr1 : w1.cell? ⟨w.heap.size + 1, 1, none⟩ = some (.int .i64 0) := by go_simp
  have hr2 : w1.cell? ⟨w.heap.size + 1, 2, none⟩ = some (.int .i64 0) := by go_simp
  have hr3 : w1.cell? ⟨w.heap.size + 1, 3, none⟩ = some (.int .i64 0) := by go_simp
  have hf0 : w1.frozen? ⟨w.heap.size + 1, 0, none⟩ = false := by go_simp
  have hf1 : w1.frozen? ⟨w.heap.size + 1, 1, none⟩ = false := by go_simp
  have hf2 : w1.frozen? ⟨w.heap.size + 1, 2, none⟩ = false := by go_simp
  have hf3 : w1.frozen? ⟨w.heap.size + 1, 3, none⟩ = false := by go_simp
  clear k1 f1
  have k0 : ((((w1.setCell ⟨w.heap.size + 1, 0, none⟩ (.int .i64 0)).setCell ⟨w.heap.size + 1, 1, none⟩ (.int .i64 0)).setCell ⟨w.heap.size + 1, 2, none⟩ (.int .i64 0)).setCell ⟨w.heap.size + 1, 3, none⟩ (.int .i64 0)).cell? ⟨w.heap.size + 1, 0, none⟩ = some (.int .i64 0) := by go_simp
  have k1 : ((((w1.setCell ⟨w.heap.size + 1, 0, none⟩ (.int .i64 0)).setCell ⟨w.heap.size + 1, 1, none⟩ (.int .i64 0)).setCell ⟨w.heap.size + 1, 2, none⟩ (.int .i64 0)).setCell ⟨w.heap.size + 1, 3, none⟩ (.int .i64 0)).cell? ⟨w.heap.size + 1, 1, none⟩ = some (.int .i64 0) := by go_simp
  have k2 : ((((w1.setCell ⟨w.heap.size + 1, 0, none⟩ (.int .i64 0)).setCell ⟨w.heap.size + 1, 1, none⟩ (.int .i64 0)).setCell ⟨w.heap.size + 1, 2, none⟩ (.int .i64 0)).setCell ⟨w.heap.size + 1, 3, none⟩ (.int .i64 0)).cell? ⟨w.heap.size + 1, 2, none⟩ = some (.int .i64 0) := by go_simp
  have k3 : ((((w1.setCell ⟨w.heap.size + 1, 0, none⟩ (.int .i64 0)).setCell ⟨w.heap.size + 1, 1, none⟩ (.int .i64 0)).setCell ⟨w.heap.size + 1, 2, none⟩ (.int .i64 0)).setCell ⟨w.heap.size + 1, 3, none⟩ (.int .i64 0)).cell? ⟨w.heap.size + 1, 3, none⟩ = some (.int .i64 0) := by go_simp
  have KK := Lib.hid (And.intro k0 (And.intro k1 (And.intro k2 k3)))
  clear k0 k1 k2 k3
  go_wp2
  obtain ⟨k0, k1, k2, k3⟩ := KK.out
  exact bodyPost_ret (v := .tuple #[.agg #[.int .i64 0, .int .i64 0, .int .i64 0, .int .i64 0], .bool false]) (by simp [results, Tryz.results41, go_sem, k0, k1, k2, k3]) rfl ⟨rfl, (((B1.setCell (by simp) _).setCell (by simp) _).setCell (by simp) _).setCell (by simp) _⟩
end Go.Proofs.YtlejeadlmpkffaaGreat
