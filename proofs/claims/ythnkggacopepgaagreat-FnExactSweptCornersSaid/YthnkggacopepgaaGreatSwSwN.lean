import Derived.Test.YthnkggacopepgaaGreatSwRobN
import Derived.Deep.RegionHeld3
namespace Go.Proofs.YthnkggacopepgaaGreat
set_option linter.unusedVariables false
set_option linter.unusedSimpArgs false
open Go.RowKit
set_option maxRecDepth 100000 in
set_option maxHeartbeats 1000000 in
theorem CorNil_c (s : Scn) (h : Int) (v : Value) (w : World) (hv : SceneAt w v s) (hn : (validScn s && inR h 0 3) = false) (b0 b3 : Bool) (a1 a2 a4 a5 : Option Addr) (n1 n2 n4 n5 c1 c2 c4 c5 : Nat) :
    Calls Tryz.prog 36 #[v, .int .i64 h, .agg #[.bool b0, .slice a1 n1 c1, .slice a2 n2 c2, .bool b3, .slice a4 n4 c4, .slice a5 n5 c5]] w fun e w' => e = .returned (.slice none 0 0) ∧ Below w.heap.size w w' := by
  have HV := Lib.hid hv
  obtain ⟨⟨lx, ly⟩, ⟨hx, hy⟩, rob, obs, tabs⟩ := s
  obtain ⟨r, o, t, rfl, hr, ho, ht⟩ := hv
  simp only at hr ho ht
  obtain ⟨ra, rcap, rfl, _, _, _⟩ := hr.open
  obtain ⟨oa, ocap, rfl, _, _, _⟩ := ho.open
  obtain ⟨ta, tcap, rfl, _, _, _⟩ := ht.open
  clear hr ho ht
  obtain ⟨S, hS⟩ : ∃ S : Scn, S = ⟨(lx, ly), (hx, hy), rob, obs, tabs⟩ := ⟨_, rfl⟩
  rw [← hS] at HV hn ⊢
  clear hS
  have HN := Lib.hid hn
  clear hn
  go_enter Tryz.func36, Tryz.ntmps36
  go_wp2_with fail
  refine (RobotNil_c S h _ _ (HV.out.below (((Below.refl _ _).alloc (Nat.le_refl _) _).alloc (by simp) _)) HN.out).mono ?_
  rintro e w1 ⟨rfl, h1⟩
  have B1 : Below w.heap.size w w1 := Below.trans (by (repeat (first | with_reducible exact Below.refl _ _ | with_reducible assumption | with_reducible refine Below.drew ?_ | with_reducible refine Below.setCell ?_ ?_ _ | with_reducible refine Below.alloc ?_ ?_ _)); all_goals first | (simp; done) | (simp; omega) | omega) (h1.mono (by first | (simp; done) | (simp; omega) | omega))
  have S1 := h1.size
  have T1 := B1.size
  try simp at S1
  obtain ⟨k1, f1⟩ := bcell h1
  try simp at k1
  try simp at f1
  have Hc1 := Lib.hid h1
  clear h1
  have u1_0 : w.heap.size < w1.heap.size := by omega
  have u1_1 : w.heap.size + 1 < w1.heap.size := by omega
  have hsn := fun (w : World) (a : Option Addr) (n c n' c' : Nat) => Lib.run_eql_slice_nil (P := Tryz.prog) w 33 61 a n c n' c' Tryz.underlying33
  go_wp2
  go_ret
  refine ⟨?_, B1⟩
  simp
set_option maxRecDepth 100000 in
set_option maxHeartbeats 4000000 in
theorem SweptNil_c (lx ly hx hy : Int) (ra oa ta : Option Addr) (rn rc on oc tn tc : Nat) (h : Int) (b0 b3 d0 d3 : Bool) (a1 a2 a4 a5 e1 e2 e4 e5 : Option Addr) (n1 n2 n4 n5 c1 c2 c4 c5 m1 m2 m4 m5 k1 k2 k4 k5 : Nat) (P1 P2 : Prop) (hP : P1 ∨ P2) (w : World)
    (H1 : ∀ w1, Below w.heap.size w w1 → Calls Tryz.prog 36 #[.agg #[.int .i64 lx, .int .i64 ly, .int .i64 hx, .int .i64 hy, .slice ra rn rc, .slice oa on oc, .slice ta tn tc], .int .i64 h, .agg #[.bool b0, .slice a1 n1 c1, .slice a2 n2 c2, .bool b3, .slice a4 n4 c4, .slice a5 n5 c5]] w1 fun e w' => (∃ a n c, e = .returned (.slice a n c) ∧ (P1 → a = none)) ∧ Below w1.heap.size w1 w')
    (H2 : ∀ w1, Below w.heap.size w w1 → Calls Tryz.prog 36 #[.agg #[.int .i64 lx, .int .i64 ly, .int .i64 hx, .int .i64 hy, .slice ra rn rc, .slice oa on oc, .slice ta tn tc], .int .i64 h, .agg #[.bool d0, .slice e1 m1 k1, .slice e2 m2 k2, .bool d3, .slice e4 m4 k4, .slice e5 m5 k5]] w1 fun e w' => (∃ a n c, e = .returned (.slice a n c) ∧ (P2 → a = none)) ∧ Below w1.heap.size w1 w') :
    Calls Tryz.prog 46 #[.agg #[.int .i64 lx, .int .i64 ly, .int .i64 hx, .int .i64 hy, .slice ra rn rc, .slice oa on oc, .slice ta tn tc], .int .i64 h, .agg #[.bool b0, .slice a1 n1 c1, .slice a2 n2 c2, .bool b3, .slice a4 n4 c4, .slice a5 n5 c5], .agg #[.bool d0, .slice e1 m1 k1, .slice e2 m2 k2, .bool d3, .slice e4 m4 k4, .slice e5 m5 k5]] w fun e w' => e = .returned (.slice none 0 0) ∧ Below w.heap.size w w' := by
  have HH := Lib.hid (And.intro H1 H2)
  clear H1 H2
  go_enter Tryz.func46, Tryz.ntmps46
  go_wp2_with fail
  have hsn := fun (w : World) (a : Option Addr) (n c n' c' : Nat) => Lib.run_eql_slice_nil (P := Tryz.prog) w 59 39 a n c n' c' Tryz.underlying59
  go_region_held3 (fun w' => w'.cell? ⟨w.heap.size, 0, none⟩ = some (.int .i64 lx) ∧ w'.cell? ⟨w.heap.size, 1, none⟩ = some (.int .i64 ly) ∧ w'.cell? ⟨w.heap.size, 2, none⟩ = some (.int .i64 hx) ∧ w'.cell? ⟨w.heap.size, 3, none⟩ = some (.int .i64 hy) ∧ w'.cell? ⟨w.heap.size, 4, none⟩ = some (.slice ra rn rc) ∧ w'.cell? ⟨w.heap.size, 5, none⟩ = some (.slice oa on oc) ∧ w'.cell? ⟨w.heap.size, 6, none⟩ = some (.slice ta tn tc) ∧ w'.cell? ⟨w.heap.size + 1, 0, none⟩ = some (.bool b0) ∧ w'.cell? ⟨w.heap.size + 1, 1, none⟩ = some (.slice a1 n1 c1) ∧ w'.cell? ⟨w.heap.size + 1, 2, none⟩ = some (.slice a2 n2 c2) ∧ w'.cell? ⟨w.heap.size + 1, 3, none⟩ = some (.bool b3) ∧ w'.cell? ⟨w.heap.size + 1, 4, none⟩ = some (.slice a4 n4 c4) ∧ w'.cell? ⟨w.heap.size + 1, 5, none⟩ = some (.slice a5 n5 c5) ∧ w'.cell? ⟨w.heap.size + 1 + 1, 0, none⟩ = some (.bool d0) ∧ w'.cell? ⟨w.heap.size + 1 + 1, 1, none⟩ = some (.slice e1 m1 k1) ∧ w'.cell? ⟨w.heap.size + 1 + 1, 2, none⟩ = some (.slice e2 m2 k2) ∧ w'.cell? ⟨w.heap.size + 1 + 1, 3, none⟩ = some (.bool d3) ∧ w'.cell? ⟨w.heap.size + 1 + 1, 4, none⟩ = some (.slice e4 m4 k4) ∧ w'.cell? ⟨w.heap.size + 1 + 1, 5, none⟩ = some (.slice e5 m5 k5)) ((refine ⟨?_, ?_, ?_, ?_, ?_, ?_, ?_, ?_, ?_, ?_, ?_, ?_, ?_, ?_, ?_, ?_, ?_, ?_, ?_⟩ <;> go_simp))
    (first
      | (go_at_call 36
         (with_reducible refine (HH.out.1 _ ?_).mono ?_)
         · exact (by (repeat (first | with_reducible exact Below.refl _ _ | with_reducible assumption | with_reducible refine Below.drew ?_ | with_reducible refine Below.setCell ?_ ?_ _ | with_reducible refine Below.alloc ?_ ?_ _)); all_goals first | (simp; done) | (simp; omega) | omega)
         rintro e w1 ⟨⟨x1, y1, z1, rfl, hx1⟩, hb1⟩
         have B1 : Below w.heap.size w w1 := Below.trans (by (repeat (first | with_reducible exact Below.refl _ _ | with_reducible assumption | with_reducible refine Below.drew ?_ | with_reducible refine Below.setCell ?_ ?_ _ | with_reducible refine Below.alloc ?_ ?_ _)); all_goals first | (simp; done) | (simp; omega) | omega) (hb1.mono (by first | (simp; done) | (simp; omega) | omega))
         obtain ⟨K1, F1⟩ := bcell hb1
         (try simp at K1)
         (try simp at F1)
         have Z1 := hb1.size
         (try simp at Z1)
         have U1_0 : w.heap.size < w1.heap.size := by omega
         have U1_1 : w.heap.size + 1 < w1.heap.size := by omega
         have U1_2 : w.heap.size + 1 + 1 < w1.heap.size := by omega
         have X1 := Lib.hid hx1
         clear hx1 hb1)
      | (go_at_call 36
         (with_reducible refine (HH.out.2 _ ?_).mono ?_)
         · exact (by (repeat (first | with_reducible exact Below.refl _ _ | with_reducible assumption | with_reducible refine Below.drew ?_ | with_reducible refine Below.setCell ?_ ?_ _ | with_reducible refine Below.alloc ?_ ?_ _)); all_goals first | (simp; done) | (simp; omega) | omega)
         rintro e w2 ⟨⟨x2, y2, z2, rfl, hx2⟩, hb2⟩
         have B2 : Below w.heap.size w w2 := Below.trans (by (repeat (first | with_reducible exact Below.refl _ _ | with_reducible assumption | with_reducible refine Below.drew ?_ | with_reducible refine Below.setCell ?_ ?_ _ | with_reducible refine Below.alloc ?_ ?_ _)); all_goals first | (simp; done) | (simp; omega) | omega) (hb2.mono (by first | (simp; done) | (simp; omega) | omega))
         obtain ⟨K2, F2⟩ := bcell hb2
         (try simp at K2)
         (try simp at F2)
         have Z2 := hb2.size
         (try simp at Z2)
         have U2_0 : w.heap.size < w2.heap.size := by omega
         have U2_1 : w.heap.size + 1 < w2.heap.size := by omega
         have U2_2 : w.heap.size + 1 + 1 < w2.heap.size := by omega
         have X2 := Lib.hid hx2
         clear hx2 hb2))
  cases x1 with
  | none =>
    go_wp2
    go_ret
    refine ⟨?_, B2⟩
    simp
  | some ad =>
    have h2 : x2 = none := by
      rcases hP with q | q
      · exact absurd (X1.out q) (by simp)
      · exact X2.out q
    subst h2
    go_wp2
    go_ret
    refine ⟨?_, B2⟩
    simp
end Go.Proofs.YthnkggacopepgaaGreat
