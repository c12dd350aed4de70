/-
  Contracts of copies in new memory, of the program and of the reference: lists of vectors, areas, scenes.
-/
import Derived.Test.YtemgpfojmdncjaaDatS
import Derived.Test.YtemgpfojmdncjaaScene
import Derived.Test.YtemgpfojmdncjaaTurn
import Derived.RegionTactic
import Derived.BigRegion
import Derived.Deep.RegionHeld3
import Derived.Deep.DrawnRows
namespace Go.Proofs.Ytemgpfojmdncjaa
open Go.RowKit
attribute [local go_sem ↓] Go.wp_at_zero Go.wp_at_succ

theorem elemAreas : ElemT Try.prog 37 36 1 24 := ElemT.mk' (.slice none 0 0) Try.underlying37 (by kernel_rfl) rfl (by decide)

set_option maxRecDepth 100000 in
set_option maxHeartbeats 1000000 in
theorem CloneVecs_c (l : List V2) (hlen : l.length ≤ 1048576) (v : Value) (w : World) (hv : VecsAt w v l) :
    Calls Try.prog 94 #[v] w fun e w' => ∃ v', e = .returned v' ∧ Own w' w.heap.size w'.heap.size [.sl 31 [.int, .int]] [.sl (vecsD l)] [v'] ∧ Below w.heap.size w w' := by
  have HV := Lib.hid ((hv.below (w' := w.alloc (.cells #[] 31)) ((Below.refl _ _).alloc (Nat.le_refl _) _)).rd 31)
  have hnil : ∀ c, v = .slice none l.length c → l = [] := fun c hc => by
    obtain ⟨a, cap, h1, _, _, _, h5⟩ := hv
    rw [h1] at hc
    simp at hc
    rcases h5 with ⟨h5, _⟩ | ⟨b, off, h5, _⟩
    · simpa using h5
    · rw [hc.1] at h5; simp at h5
  obtain ⟨a, cap, rfl, hl, hc, _⟩ := hv.open
  clear hv
  have hsn := fun (w : World) (a : Option Addr) (n c n' c' : Nat) => Lib.run_eql_slice_nil (P := Try.prog) w 36 31 a n c n' c' Try.underlying36
  cases a with
  | none =>
    obtain rfl : l = [] := hnil cap rfl
    clear hnil
    go_enter Try.func94, Try.ntmps94
    go_wp2
    go_ret
    exact ⟨_, rfl, Own.nilSl _ _ _ _ _, Below.refl _ _⟩
  | some ad =>
    clear hnil
    have HO := Lib.hid (Own.empty w w.heap.size 31 [.int, .int] (Nat.le_refl _))
    obtain ⟨rows, bss, a1, a2, a3, a4, a5⟩ := leaf_rows (by simp [Ty.leaf]) HV.out
    have HR := Lib.hid (And.intro a1 (And.intro a2 (And.intro a3 (And.intro a4 a5))))
    clear a1 a2 a3 a4 a5
    go_enter Try.func94, Try.ntmps94
    go_wp2_with (at_builtin; refine wp_appMany elemVec rfl _ _ rfl w.heap.size (w.heap.size + 1) (w.heap.size + 1) [.int, .int] [] _ rfl HO.out (vecsD l) _ rfl rfl rows bss HR.out.1 HR.out.2.1 HR.out.2.2.1 HR.out.2.2.2.1 (by rw [HR.out.2.2.2.2]; simp) (by rw [HR.out.2.2.2.2]; simp) (by omega) (by omega) ?c0 ?c1 (by decide) ?_; rotate_left 2; intro v1 w3 hown3 hg3 _)
    case c0 => simp
    case c1 => rw [vecsD_length]; simp; omega
    have HO3 := Lib.hid hown3
    have HB3 := Lib.hid (((Below.refl w.heap.size w).alloc (Nat.le_refl _) (.cells #[] 31)).trans (hg3.below (B := w.heap.size) (fun b hb => by have q : w.heap.size = b := (Option.some.inj hb); omega) (by simp)))
    clear hown3 hg3
    go_wp2
    go_ret
    exact ⟨_, rfl, by simpa using HO3.out, HB3.out⟩
set_option maxRecDepth 100000 in
set_option maxHeartbeats 2000000 in
theorem ownAreas_c (l : List (List V2)) (hlen : l.length ≤ 1048576) (hin : ∀ x ∈ l, x.length ≤ 1048576) (v : Value) (w : World) (hv : VecSSAt w v l) :
    Calls Try.prog 122 #[v] w fun e w' => ∃ v', e = .returned v' ∧ Own w' w.heap.size w'.heap.size [.sl 36 [.sl 31 [.int, .int]]] [.sl (areasD l)] [v'] ∧ Below w.heap.size w w' := by
  obtain ⟨a, cap, rfl, hl, hc, hcell⟩ := hv.open
  have HC := Lib.hid hcell; clear hcell hv
  have HIN := Lib.hid hin; clear hin
  go_enter Try.func122, Try.ntmps122
  go_wp2
  go_loopw [3, 9] (fun o i wr => ∃ j : Nat, j ≤ l.length ∧ i = .int .i64 j ∧ Own wr w.heap.size wr.heap.size [.sl 36 [.sl 31 [.int, .int]]] [.sl (areasD (l.take j))] [o] ∧ Below w.heap.size w wr) (fun _ i _ => l.length - (intOf i).toNat)
  case atStart => exact ⟨0, Nat.zero_le _, rfl, (Own.empty w w.heap.size 36 _ (Nat.le_refl _)).mono (Nat.le_refl _) (by simp), (Below.refl _ _).alloc (Nat.le_refl _) _⟩
  case round =>
    obtain ⟨j, hj, rfl, hown, hb⟩ := hrel
    obtain ⟨oa, oc, rfl⟩ := hown.shape
    by_cases hlt : j < l.length
    · obtain ⟨b, off, u, rfl, hbs, c0, hu⟩ := HC.out j hlt
      have d0 := (hb.cell (p := ⟨b, off + j, none⟩) hbs).trans c0
      have hsn : areasD (l.take (j + 1)) = areasD (l.take j) ++ [[.sl (vecsD (l.getD j []))]] := by
        rw [List.take_succ_eq_append_getElem hlt, areasD_append]; simp [List.getD, hlt, areasD]
      obtain ⟨P, hP⟩ : ∃ P, l.getD j [] = P := ⟨_, rfl⟩
      have hPl : P.length ≤ 1048576 := by
        rw [← hP]
        have := HIN.out l[j] (List.getElem_mem hlt)
        simpa [List.getD, List.getElem?_eq_getElem hlt] using this
      rw [hP] at hu hsn
      have HU := Lib.hid (hu.below hb)
      have HS := Lib.hid hsn
      have HO := Lib.hid hown
      have HB := Lib.hid hb
      have T9 := hb.size
      have hal : (areasD (l.take j)).length ≤ 1048576 := by rw [areasD_length]; simp; omega
      clear hown hP hsn c0 hb hu
      go_wp2_with fail
      refine (CloneVecs_c P hPl _ _ HU.out).mono ?_
      rintro e w1 ⟨q, rfl, hq, hb1⟩
      obtain ⟨qa, qc, rfl⟩ := hq.shape
      have T8 := hb1.size
      have HQ := Lib.hid (And.intro hq hb1)
      clear hq hb1
      have A0 : Below w1.heap.size w1 (w1.alloc (.cells #[.slice qa (vecsD P).length qc] 36)) := (Below.refl _ _).alloc (Nat.le_refl _) _
      have HA0 := Lib.hid A0
      clear A0
      go_wp2_with (at_builtin; refine wp_appOne elemAreas rfl _ _ rfl w.heap.size wr.heap.size w1.heap.size _ _ _ rfl ((HO.out.below HQ.out.2).below HA0.out) w1.heap.size [.sl (vecsD P)] [.slice qa (vecsD P).length qc] rfl rfl ?c1 (HQ.out.1.below HA0.out) (by omega) (by omega) ?c3 ?c4 (by decide) ?_; rotate_left 3; intro v1 w3 hown3 hg3 _)
      case c1 =>
        intro m hm
        obtain rfl : m = 0 := by omega
        go_simp
      case c3 => simp
      case c4 => omega
      have HN := Lib.hid hown3
      have HB3 := Lib.hid (((HB.out.trans (HQ.out.2.mono T9)).trans (HA0.out.mono (by omega))).trans (hg3.below (B := w.heap.size) (fun b hb => (HO.out.blk hb).1) (by simp; omega)))
      clear hown3 hg3
      go_wp2
      go_roundw
      case rel => exact ⟨j + 1, by omega, by go_num, by rw [HS.out]; exact HN.out, HB3.out⟩
      case measure => simp [intOf]; omega
    · have HF := Lib.hid (And.intro hown hb)
      clear hown hb
      go_wp2
      go_ret
      refine ⟨_, rfl, ?_, HF.out.2⟩
      have h := HF.out.1
      have e : areasD (l.take j) = areasD l := by rw [List.take_of_length_le (by omega)]
      rw [e] at h ⊢
      exact h

set_option maxRecDepth 100000 in
set_option maxHeartbeats 4000000 in
theorem ownScene_c (s : Scn) (h1 : s.robot.length ≤ 1048576) (h2 : s.obst.length ≤ 1048576) (h3 : ∀ x ∈ s.obst, x.length ≤ 1048576) (h4 : s.tables.length ≤ 1048576) (v : Value) (w : World) (hv : SceneAt w v s) :
    Calls Try.prog 79 #[v] w fun e w' => ∃ cs : List Value, e = .returned (.agg cs.toArray) ∧ Own w' w.heap.size w'.heap.size [.int, .int, .int, .int, .sl 31 [.int, .int], .sl 36 [.sl 31 [.int, .int]], .sl 31 [.int, .int]] (scnD s) cs ∧ Below w.heap.size w w' := by
  obtain ⟨r, o, t, rfl, hr, ho, ht⟩ := hv
  have HA := Lib.hid (And.intro hr (And.intro ho ht))
  obtain ⟨ra, rcap, rfl, _, _, _⟩ := hr.open
  obtain ⟨oa, ocap, rfl, _, _, _⟩ := ho.open
  obtain ⟨ta, tcap, rfl, _, _, _⟩ := ht.open
  clear hr ho ht
  have H3 := Lib.hid h3; clear h3
  go_enter Try.func79, Try.ntmps79
  go_wp2
  go_region_held3 (fun w' => w'.cell? ⟨w.heap.size, 0, none⟩ = some (.int .i64 s.low.1) ∧ w'.cell? ⟨w.heap.size, 1, none⟩ = some (.int .i64 s.low.2) ∧ w'.cell? ⟨w.heap.size, 2, none⟩ = some (.int .i64 s.high.1) ∧ w'.cell? ⟨w.heap.size, 3, none⟩ = some (.int .i64 s.high.2) ∧ w'.cell? ⟨w.heap.size, 4, none⟩ = some (.slice ra s.robot.length rcap) ∧ w'.cell? ⟨w.heap.size, 5, none⟩ = some (.slice oa s.obst.length ocap) ∧ w'.cell? ⟨w.heap.size, 6, none⟩ = some (.slice ta s.tables.length tcap)) ((refine ⟨?_, ?_, ?_, ?_, ?_, ?_, ?_⟩ <;> go_simp))
    (first
      | (go_at_call 94;
         (with_reducible refine (CloneVecs_c s.robot h1 (.slice ra s.robot.length rcap) _ ?_).mono ?_)
         · exact HA.out.1.below (by (repeat (first | with_reducible exact Below.refl _ _ | with_reducible assumption | with_reducible refine Below.drew ?_ | with_reducible refine Below.setCell ?_ ?_ _ | with_reducible refine Below.alloc ?_ ?_ _)); all_goals first | (simp; done) | (simp; omega) | omega)
         rintro e w1 ⟨q1, rfl, hq1, hb1⟩
         have B1 : Below w.heap.size w w1 := Below.trans (by (repeat (first | with_reducible exact Below.refl _ _ | with_reducible assumption | with_reducible refine Below.drew ?_ | with_reducible refine Below.setCell ?_ ?_ _ | with_reducible refine Below.alloc ?_ ?_ _)); all_goals first | (simp; done) | (simp; omega) | omega) (hb1.mono (by first | (simp; done) | (simp; omega) | omega))
         obtain ⟨k1, f1⟩ := bcell hb1
         (try simp at k1)
         (try simp at f1)
         have u1_1 : w.heap.size + 1 < w1.heap.size := Nat.lt_of_lt_of_le (by simp) hb1.size
         have u1_0 : w.heap.size < w1.heap.size := Nat.lt_of_succ_lt u1_1
         obtain ⟨a1, c1, rfl⟩ := hq1.shape
         have Q1 := Lib.hid (And.intro hq1 hb1)
         clear hq1 hb1)
      | (go_at_call 122;
         (refine (ownAreas_c s.obst h2 H3.out _ _ ?_).mono ?_)
         · exact HA.out.2.1.below (by (repeat (first | with_reducible exact Below.refl _ _ | with_reducible assumption | with_reducible refine Below.drew ?_ | with_reducible refine Below.setCell ?_ ?_ _ | with_reducible refine Below.alloc ?_ ?_ _)); all_goals first | (simp; done) | (simp; omega) | omega)
         rintro e w2 ⟨q2, rfl, hq2, hb2⟩
         have B2 : Below w.heap.size w w2 := Below.trans (by (repeat (first | with_reducible exact Below.refl _ _ | with_reducible assumption | with_reducible refine Below.drew ?_ | with_reducible refine Below.setCell ?_ ?_ _ | with_reducible refine Below.alloc ?_ ?_ _)); all_goals first | (simp; done) | (simp; omega) | omega) (hb2.mono (by first | (simp; done) | (simp; omega) | omega))
         obtain ⟨k2, f2⟩ := bcell hb2
         (try simp at k2)
         (try simp at f2)
         have u2_0 : w.heap.size < w2.heap.size := Nat.lt_of_lt_of_le u1_0 hb2.size
         have u2_1 : w.heap.size + 1 < w2.heap.size := Nat.lt_of_lt_of_le u1_1 hb2.size
         obtain ⟨a2, c2, rfl⟩ := hq2.shape
         have Q2 := Lib.hid (And.intro hq2 hb2)
         clear hq2 hb2)
      | (go_at_call 94;
         (with_reducible refine (CloneVecs_c s.tables h4 (.slice ta s.tables.length tcap) _ ?_).mono ?_)
         · exact HA.out.2.2.below (by (repeat (first | with_reducible exact Below.refl _ _ | with_reducible assumption | with_reducible refine Below.drew ?_ | with_reducible refine Below.setCell ?_ ?_ _ | with_reducible refine Below.alloc ?_ ?_ _)); all_goals first | (simp; done) | (simp; omega) | omega)
         rintro e w3 ⟨q3, rfl, hq3, hb3⟩
         have B3 : Below w.heap.size w w3 := Below.trans (by (repeat (first | with_reducible exact Below.refl _ _ | with_reducible assumption | with_reducible refine Below.drew ?_ | with_reducible refine Below.setCell ?_ ?_ _ | with_reducible refine Below.alloc ?_ ?_ _)); all_goals first | (simp; done) | (simp; omega) | omega) (hb3.mono (by first | (simp; done) | (simp; omega) | omega))
         obtain ⟨k3, f3⟩ := bcell hb3
         (try simp at k3)
         (try simp at f3)
         have u3_0 : w.heap.size < w3.heap.size := Nat.lt_of_lt_of_le u2_0 hb3.size
         have u3_1 : w.heap.size + 1 < w3.heap.size := Nat.lt_of_lt_of_le u2_1 hb3.size
         obtain ⟨a3, c3, rfl⟩ := hq3.shape
         have Q3 := Lib.hid (And.intro hq3 hb3)
         clear hq3 hb3))
  have q1 := Q1.out.1
  have q2 := Q2.out.1
  have q3 := Q3.out.1
  have t1 := Q1.out.2.size
  have t2 := Q2.out.2.size
  have t3 := Q3.out.2.size
  have H := ((((((Own.nil w3 (w.heap.size + 2) (w.heap.size + 2)).append (Own.leaf (hi := w.heap.size + 2) (Fp.mk_int s.low.1)) (by omega) (by omega)).append (Own.leaf (hi := w.heap.size + 2) (Fp.mk_int s.low.2)) (by omega) (by omega)).append (Own.leaf (hi := w.heap.size + 2) (Fp.mk_int s.high.1)) (by omega) (by omega)).append (Own.leaf (hi := w.heap.size + 2) (Fp.mk_int s.high.2)) (by omega) (by omega)).append (((q1.below Q2.out.2).below Q3.out.2).mono (by simp) (Nat.le_refl _)) (by omega) (by omega)).append (q2.below Q3.out.2) (by omega) (by omega) |>.append q3 (by omega) (by omega)
  have HH := Lib.hid H
  clear H q1 q2 q3 t1 t2 t3
  have z1 := Q1.out.2.size
  simp only [World.size_alloc, World.size_drew] at z1
  have qs : ∀ i, i < 7 → (w3.cell? ⟨w.heap.size + 1, 0 + i, none⟩).isSome = true := fun i hi => by
    have : i = 0 ∨ i = 1 ∨ i = 2 ∨ i = 3 ∨ i = 4 ∨ i = 5 ∨ i = 6 := by omega
    rcases this with rfl | rfl | rfl | rfl | rfl | rfl | rfl <;> go_simp
  have q0 : (((((((w3.setCell ⟨w.heap.size + 1, 0, none⟩ (.int .i64 s.low.1)).setCell ⟨w.heap.size + 1, 1, none⟩ (.int .i64 s.low.2)).setCell ⟨w.heap.size + 1, 2, none⟩ (.int .i64 s.high.1)).setCell ⟨w.heap.size + 1, 3, none⟩ (.int .i64 s.high.2)).setCell ⟨w.heap.size + 1, 4, none⟩ (.slice a1 (vecsD s.robot).length c1)).setCell ⟨w.heap.size + 1, 5, none⟩ (.slice a2 (areasD s.obst).length c2)).setCell ⟨w.heap.size + 1, 6, none⟩ (.slice a3 (vecsD s.tables).length c3)).cell? ⟨w.heap.size + 1, 0, none⟩ = some (.int .i64 s.low.1) := (by have q := stN_cell (w.heap.size + 1) [.int .i64 s.low.1, .int .i64 s.low.2, .int .i64 s.high.1, .int .i64 s.high.2, .slice a1 (vecsD s.robot).length c1, .slice a2 (areasD s.obst).length c2, .slice a3 (vecsD s.tables).length c3] w3 0 qs 0 (by simp); rw [Nat.zero_add] at q; exact q); have q1 : (((((((w3.setCell ⟨w.heap.size + 1, 0, none⟩ (.int .i64 s.low.1)).setCell ⟨w.heap.size + 1, 1, none⟩ (.int .i64 s.low.2)).setCell ⟨w.heap.size + 1, 2, none⟩ (.int .i64 s.high.1)).setCell ⟨w.heap.size + 1, 3, none⟩ (.int .i64 s.high.2)).setCell ⟨w.heap.size + 1, 4, none⟩ (.slice a1 (vecsD s.robot).length c1)).setCell ⟨w.heap.size + 1, 5, none⟩ (.slice a2 (areasD s.obst).length c2)).setCell ⟨w.heap.size + 1, 6, none⟩ (.slice a3 (vecsD s.tables).length c3)).cell? ⟨w.heap.size + 1, 1, none⟩ = some (.int .i64 s.low.2) := (by have q := stN_cell (w.heap.size + 1) [.int .i64 s.low.1, .int .i64 s.low.2, .int .i64 s.high.1, .int .i64 s.high.2, .slice a1 (vecsD s.robot).length c1, .slice a2 (areasD s.obst).length c2, .slice a3 (vecsD s.tables).length c3] w3 0 qs 1 (by simp); rw [Nat.zero_add] at q; exact q); have q2 : (((((((w3.setCell ⟨w.heap.size + 1, 0, none⟩ (.int .i64 s.low.1)).setCell ⟨w.heap.size + 1, 1, none⟩ (.int .i64 s.low.2)).setCell ⟨w.heap.size + 1, 2, none⟩ (.int .i64 s.high.1)).setCell ⟨w.heap.size + 1, 3, none⟩ (.int .i64 s.high.2)).setCell ⟨w.heap.size + 1, 4, none⟩ (.slice a1 (vecsD s.robot).length c1)).setCell ⟨w.heap.size + 1, 5, none⟩ (.slice a2 (areasD s.obst).length c2)).setCell ⟨w.heap.size + 1, 6, none⟩ (.slice a3 (vecsD s.tables).length c3)).cell? ⟨w.heap.size + 1, 2, none⟩ = some (.int .i64 s.high.1) := (by have q := stN_cell (w.heap.size + 1) [.int .i64 s.low.1, .int .i64 s.low.2, .int .i64 s.high.1, .int .i64 s.high.2, .slice a1 (vecsD s.robot).length c1, .slice a2 (areasD s.obst).length c2, .slice a3 (vecsD s.tables).length c3] w3 0 qs 2 (by simp); rw [Nat.zero_add] at q; exact q); have q3 : (((((((w3.setCell ⟨w.heap.size + 1, 0, none⟩ (.int .i64 s.low.1)).setCell ⟨w.heap.size + 1, 1, none⟩ (.int .i64 s.low.2)).setCell ⟨w.heap.size + 1, 2, none⟩ (.int .i64 s.high.1)).setCell ⟨w.heap.size + 1, 3, none⟩ (.int .i64 s.high.2)).setCell ⟨w.heap.size + 1, 4, none⟩ (.slice a1 (vecsD s.robot).length c1)).setCell ⟨w.heap.size + 1, 5, none⟩ (.slice a2 (areasD s.obst).length c2)).setCell ⟨w.heap.size + 1, 6, none⟩ (.slice a3 (vecsD s.tables).length c3)).cell? ⟨w.heap.size + 1, 3, none⟩ = some (.int .i64 s.high.2) := (by have q := stN_cell (w.heap.size + 1) [.int .i64 s.low.1, .int .i64 s.low.2, .int .i64 s.high.1, .int .i64 s.high.2, .slice a1 (vecsD s.robot).length c1, .slice a2 (areasD s.obst).length c2, .slice a3 (vecsD s.tables).length c3] w3 0 qs 3 (by simp); rw [Nat.zero_add] at q; exact q); have q4 : (((((((w3.setCell ⟨w.heap.size + 1, 0, none⟩ (.int .i64 s.low.1)).setCell ⟨w.heap.size + 1, 1, none⟩ (.int .i64 s.low.2)).setCell ⟨w.heap.size + 1, 2, none⟩ (.int .i64 s.high.1)).setCell ⟨w.heap.size + 1, 3, none⟩ (.int .i64 s.high.2)).setCell ⟨w.heap.size + 1, 4, none⟩ (.slice a1 (vecsD s.robot).length c1)).setCell ⟨w.heap.size + 1, 5, none⟩ (.slice a2 (areasD s.obst).length c2)).setCell ⟨w.heap.size + 1, 6, none⟩ (.slice a3 (vecsD s.tables).length c3)).cell? ⟨w.heap.size + 1, 4, none⟩ = some (.slice a1 (vecsD s.robot).length c1) := (by have q := stN_cell (w.heap.size + 1) [.int .i64 s.low.1, .int .i64 s.low.2, .int .i64 s.high.1, .int .i64 s.high.2, .slice a1 (vecsD s.robot).length c1, .slice a2 (areasD s.obst).length c2, .slice a3 (vecsD s.tables).length c3] w3 0 qs 4 (by simp); rw [Nat.zero_add] at q; exact q); have q5 : (((((((w3.setCell ⟨w.heap.size + 1, 0, none⟩ (.int .i64 s.low.1)).setCell ⟨w.heap.size + 1, 1, none⟩ (.int .i64 s.low.2)).setCell ⟨w.heap.size + 1, 2, none⟩ (.int .i64 s.high.1)).setCell ⟨w.heap.size + 1, 3, none⟩ (.int .i64 s.high.2)).setCell ⟨w.heap.size + 1, 4, none⟩ (.slice a1 (vecsD s.robot).length c1)).setCell ⟨w.heap.size + 1, 5, none⟩ (.slice a2 (areasD s.obst).length c2)).setCell ⟨w.heap.size + 1, 6, none⟩ (.slice a3 (vecsD s.tables).length c3)).cell? ⟨w.heap.size + 1, 5, none⟩ = some (.slice a2 (areasD s.obst).length c2) := (by have q := stN_cell (w.heap.size + 1) [.int .i64 s.low.1, .int .i64 s.low.2, .int .i64 s.high.1, .int .i64 s.high.2, .slice a1 (vecsD s.robot).length c1, .slice a2 (areasD s.obst).length c2, .slice a3 (vecsD s.tables).length c3] w3 0 qs 5 (by simp); rw [Nat.zero_add] at q; exact q); have q6 : (((((((w3.setCell ⟨w.heap.size + 1, 0, none⟩ (.int .i64 s.low.1)).setCell ⟨w.heap.size + 1, 1, none⟩ (.int .i64 s.low.2)).setCell ⟨w.heap.size + 1, 2, none⟩ (.int .i64 s.high.1)).setCell ⟨w.heap.size + 1, 3, none⟩ (.int .i64 s.high.2)).setCell ⟨w.heap.size + 1, 4, none⟩ (.slice a1 (vecsD s.robot).length c1)).setCell ⟨w.heap.size + 1, 5, none⟩ (.slice a2 (areasD s.obst).length c2)).setCell ⟨w.heap.size + 1, 6, none⟩ (.slice a3 (vecsD s.tables).length c3)).cell? ⟨w.heap.size + 1, 6, none⟩ = some (.slice a3 (vecsD s.tables).length c3) := (by have q := stN_cell (w.heap.size + 1) [.int .i64 s.low.1, .int .i64 s.low.2, .int .i64 s.high.1, .int .i64 s.high.2, .slice a1 (vecsD s.robot).length c1, .slice a2 (areasD s.obst).length c2, .slice a3 (vecsD s.tables).length c3] w3 0 qs 6 (by simp); rw [Nat.zero_add] at q; exact q)
  have HQ := Lib.hid (And.intro q0 (And.intro q1 (And.intro q2 (And.intro q3 (And.intro q4 (And.intro q5 q6))))))
  clear q0 q1 q2 q3 q4 q5 q6 qs
  go_wp2
  obtain ⟨q0, q1, q2, q3, q4, q5, q6⟩ := HQ.out
  refine bodyPost_ret (v := .agg #[.int .i64 s.low.1, .int .i64 s.low.2, .int .i64 s.high.1, .int .i64 s.high.2, .slice a1 (vecsD s.robot).length c1, .slice a2 (areasD s.obst).length c2, .slice a3 (vecsD s.tables).length c3]) (by simp [results, Try.results79, go_sem, q0, q1, q2, q3, q4, q5, q6]) rfl ⟨_, rfl, ?_, ?_⟩
  · refine (HH.out.only (S := fun b => b = w.heap.size + 1) ?_ (fun k hk => .inl (by omega))).mono (by omega) (by simp)
    · repeat (first | with_reducible exact OnlyIn.refl _ _ | with_reducible refine OnlyIn.setCell ?_ ?_ _)
      all_goals rfl
  · exact (by (repeat (first | with_reducible exact Below.refl _ _ | with_reducible assumption | with_reducible refine Below.drew ?_ | with_reducible refine Below.setCell ?_ ?_ _ | with_reducible refine Below.alloc ?_ ?_ _)); all_goals first | (simp; done) | (simp; omega) | omega)
end Go.Proofs.Ytemgpfojmdncjaa
