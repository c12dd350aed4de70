import Derived.Test.YtmekciknfocmmaaGreatDoorScBas
import Derived.Test.YtmekciknfocmmaaGreatDoorScScA
import Derived.RegionTactic
import Derived.BigRegion
import Derived.Deep.RegionHeld3
import Derived.Deep.DrawnRows
import Derived.Deep.RegionLaw
import Derived.Lib.SliceRun
namespace Go.Proofs.YtmekciknfocmmaaGreatDoor
set_option maxRecDepth 100000
open Go.RowKit
attribute [local go_sem ↓] Go.wp_at_zero Go.wp_at_succ
theorem Cd:ElemT Tryz.prog 26 25 1 24:=ElemT.mk' (.slice none 0 0) Tryz.underlying26 (by kernel_rfl) rfl (by decide)
set_option maxHeartbeats 1000000 in
theorem EP (l : List V2) (hlen : l.length ≤ 1048576) (v : Value) (w : World) (hv : VecsAt w v l) :
    Calls Tryz.prog 43 #[v] w fun e w' => ∃ v', e = .returned v' ∧ Own w' w.heap.size w'.heap.size [.sl 24 [.int, .int]] [.sl (AA l)] [v'] ∧ Below w.heap.size w w' := by
  have HV := Lib.hid ((hv.below (w' := w.alloc (.cells #[] 24)) ((Below.refl _ _).alloc (Nat.le_refl _) _)).rd 24)
  have hnil : ∀ c, v = .slice none l.length c → l = [] := fun c hc => by
    obtain ⟨a, cap, h1, _, _, _, h5⟩ := hv
    rw [h1] at hc
    simp at hc
    rcases h5 with ⟨h5, _⟩ | ⟨b, off, h5, _⟩
    · simpa using h5
    · rw [hc.1] at h5; simp at h5
  obtain ⟨a, cap, rfl, hl, hc, _⟩ := hv.open
  clear hv
  have hsn := fun (w : World) (a : Option Addr) (n c n' c' : Nat) => Lib.run_eql_slice_nil (P := Tryz.prog) w 25 24 a n c n' c' Tryz.underlying25
  cases a with
  | none =>
    obtain rfl : l = [] := hnil cap rfl
    clear hnil
    go_enter Tryz.func43, Tryz.ntmps43
    go_wp2
    go_ret
    exact ⟨_, rfl, Own.nilSl _ _ _ _ _, Below.refl _ _⟩
  | some ad =>
    clear hnil
    have HO := Lib.hid (Own.empty w w.heap.size 24 [.int, .int] (Nat.le_refl _))
    obtain ⟨rows, bss, a1, a2, a3, a4, a5⟩ := Je (by simp [Ty.leaf]) HV.out
    have HR := Lib.hid (And.intro a1 (And.intro a2 (And.intro a3 (And.intro a4 a5))))
    clear a1 a2 a3 a4 a5
    go_enter Tryz.func43, Tryz.ntmps43
    go_wp2_with (at_builtin; refine Mq R4 rfl _ _ rfl w.heap.size (w.heap.size + 1) (w.heap.size + 1) [.int, .int] [] _ rfl HO.out (AA l) _ rfl rfl rows bss HR.out.1 HR.out.2.1 HR.out.2.2.1 HR.out.2.2.2.1 (by rw [HR.out.2.2.2.2]; simp) (by rw [HR.out.2.2.2.2]; simp) (by omega) (by omega) ?c0 ?c1 (by decide) ?_; rotate_left 2; intro v1 w3 hown3 hg3 _)
    case c0 => simp
    case c1 => rw [AC]; simp; omega
    have HO3 := Lib.hid hown3
    have HB3 := Lib.hid (((Below.refl w.heap.size w).alloc (Nat.le_refl _) (.cells #[] 24)).trans (hg3.below (B := w.heap.size) (fun b hb => by have q : w.heap.size = b := (Option.some.inj hb); omega) (by simp)))
    clear hown3 hg3
    go_wp2
    go_ret
    exact ⟨_, rfl, by simpa using HO3.out, HB3.out⟩
set_option maxHeartbeats 2000000 in
theorem It (l : List (List V2)) (hlen : l.length ≤ 1048576) (hin : ∀ x ∈ l, x.length ≤ 1048576) (v : Value) (w : World) (hv : VecSSAt w v l) :
    Calls Tryz.prog 44 #[v] w fun e w' => ∃ v', e = .returned v' ∧ Own w' w.heap.size w'.heap.size [.sl 25 [.sl 24 [.int, .int]]] [.sl (AB l)] [v'] ∧ Below w.heap.size w w' := by
  obtain ⟨a, cap, rfl, hl, hc, hcell⟩ := hv.open
  have HC := Lib.hid hcell; clear hcell hv
  have HIN := Lib.hid hin; clear hin
  go_enter Tryz.func44, Tryz.ntmps44
  go_wp2
  go_loopw [3, 9] (fun o i wr => ∃ j : Nat, j ≤ l.length ∧ i = .int .i64 j ∧ Own wr w.heap.size wr.heap.size [.sl 25 [.sl 24 [.int, .int]]] [.sl (AB (l.take j))] [o] ∧ Below w.heap.size w wr) (fun _ i _ => l.length - (intOf i).toNat)
  case atStart => exact ⟨0, Nat.zero_le _, rfl, (Own.empty w w.heap.size 25 _ (Nat.le_refl _)).mono (Nat.le_refl _) (by simp), (Below.refl _ _).alloc (Nat.le_refl _) _⟩
  case round =>
    obtain ⟨j, hj, rfl, hown, hb⟩ := hrel
    obtain ⟨oa, oc, rfl⟩ := hown.shape
    by_cases hlt : j < l.length
    · obtain ⟨b, off, u, rfl, hbs, c0, hu⟩ := HC.out j hlt
      have d0 := (hb.cell (p := ⟨b, off + j, none⟩) hbs).trans c0
      have hsn : AB (l.take (j + 1)) = AB (l.take j) ++ [[.sl (AA (l.getD j []))]] := by
        rw [List.take_succ_eq_append_getElem hlt, JO]; simp [List.getD, hlt, AB]
      obtain ⟨P, hP⟩ : ∃ P, l.getD j [] = P := ⟨_, rfl⟩
      have hPl : P.length ≤ 1048576 := by
        rw [← hP]
        have := HIN.out l[j] (List.getElem_mem hlt)
        simpa [List.getD, List.getElem?_eq_getElem hlt] using this
      rw [hP] at hu hsn
      have HU := Lib.hid (hu.below hb)
      have HS := Lib.hid hsn
      have HO := Lib.hid hown
      have HB := Lib.hid hb
      have T9 := hb.size
      have hal : (AB (l.take j)).length ≤ 1048576 := by rw [AW]; simp; omega
      clear hown hP hsn c0 hb hu
      go_wp2_with fail
      refine (EP P hPl _ _ HU.out).mono ?_
      rintro e w1 ⟨q, rfl, hq, hb1⟩
      obtain ⟨qa, qc, rfl⟩ := hq.shape
      have T8 := hb1.size
      have HQ := Lib.hid (And.intro hq hb1)
      clear hq hb1
      have A0 : Below w1.heap.size w1 (w1.alloc (.cells #[.slice qa (AA P).length qc] 25)) := (Below.refl _ _).alloc (Nat.le_refl _) _
      have HA0 := Lib.hid A0
      clear A0
      go_wp2_with (at_builtin; refine Oo Cd rfl _ _ rfl w.heap.size wr.heap.size w1.heap.size _ _ _ rfl ((HO.out.below HQ.out.2).below HA0.out) w1.heap.size [.sl (AA P)] [.slice qa (AA P).length qc] rfl rfl ?c1 (HQ.out.1.below HA0.out) (by omega) (by omega) ?c3 ?c4 (by decide) ?_; rotate_left 3; intro v1 w3 hown3 hg3 _)
      case c1 =>
        intro m hm
        obtain rfl : m = 0 := by omega
        go_simp
      case c3 => simp
      case c4 => omega
      have HN := Lib.hid hown3
      have HB3 := Lib.hid (((HB.out.trans (HQ.out.2.mono T9)).trans (HA0.out.mono (by omega))).trans (hg3.below (B := w.heap.size) (fun b hb => (HO.out.blk hb).1) (by simp; omega)))
      clear hown3 hg3
      go_wp2
      go_roundw
      case rel => exact ⟨j + 1, by omega, by go_num, by rw [HS.out]; exact HN.out, HB3.out⟩
      case measure => simp [intOf]; omega
    · have HF := Lib.hid (And.intro hown hb)
      clear hown hb
      go_wp2
      go_ret
      refine ⟨_, rfl, ?_, HF.out.2⟩
      have h := HF.out.1
      have e : AB (l.take j) = AB l := by rw [List.take_of_length_le (by omega)]
      rw [e] at h ⊢
      exact h
set_option maxHeartbeats 4000000 in
theorem FN (s : Scn) (h1 : s.robot.length ≤ 1048576) (h2 : s.obst.length ≤ 1048576) (h3 : ∀ x ∈ s.obst, x.length ≤ 1048576) (h4 : s.tables.length ≤ 1048576) (v : Value) (w : World) (hv : SceneAt w v s) :
    Calls Tryz.prog 18 #[v] w fun e w' => ∃ cs : List Value, e = .returned (.agg cs.toArray) ∧ Own w' w.heap.size w'.heap.size [.int, .int, .int, .int, .sl 24 [.int, .int], .sl 25 [.sl 24 [.int, .int]], .sl 24 [.int, .int]] (HZ s) cs ∧ Below w.heap.size w w' := by
  obtain ⟨r, o, t, rfl, hr, ho, ht⟩ := hv
  have HA := Lib.hid (And.intro hr (And.intro ho ht))
  obtain ⟨ra, rcap, rfl, _, _, _⟩ := hr.open
  obtain ⟨oa, ocap, rfl, _, _, _⟩ := ho.open
  obtain ⟨ta, tcap, rfl, _, _, _⟩ := ht.open
  clear hr ho ht
  have H3 := Lib.hid h3; clear h3
  go_enter Tryz.func18, Tryz.ntmps18
  go_wp2
  go_region_held3 (fun w' => w'.cell? ⟨w.heap.size, 0, none⟩ = some (.int .i64 s.low.1) ∧ w'.cell? ⟨w.heap.size, 1, none⟩ = some (.int .i64 s.low.2) ∧ w'.cell? ⟨w.heap.size, 2, none⟩ = some (.int .i64 s.high.1) ∧ w'.cell? ⟨w.heap.size, 3, none⟩ = some (.int .i64 s.high.2) ∧ w'.cell? ⟨w.heap.size, 4, none⟩ = some (.slice ra s.robot.length rcap) ∧ w'.cell? ⟨w.heap.size, 5, none⟩ = some (.slice oa s.obst.length ocap) ∧ w'.cell? ⟨w.heap.size, 6, none⟩ = some (.slice ta s.tables.length tcap)) ((refine ⟨?_, ?_, ?_, ?_, ?_, ?_, ?_⟩ <;> go_simp))
    (first
      | (go_at_call 43;
         (with_reducible refine (EP s.robot h1 (.slice ra s.robot.length rcap) _ ?_).mono ?_)
         · exact HA.out.1.below (by (repeat (first | with_reducible exact Below.refl _ _ | with_reducible assumption | with_reducible refine Below.drew ?_ | with_reducible refine Below.setCell ?_ ?_ _ | with_reducible refine Below.alloc ?_ ?_ _)); all_goals first | (simp; done) | (simp; omega) | omega)
         rintro e w1 ⟨q1, rfl, hq1, hb1⟩
         have B1 : Below w.heap.size w w1 := Below.trans (by (repeat (first | with_reducible exact Below.refl _ _ | with_reducible assumption | with_reducible refine Below.drew ?_ | with_reducible refine Below.setCell ?_ ?_ _ | with_reducible refine Below.alloc ?_ ?_ _)); all_goals first | (simp; done) | (simp; omega) | omega) (hb1.mono (by first | (simp; done) | (simp; omega) | omega))
         obtain ⟨k1, f1⟩ := A6 hb1
         (try simp at k1)
         (try simp at f1)
         have u1_1 : w.heap.size + 1 < w1.heap.size := Nat.lt_of_lt_of_le (by simp) hb1.size
         have u1_0 : w.heap.size < w1.heap.size := Nat.lt_of_succ_lt u1_1
         obtain ⟨a1, c1, rfl⟩ := hq1.shape
         have Q1 := Lib.hid (And.intro hq1 hb1)
         clear hq1 hb1)
      | (go_at_call 44;
         (refine (It s.obst h2 H3.out _ _ ?_).mono ?_)
         · exact HA.out.2.1.below (by (repeat (first | with_reducible exact Below.refl _ _ | with_reducible assumption | with_reducible refine Below.drew ?_ | with_reducible refine Below.setCell ?_ ?_ _ | with_reducible refine Below.alloc ?_ ?_ _)); all_goals first | (simp; done) | (simp; omega) | omega)
         rintro e w2 ⟨q2, rfl, hq2, hb2⟩
         have B2 : Below w.heap.size w w2 := Below.trans (by (repeat (first | with_reducible exact Below.refl _ _ | with_reducible assumption | with_reducible refine Below.drew ?_ | with_reducible refine Below.setCell ?_ ?_ _ | with_reducible refine Below.alloc ?_ ?_ _)); all_goals first | (simp; done) | (simp; omega) | omega) (hb2.mono (by first | (simp; done) | (simp; omega) | omega))
         obtain ⟨k2, f2⟩ := A6 hb2
         (try simp at k2)
         (try simp at f2)
         have u2_0 : w.heap.size < w2.heap.size := Nat.lt_of_lt_of_le u1_0 hb2.size
         have u2_1 : w.heap.size + 1 < w2.heap.size := Nat.lt_of_lt_of_le u1_1 hb2.size
         obtain ⟨a2, c2, rfl⟩ := hq2.shape
         have Q2 := Lib.hid (And.intro hq2 hb2)
         clear hq2 hb2)
      | (go_at_call 43;
         (with_reducible refine (EP s.tables h4 (.slice ta s.tables.length tcap) _ ?_).mono ?_)
         · exact HA.out.2.2.below (by (repeat (first | with_reducible exact Below.refl _ _ | with_reducible assumption | with_reducible refine Below.drew ?_ | with_reducible refine Below.setCell ?_ ?_ _ | with_reducible refine Below.alloc ?_ ?_ _)); all_goals first | (simp; done) | (simp; omega) | omega)
         rintro e w3 ⟨q3, rfl, hq3, hb3⟩
         have B3 : Below w.heap.size w w3 := Below.trans (by (repeat (first | with_reducible exact Below.refl _ _ | with_reducible assumption | with_reducible refine Below.drew ?_ | with_reducible refine Below.setCell ?_ ?_ _ | with_reducible refine Below.alloc ?_ ?_ _)); all_goals first | (simp; done) | (simp; omega) | omega) (hb3.mono (by first | (simp; done) | (simp; omega) | omega))
         obtain ⟨k3, f3⟩ := A6 hb3
         (try simp at k3)
         (try simp at f3)
         have u3_0 : w.heap.size < w3.heap.size := Nat.lt_of_lt_of_le u2_0 hb3.size
         have u3_1 : w.heap.size + 1 < w3.heap.size := Nat.lt_of_lt_of_le u2_1 hb3.size
         obtain ⟨a3, c3, rfl⟩ := hq3.shape
         have Q3 := Lib.hid (And.intro hq3 hb3)
         clear hq3 hb3))
  have q1 := Q1.out.1
  have q2 := Q2.out.1
  have q3 := Q3.out.1
  have t1 := Q1.out.2.size
  have t2 := Q2.out.2.size
  have t3 := Q3.out.2.size
  have H := ((((((Own.nil w3 (w.heap.size + 2) (w.heap.size + 2)).append (Own.leaf (hi := w.heap.size + 2) (Fp.mk_int s.low.1)) (by omega) (by omega)).append (Own.leaf (hi := w.heap.size + 2) (Fp.mk_int s.low.2)) (by omega) (by omega)).append (Own.leaf (hi := w.heap.size + 2) (Fp.mk_int s.high.1)) (by omega) (by omega)).append (Own.leaf (hi := w.heap.size + 2) (Fp.mk_int s.high.2)) (by omega) (by omega)).append (((q1.below Q2.out.2).below Q3.out.2).mono (by simp) (Nat.le_refl _)) (by omega) (by omega)).append (q2.below Q3.out.2) (by omega) (by omega) |>.append q3 (by omega) (by omega)
  have HH := Lib.hid H
  clear H q1 q2 q3 t1 t2 t3
  have z1 := Q1.out.2.size
  simp only [World.size_alloc, World.size_drew] at z1
  have qs : ∀ i, i < 7 → (w3.cell? ⟨w.heap.size + 1, 0 + i, none⟩).isSome = true := fun i hi => by
    have : i = 0 ∨ i = 1 ∨ i = 2 ∨ i = 3 ∨ i = 4 ∨ i = 5 ∨ i = 6 := by omega
    rcases this with rfl | rfl | rfl | rfl | rfl | rfl | rfl <;> go_simp
  have q0 : (((((((w3.setCell ⟨w.heap.size + 1, 0, none⟩ (.int .i64 s.low.1)).setCell ⟨w.heap.size + 1, 1, none⟩ (.int .i64 s.low.2)).setCell ⟨w.heap.size + 1, 2, none⟩ (.int .i64 s.high.1)).setCell ⟨w.heap.size + 1, 3, none⟩ (.int .i64 s.high.2)).setCell ⟨w.heap.size + 1, 4, none⟩ (.slice a1 (AA s.robot).length c1)).setCell ⟨w.heap.size + 1, 5, none⟩ (.slice a2 (AB s.obst).length c2)).setCell ⟨w.heap.size + 1, 6, none⟩ (.slice a3 (AA s.tables).length c3)).cell? ⟨w.heap.size + 1, 0, none⟩ = some (.int .i64 s.low.1) := (by have q := AN (w.heap.size + 1) [.int .i64 s.low.1, .int .i64 s.low.2, .int .i64 s.high.1, .int .i64 s.high.2, .slice a1 (AA s.robot).length c1, .slice a2 (AB s.obst).length c2, .slice a3 (AA s.tables).length c3] w3 0 qs 0 (by simp); rw [Nat.zero_add] at q; exact q); have q1 : (((((((w3.setCell ⟨w.heap.size + 1, 0, none⟩ (.int .i64 s.low.1)).setCell ⟨w.heap.size + 1, 1, none⟩ (.int .i64 s.low.2)).setCell ⟨w.heap.size + 1, 2, none⟩ (.int .i64 s.high.1)).setCell ⟨w.heap.size + 1, 3, none⟩ (.int .i64 s.high.2)).setCell ⟨w.heap.size + 1, 4, none⟩ (.slice a1 (AA s.robot).length c1)).setCell ⟨w.heap.size + 1, 5, none⟩ (.slice a2 (AB s.obst).length c2)).setCell ⟨w.heap.size + 1, 6, none⟩ (.slice a3 (AA s.tables).length c3)).cell? ⟨w.heap.size + 1, 1, none⟩ = some (.int .i64 s.low.2) := (by have q := AN (w.heap.size + 1) [.int .i64 s.low.1, .int .i64 s.low.2, .int .i64 s.high.1, .int .i64 s.high.2, .slice a1 (AA s.robot).length c1, .slice a2 (AB s.obst).length c2, .slice a3 (AA s.tables).length c3] w3 0 qs 1 (by simp); rw [Nat.zero_add] at q; exact q); have q2 : (((((((w3.setCell ⟨w.heap.size + 1, 0, none⟩ (.int .i64 s.low.1)).setCell ⟨w.heap.size + 1, 1, none⟩ (.int .i64 s.low.2)).setCell ⟨w.heap.size + 1, 2, none⟩ (.int .i64 s.high.1)).setCell ⟨w.heap.size + 1, 3, none⟩ (.int .i64 s.high.2)).setCell ⟨w.heap.size + 1, 4, none⟩ (.slice a1 (AA s.robot).length c1)).setCell ⟨w.heap.size + 1, 5, none⟩ (.slice a2 (AB s.obst).length c2)).setCell ⟨w.heap.size + 1, 6, none⟩ (.slice a3 (AA s.tables).length c3)).cell? ⟨w.heap.size + 1, 2, none⟩ = some (.int .i64 s.high.1) := (by have q := AN (w.heap.size + 1) [.int .i64 s.low.1, .int .i64 s.low.2, .int .i64 s.high.1, .int .i64 s.high.2, .slice a1 (AA s.robot).length c1, .slice a2 (AB s.obst).length c2, .slice a3 (AA s.tables).length c3] w3 0 qs 2 (by simp); rw [Nat.zero_add] at q; exact q); have q3 : (((((((w3.setCell ⟨w.heap.size + 1, 0, none⟩ (.int .i64 s.low.1)).setCell ⟨w.heap.size + 1, 1, none⟩ (.int .i64 s.low.2)).setCell ⟨w.heap.size + 1, 2, none⟩ (.int .i64 s.high.1)).setCell ⟨w.heap.size + 1, 3, none⟩ (.int .i64 s.high.2)).setCell ⟨w.heap.size + 1, 4, none⟩ (.slice a1 (AA s.robot).length c1)).setCell ⟨w.heap.size + 1, 5, none⟩ (.slice a2 (AB s.obst).length c2)).setCell ⟨w.heap.size + 1, 6, none⟩ (.slice a3 (AA s.tables).length c3)).cell? ⟨w.heap.size + 1, 3, none⟩ = some (.int .i64 s.high.2) := (by have q := AN (w.heap.size + 1) [.int .i64 s.low.1, .int .i64 s.low.2, .int .i64 s.high.1, .int .i64 s.high.2, .slice a1 (AA s.robot).length c1, .slice a2 (AB s.obst).length c2, .slice a3 (AA s.tables).length c3] w3 0 qs 3 (by simp); rw [Nat.zero_add] at q; exact q); have q4 : (((((((w3.setCell ⟨w.heap.size + 1, 0, none⟩ (.int .i64 s.low.1)).setCell ⟨w.heap.size + 1, 1, none⟩ (.int .i64 s.low.2)).setCell ⟨w.heap.size + 1, 2, none⟩ (.int .i64 s.high.1)).setCell ⟨w.heap.size + 1, 3, none⟩ (.int .i64 s.high.2)).setCell ⟨w.heap.size + 1, 4, none⟩ (.slice a1 (AA s.robot).length c1)).setCell ⟨w.heap.size + 1, 5, none⟩ (.slice a2 (AB s.obst).length c2)).setCell ⟨w.heap.size + 1, 6, none⟩ (.slice a3 (AA s.tables).length c3)).cell? ⟨w.heap.size + 1, 4, none⟩ = some (.slice a1 (AA s.robot).length c1) := (by have q := AN (w.heap.size + 1) [.int .i64 s.low.1, .int .i64 s.low.2, .int .i64 s.high.1, .int .i64 s.high.2, .slice a1 (AA s.robot).length c1, .slice a2 (AB s.obst).length c2, .slice a3 (AA s.tables).length c3] w3 0 qs 4 (by simp); rw [Nat.zero_add] at q; exact q); have q5 : (((((((w3.setCell ⟨w.heap.size + 1, 0, none⟩ (.int .i64 s.low.1)).setCell ⟨w.heap.size + 1, 1, none⟩ (.int .i64 s.low.2)).setCell ⟨w.heap.size + 1, 2, none⟩ (.int .i64 s.high.1)).setCell ⟨w.heap.size + 1, 3, none⟩ (.int .i64 s.high.2)).setCell ⟨w.heap.size + 1, 4, none⟩ (.slice a1 (AA s.robot).length c1)).setCell ⟨w.heap.size + 1, 5, none⟩ (.slice a2 (AB s.obst).length c2)).setCell ⟨w.heap.size + 1, 6, none⟩ (.slice a3 (AA s.tables).length c3)).cell? ⟨w.heap.size + 1, 5, none⟩ = some (.slice a2 (AB s.obst).length c2) := (by have q := AN (w.heap.size + 1) [.int .i64 s.low.1, .int .i64 s.low.2, .int .i64 s.high.1, .int .i64 s.high.2, .slice a1 (AA s.robot).length c1, .slice a2 (AB s.obst).length c2, .slice a3 (AA s.tables).length c3] w3 0 qs 5 (by simp); rw [Nat.zero_add] at q; exact q); have q6 : (((((((w3.setCell ⟨w.heap.size + 1, 0, none⟩ (.int .i64 s.low.1)).setCell ⟨w.heap.size + 1, 1, none⟩ (.int .i64 s.low.2)).setCell ⟨w.heap.size + 1, 2, none⟩ (.int .i64 s.high.1)).setCell ⟨w.heap.size + 1, 3, none⟩ (.int .i64 s.high.2)).setCell ⟨w.heap.size + 1, 4, none⟩ (.slice a1 (AA s.robot).length c1)).setCell ⟨w.heap.size + 1, 5, none⟩ (.slice a2 (AB s.obst).length c2)).setCell ⟨w.heap.size + 1, 6, none⟩ (.slice a3 (AA s.tables).length c3)).cell? ⟨w.heap.size + 1, 6, none⟩ = some (.slice a3 (AA s.tables).length c3) := (by have q := AN (w.heap.size + 1) [.int .i64 s.low.1, .int .i64 s.low.2, .int .i64 s.high.1, .int .i64 s.high.2, .slice a1 (AA s.robot).length c1, .slice a2 (AB s.obst).length c2, .slice a3 (AA s.tables).length c3] w3 0 qs 6 (by simp); rw [Nat.zero_add] at q; exact q)
  have HQ := Lib.hid (And.intro q0 (And.intro q1 (And.intro q2 (And.intro q3 (And.intro q4 (And.intro q5 q6))))))
  clear q0 q1 q2 q3 q4 q5 q6 qs
  go_wp2
  obtain ⟨q0, q1, q2, q3, q4, q5, q6⟩ := HQ.out
  refine bodyPost_ret (v := .agg #[.int .i64 s.low.1, .int .i64 s.low.2, .int .i64 s.high.1, .int .i64 s.high.2, .slice a1 (AA s.robot).length c1, .slice a2 (AB s.obst).length c2, .slice a3 (AA s.tables).length c3]) (by simp [results, Tryz.results18, go_sem, q0, q1, q2, q3, q4, q5, q6]) rfl ⟨_, rfl, ?_, ?_⟩
  · refine (HH.out.only (S := fun b => b = w.heap.size + 1) ?_ (fun k hk => .inl (by omega))).mono (by omega) (by simp)
    · repeat (first | with_reducible exact OnlyIn.refl _ _ | with_reducible refine OnlyIn.setCell ?_ ?_ _)
      all_goals rfl
  · exact (by (repeat (first | with_reducible exact Below.refl _ _ | with_reducible assumption | with_reducible refine Below.drew ?_ | with_reducible refine Below.setCell ?_ ?_ _ | with_reducible refine Below.alloc ?_ ?_ _)); all_goals first | (simp; done) | (simp; omega) | omega)
end Go.Proofs.YtmekciknfocmmaaGreatDoor
namespace Go.Proofs.YtmekciknfocmmaaGreatDoor
set_option maxRecDepth 100000
open Go.RowKit
attribute [local go_sem ↓] Go.wp_at_zero Go.wp_at_succ
end Go.Proofs.YtmekciknfocmmaaGreatDoor
namespace Go.Proofs.YtmekciknfocmmaaGreatDoor
set_option maxRecDepth 100000
open Go.RowKit
attribute [local go_sem ↓] Go.wp_at_zero Go.wp_at_succ
end Go.Proofs.YtmekciknfocmmaaGreatDoor
namespace Go.Proofs.YtmekciknfocmmaaGreatDoor
set_option maxRecDepth 100000
open Go.RowKit
theorem DT (g:Nat):∀ (cs:List Value) (w:World) (o:Nat),OnlyIn (λ b=>b=g) w (w.setCells g o cs)
 | [],_,_=>OnlyIn.refl _ _
 | c::cs,w,o=>(OnlyIn.setCell (S:=λ b=>b=g) (OnlyIn.refl _ w) (p:=⟨g,o,none⟩) rfl c).trans (DT g cs _ _)
def Qu (w:World) (l:List (List V2)) (e:Ending) (w' : World):Prop:=∃ (v' : Value) (vs:List Value),e=.returned v'/\w'.ownsRow w.heap.size 25 1 v' vs.length vs/\vs.length=l.length/\(∀ x ∈ vs,x.oneCell'=true)/\(∀ k,k<l.length->VecsAt w (vs.getD k undef) (l.getD k []))/\Below w.heap.size w w'
set_option maxHeartbeats 1000000 in
theorem PR (l : List (List V2)) (hlen : l.length ≤ 1048576) (v : Value) (w : World) (hv : VecSSAt w v l) :
    Calls Tryz.prog 25 #[v] w (Qu w l) := by
  obtain ⟨vs, hs, hvl, hvs⟩ := hv
  have hone : ∀ x ∈ vs, x.oneCell' = true := fun x hx => by
    obtain ⟨k, hk, rfl⟩ := List.mem_iff_getElem.1 hx
    obtain ⟨a, c, e, _⟩ := hvs k (by omega)
    have e0 : vs.getD k undef = vs[k] := by simp [List.getD, hk]
    rw [e0] at e
    rw [e]; rfl
  have hnil : ∀ c, v = .slice none vs.length c → vs = [] := fun c hc => by
    obtain ⟨a, cap, h1, _, _, _, h5⟩ := hs
    rw [h1] at hc
    simp at hc
    rcases h5 with ⟨h5, _⟩ | ⟨b, off, h5, _⟩
    · simpa using h5
    · rw [hc.1] at h5; simp at h5
  have HS := Lib.hid (hs.below (w' := w.alloc (.cells #[] 25)) ((Below.refl _ _).alloc (Nat.le_refl _) _))
  obtain ⟨a, cap, rfl, hl, hc, _⟩ := hs
  simp only [List.length_map] at hl hnil HS ⊢
  have HV := Lib.hid (And.intro hone (And.intro hvl hvs))
  have hvl' : vs.length ≤ 1048576 := by omega
  clear hone hvl hvs
  have hsn := fun (w : World) (a : Option Addr) (n c n' c' : Nat) => Lib.run_eql_slice_nil (P := Tryz.prog) w 26 25 a n c n' c' Tryz.underlying26
  cases a with
  | none =>
    obtain rfl : vs = [] := hnil cap rfl
    clear hnil
    go_enter Tryz.func25, Tryz.ntmps25
    go_wp2
    go_ret
    exact ⟨_, [], rfl, World.ownsRow_nil _ _ _ _, HV.out.2.1, by simp, HV.out.2.2, Below.refl _ _⟩
  | some ad =>
    clear hnil
    have HO := Lib.hid (H0 w w.heap.size 25 1 (Nat.le_refl _))
    go_enter Tryz.func25, Tryz.ntmps25
    go_wp2_with (at_builtin; refine Om Cd rfl _ _ rfl w.heap.size _ 0 [] rfl HO.out _ (vs.map fun x => [x]) rfl HS.out ?c0 ?c1 (by decide) ?c2 ?_; rotate_left 3; intro v1 w3 hown3 hg3)
    case c0 =>
      intro r hr q hq
      simp at hr
      obtain ⟨x, hx, rfl⟩ := hr
      simp at hq
      subst hq
      exact HV.out.1 q hx
    case c1 => simp; omega
    case c2 => simp
    have hfl : (vs.map fun x => [x]).flatten = vs := by
      generalize vs = l
      induction l with
      | nil => rfl
      | cons x r ih => simp [ih]
    have HO3 := Lib.hid hown3
    have HF := Lib.hid hfl
    have HB3 := Lib.hid (Ol ((Below.refl w.heap.size w).alloc (Nat.le_refl _) _) HO.out hg3 (by simp) (Nat.le_refl _))
    clear hown3 hg3 hfl
    go_wp2
    go_ret
    refine ⟨_, vs, rfl, ?_, HV.out.2.1, HV.out.1, HV.out.2.2, HB3.out⟩
    have h := HO3.out
    rw [HF.out] at h
    simpa using h
set_option maxHeartbeats 2000000 in
theorem Ni (vs : List Value) (g cap k base : Nat) (hk : k < vs.length) (hone : ∀ x ∈ vs, x.oneCell' = true) (w : World) (hown : w.ownsRow base 25 1 (.slice (some ⟨g, 0, none⟩) vs.length cap) vs.length vs) :
    Calls Tryz.prog 24 #[.slice (some ⟨g, 0, none⟩) vs.length cap, .int .i64 k, .int .i64 ((k : Int) + 1)] w fun e w' => e = .returned (.slice (some ⟨g, 0, none⟩) (k + (vs.length - (k + 1))) cap) ∧ (∀ j, j < vs.length - 1 → w'.cell? ⟨g, j, none⟩ = (vs.eraseIdx k)[j]?) ∧ OnlyIn (fun b => b = g) w w' := by
  have hcap : vs.length ≤ cap ∧ cap ≤ 9223372036854775807 := by
    rcases hown.2 with ⟨h, _⟩ | ⟨g', c', cur, h, _, _, h2, h3, _⟩
    · simp at h
    · simp at h; unfold maxLen at h3; omega
  obtain ⟨hc1, hc2⟩ := hcap
  have hcell : ∀ j, j < vs.length → w.cell? ⟨g, j, none⟩ = vs[j]? := fun j hj => hown.cellAt j (by omega)
  have hfz : ∀ j, w.frozen? ⟨g, j, none⟩ = false := fun j => hown.frozenAt j
  obtain ⟨i0, z0, hi0, hz0, hz1, hz2, hz3⟩ := Cd.info
  obtain ⟨A, hA, hnews⟩ : ∃ A : Addr, (if cap = k + 1 then some (⟨g, 0, none⟩ : Addr) else some ⟨g, k + 1, none⟩) = some A ∧ Hid (∀ j u, (vs.drop (k + 1))[j]? = some u → w.drew.cell? (A.add j) = some u) := by
    by_cases h : cap = k + 1
    · refine ⟨⟨g, 0, none⟩, by simp [h], fun j u hu => ?_⟩
      rw [List.drop_of_length_le (by omega)] at hu
      simp at hu
    · refine ⟨⟨g, k + 1, none⟩, by simp [h], fun j u hu => ?_⟩
      have hj : k + 1 + j < vs.length := by
        have := (List.getElem?_eq_some_iff.1 hu).1
        simp at this; omega
      rw [Addr.add_lit]
      rw [List.getElem?_drop] at hu
      exact (hcell _ hj).trans hu
  have s1 : Hid ((vs.drop (k + 1)).length = (vs.length - (k + 1)) * 1) := by rw [Nat.mul_one]; exact List.length_drop
  have s2 : Hid (∀ u ∈ vs.drop (k + 1), u.oneCell' = true) := fun u hu => hone u (List.mem_of_mem_drop hu)
  have s3 : Hid (∀ j, j < (vs.drop (k + 1)).length → (w.drew.cell? ⟨g, 0 + k * 1 + j, none⟩).isSome = true ∧ w.drew.frozen? ⟨g, 0 + k * 1 + j, none⟩ = false) := by
    intro j hj
    simp at hj
    refine ⟨?_, hfz _⟩
    show (w.cell? _).isSome = true
    rw [hcell _ (by omega)]
    simp; omega
  have hic : k ≤ cap := by omega
  have hwr : IntKind.i64.wrap ((k : Int) + 1) = (k : Int) + 1 := by rw [IntKind.wrap_i64]; omega
  have hp0 : (0 : Int) ≤ (k : Int) + 1 := by omega
  have hp1 : (k : Int) + 1 ≤ (vs.length : Int) := by omega
  have hp2 : ((k : Int) + 1).toNat = k + 1 := by omega
  have hp3 : ((k : Int) == (k : Int) + 1) = false := by simp; omega
  obtain ⟨W1, hW1⟩ : ∃ W1, w.drew.setCells g k (vs.drop (k + 1)) = W1 := ⟨_, rfl⟩
  have hdl : (vs.drop (k + 1)).length = vs.length - (k + 1) := List.length_drop
  have c1 : ∀ j, j < vs.length → W1.cell? ⟨g, j, none⟩ = if j < k then vs[j]? else if j < vs.length - 1 then vs[j + 1]? else vs[j]? := fun j hj => by
    rw [← hW1]
    by_cases h1 : j < k
    · rw [if_pos h1, World.cell?_setCells_out g _ _ _ _ (fun _ _ => .inl h1)]
      exact hcell j hj
    · rw [if_neg h1]
      by_cases h2 : j < vs.length - 1
      · rw [if_pos h2]
        have := World.cell?_setCells_in g (vs.drop (k + 1)) k w.drew (fun i hi => by
          show (w.cell? _).isSome = true
          rw [hcell _ (by omega)]; simp; omega) (j - k) (by omega)
        rw [show k + (j - k) = j by omega] at this
        rw [this, List.getElem_drop, List.getElem?_eq_getElem (by omega)]
        congr 2; omega
      · rw [if_neg h2, World.cell?_setCells_out g _ _ _ _ (fun _ _ => .inr (by rw [hdl]; show _ ≤ j; omega))]
        exact hcell j hj
  have z1 : W1.frozen? = w.frozen? := by
    funext a
    rw [← hW1, World.frozen?_setCells]; rfl
  have hcl := Lib.run_clear_slice (P := Tryz.prog) W1 26 25 0 (.slice none 0 0) Tryz.underlying26 Tryz.zeroValue25 rfl rfl g (k + (vs.length - (k + 1))) (vs.length - (k + (vs.length - (k + 1)))) (cap - (k + (vs.length - (k + 1)))) (by omega) (fun j hj => by rw [c1 _ (by omega), if_neg (by omega), if_neg (by omega)]; simp; omega) (fun j _ => by rw [z1]; exact hfz _)
  have fin1 : ∀ j, j < vs.length - 1 → (W1.setCells g (k + (vs.length - (k + 1))) (List.replicate (vs.length - (k + (vs.length - (k + 1)))) (.slice none 0 0))).cell? ⟨g, j, none⟩ = (vs.eraseIdx k)[j]? := fun j hj => by
    rw [World.cell?_setCells_out g _ _ _ _ (fun _ _ => .inl (by show j < _; omega)), c1 j (by omega), List.getElem?_eraseIdx]
    by_cases h1 : j < k
    · rw [if_pos h1, if_pos h1]
    · rw [if_neg h1, if_neg h1, if_pos hj]
  have fin2 : OnlyIn (fun b => b = g) w (W1.setCells g (k + (vs.length - (k + 1))) (List.replicate (vs.length - (k + (vs.length - (k + 1)))) (.slice none 0 0))) := by
    refine OnlyIn.trans (b := W1) ?_ (DT g _ _ _)
    rw [← hW1]
    exact OnlyIn.trans (b := w.drew) ⟨rfl, rfl, rfl, Nat.le_refl _, fun _ _ _ => rfl⟩ (DT g _ _ _)
  have FF := Lib.hid (And.intro fin1 fin2)
  have HW := Lib.hid hW1
  have HCL := Lib.hid hcl
  clear hcell hfz hown hone c1 z1 fin1 fin2 hcl hW1
  go_enter Tryz.func24, Tryz.ntmps24
  go_wp2_with fail
  go_region_law (refine step_append_room rfl (.tmp 22) (.tmp 25) 26 rfl 25 i0 1 Tryz.underlying26 hi0 hz1 g 0 k cap (by simp [Act.eval, Act.put]) A (vs.length - (k + 1)) (cap - (k + 1)) (vs.drop (k + 1)) (by simp [Act.eval, Act.put]) s1.out hnews.out s2.out (by omega) s3.out ?_)
  have hcl := HCL.out
  rw [← HW.out] at hcl
  go_wp2
  go_ret
  refine ⟨rfl, ?_⟩
  have h := FF.out
  rw [← HW.out] at h
  exact h
end Go.Proofs.YtmekciknfocmmaaGreatDoor
namespace Go.Proofs.YtmekciknfocmmaaGreatDoor
set_option maxRecDepth 100000
open Go.RowKit
attribute [local go_sem ↓] Go.wp_at_zero Go.wp_at_succ
theorem FpRow.split {w:World} : ∀ (t1:List Ty) {t2:List Ty} (d1:List Dat) {d2:List Dat} (v1:List Value) {v2:List Value} (bs:List Nat),d1.length=t1.length->v1.length=t1.length->FpRow w (t1++t2) (d1++d2) (v1++v2) bs->∃ b1 b2,bs=b1++b2/\FpRow w t1 d1 v1 b1/\FpRow w t2 d2 v2 b2:=by
 intro t1
 induction t1 with
 | nil=>
  intro t2 d1 d2 v1 v2 bs hd hv h
  obtain rfl:=List.eq_nil_of_length_eq_zero hd
  obtain rfl:=List.eq_nil_of_length_eq_zero hv
  exact ⟨[],bs,rfl,rfl,h⟩
 | cons t ts ih=>
  intro t2 d1 d2 v1 v2 bs hd hv h
  match d1,v1,hd,hv with
  | d::ds,v::vs,hd,hv=>
   simp only [List.cons_append,FpRow] at h ⊢
   obtain ⟨c1,c2,rfl,p1,p2⟩:=h
   obtain ⟨e1,e2,rfl,q1,q2⟩:=ih ds vs c2 (by simpa using hd) (by simpa using hv) p2
   exact ⟨c1++e1,e2,by simp,⟨c1,e1,rfl,p1,q1⟩,q2⟩
theorem Own.replace {w:World} {lo mid hi:Nat} {t1 t2 t3:List Ty} {d1 d2 d2' d3:List Dat} {v1 v2 v2' v3:List Value} (h:Own w lo mid (t1++t2++t3) (d1++d2++d3) (v1++v2++v3)) (h' : Own w mid hi t2 d2' v2') (hm:lo<=mid) (hh:mid<=hi)
  (l1:d1.length=t1.length) (l1' : v1.length=t1.length) (l2:d2.length=t2.length) (l2' : v2.length=t2.length):Own w lo hi (t1++t2++t3) (d1++d2'++d3) (v1++v2'++v3):=by
 obtain ⟨bs,p1,p2,p3⟩:=h
 obtain ⟨bs',q1,q2,q3⟩:=h'
 obtain ⟨c,b3,rfl,h12,h3⟩:=FpRow.split _ _ _ _ (by simp [l1,l2]) (by simp [l1',l2']) p1
 obtain ⟨b1,b2,rfl,h1,h2⟩:=FpRow.split _ _ _ _ l1 l1' h12
 have n1:=List.nodup_append.1 p2
 have n2:=List.nodup_append.1 n1.1
 refine ⟨b1++bs'++b3,FpRow.append _ _ _ _ (FpRow.append _ _ _ _ h1 q1) h3,?_,?_⟩
 ·refine List.nodup_append.2 ⟨List.nodup_append.2 ⟨n2.1,q2,λ a ha b hb e=>?_⟩,n1.2.1,λ a ha b hb e=>?_⟩
  ·have:=p3 a (by simp [ha]);have:=q3 b hb;omega
  ·rcases List.mem_append.1 ha with ha|ha
   ·exact n1.2.2 a (by simp [ha]) b hb e
   ·have:=q3 a ha;have:=p3 b (by simp [hb]);omega
 ·intro b hb
  rcases List.mem_append.1 hb with hb|hb
  ·rcases List.mem_append.1 hb with hb|hb
   ·have:=p3 b (by simp [hb]);omega
   ·have:=q3 b hb;omega
  ·have:=p3 b (by simp [hb]);omega
def CO (s:Scn) (k:Int):Bool:=AG s && inR k 0 ((s.obst.length:Int)-1)
theorem E8 (s:Scn) (k:Int) (hs:s.obst.length<=1048576) (v:Value) (w:World) (hv:SceneAt w v s) :
  Calls Tryz.prog 23 #[v,.int .i64 k] w λ e w'=>e=.returned (.bool (CO s k))/\Below w.heap.size w w':=by
 have HV:=Lib.hid hv
 obtain ⟨r,o,t,rfl,hr,ho,ht⟩:=hv
 obtain ⟨ra,rcap,rfl,_,_,_⟩:=hr.open
 obtain ⟨oa,ocap,rfl,_,_,_⟩:=ho.open
 obtain ⟨ta,tcap,rfl,_,_,_⟩:=ht.open
 clear hr ho ht
 have he:CO s k=(AG s && inR k 0 ((s.obst.length:Int)-1)):=rfl
 rw [he];clear he
 cases hvs:AG s
 ·have HS:=Lib.hid hvs
  go_enter Tryz.func23,Tryz.ntmps23
  go_wp2_with fail
  refine (BU s _ _ (HV.out.below (by (with_reducible repeat (first|exact Below.refl _ _|assumption|refine Below.drew ?_|refine Below.setCell ?_ ?_ _|refine Below.alloc ?_ ?_ _));all_goals first|(simp;done)|(simp;omega)|omega))).mono ?_
  rintro e w1 ⟨rfl,h1⟩
  have B1:Below w.heap.size w w1:=Below.trans (by (with_reducible repeat (first|exact Below.refl _ _|assumption|refine Below.drew ?_|refine Below.setCell ?_ ?_ _|refine Below.alloc ?_ ?_ _));all_goals first|(simp;done)|(simp;omega)|omega) (h1.mono (by first|(simp;done)|(simp;omega)|omega))
  have S1:=h1.size
  have T1:=B1.size
  try simp at S1
  obtain ⟨k1,f1⟩:=A6 h1
  try simp at k1
  try simp at f1
  have Hc1:=Lib.hid h1
  clear h1
  have u1_0:w.heap.size<w1.heap.size:=by omega
  go_wp2
  go_ret
  exact ⟨rfl,B1⟩
 ·have HS:=Lib.hid hvs
  go_enter Tryz.func23,Tryz.ntmps23
  go_wp2_with fail
  refine (BU s _ _ (HV.out.below (by (with_reducible repeat (first|exact Below.refl _ _|assumption|refine Below.drew ?_|refine Below.setCell ?_ ?_ _|refine Below.alloc ?_ ?_ _));all_goals first|(simp;done)|(simp;omega)|omega))).mono ?_
  rintro e w1 ⟨rfl,h1⟩
  have B1:Below w.heap.size w w1:=Below.trans (by (with_reducible repeat (first|exact Below.refl _ _|assumption|refine Below.drew ?_|refine Below.setCell ?_ ?_ _|refine Below.alloc ?_ ?_ _));all_goals first|(simp;done)|(simp;omega)|omega) (h1.mono (by first|(simp;done)|(simp;omega)|omega))
  have S1:=h1.size
  have T1:=B1.size
  try simp at S1
  obtain ⟨k1,f1⟩:=A6 h1
  try simp at k1
  try simp at f1
  have Hc1:=Lib.hid h1
  clear h1
  have u1_0:w.heap.size<w1.heap.size:=by omega
  go_wp2_with fail
  refine (Dh _ _ _ _).mono ?_
  rintro e w' ⟨rfl,rfl⟩
  go_wp2
  go_ret
  exact ⟨rfl,B1⟩
def AQ (s:Scn) (l:List (List V2)):Scn:=⟨s.low,s.high,s.robot,l,s.tables⟩
def Hq (w:World) (r:Scn) (b:Bool) (e:Ending) (w' : World):Prop:=∃ cs:List Value,e=.returned (.tuple #[.agg cs.toArray,.bool b])/\Own w' w.heap.size w'.heap.size [.int,.int,.int,.int,.sl 24 [.int,.int],.sl 25 [.sl 24 [.int,.int]],.sl 24 [.int,.int]] (HZ r) cs/\Below w.heap.size w w'
theorem Di {w:World} {s:Scn} {e e' : Nat} {cs:List Value} (h:RdRow w [.int,.int,.int,.int,.sl e [.int,.int],.sl e' [.sl e [.int,.int]],.sl e [.int,.int]] (HZ s) cs):∃ a1 c1 a2 c2 a3 c3,cs=[.int .i64 s.low.1,.int .i64 s.low.2,.int .i64 s.high.1,.int .i64 s.high.2,.slice a1 (AA s.robot).length c1,.slice a2 (AB s.obst).length c2,.slice a3 (AA s.tables).length c3]:=by
 obtain ⟨a,_,rfl,h0,h⟩:=RdRow.cons2 h
 obtain ⟨b,_,rfl,h1,h⟩:=RdRow.cons2 h
 obtain ⟨c,_,rfl,h2,h⟩:=RdRow.cons2 h
 obtain ⟨d,_,rfl,h3,h⟩:=RdRow.cons2 h
 obtain ⟨r,_,rfl,h4,h⟩:=RdRow.cons2 h
 obtain ⟨o,_,rfl,h5,h⟩:=RdRow.cons2 h
 obtain ⟨t,_,rfl,h6,h⟩:=RdRow.cons2 h
 obtain ⟨-,rfl⟩:=RdRow.nil_inv h
 obtain rfl:=Rd.int2 h0
 obtain rfl:=Rd.int2 h1
 obtain rfl:=Rd.int2 h2
 obtain rfl:=Rd.int2 h3
 obtain ⟨a1,c1,rfl,-⟩:=Rd.sl2 h4
 obtain ⟨a2,c2,rfl,-⟩:=Rd.sl2 h5
 obtain ⟨a3,c3,rfl,-⟩:=Rd.sl2 h6
 exact ⟨_,_,_,_,_,_,rfl⟩
set_option maxHeartbeats 4000000 in
theorem Qv (s : Scn) (h1 : s.robot.length ≤ 1048576) (h2 : s.obst.length ≤ 1048576) (h3 : ∀ x ∈ s.obst, x.length ≤ 1048576) (h4 : s.tables.length ≤ 1048576) (l : List (List V2)) (h5 : l.length ≤ 1048576) (h6 : ∀ x ∈ l, x.length ≤ 1048576) (v u : Value) (w : World) (hv : SceneAt w v s) (hu : VecSSAt w u l) :
    Calls Tryz.prog 19 #[v, u] w (Hq w (if AG (AQ s l) then AQ s l else s) (AG (AQ s l))) := by
  have HV := Lib.hid hv
  have HU := Lib.hid hu
  obtain ⟨r, o, t, rfl, hr, ho, ht⟩ := hv
  obtain ⟨ra, rcap, rfl, _, _, _⟩ := hr.open
  obtain ⟨oa, ocap, rfl, _, _, _⟩ := ho.open
  obtain ⟨ta, tcap, rfl, _, _, _⟩ := ht.open
  obtain ⟨ua, ucap, rfl, _, _, _⟩ := hu.open
  clear hr ho ht hu
  have H3 := Lib.hid h3
  have H6 := Lib.hid h6
  clear h3 h6
  obtain ⟨ok, hok⟩ : ∃ ok, AG (AQ s l) = ok := ⟨_, rfl⟩
  rw [hok]
  have HOK := Lib.hid hok
  clear hok
  obtain ⟨res, hres⟩ : ∃ r, (if ok = true then AQ s l else s) = r := ⟨_, rfl⟩
  rw [hres]
  have HRES := Lib.hid hres
  clear hres
  go_enter Tryz.func19, Tryz.ntmps19
  go_wp2_with fail
  refine (FN s h1 h2 H3.out h4 _ _ (HV.out.below (by (repeat (first | with_reducible exact Below.refl _ _ | with_reducible assumption | with_reducible refine Below.drew ?_ | with_reducible refine Below.setCell ?_ ?_ _ | with_reducible refine Below.alloc ?_ ?_ _)); all_goals first | (simp; done) | (simp; omega) | omega))).mono ?_
  rintro e w1 ⟨cs1, rfl, ho1, h1⟩
  have B1 : Below w.heap.size w w1 := Below.trans (by (repeat (first | with_reducible exact Below.refl _ _ | with_reducible assumption | with_reducible refine Below.drew ?_ | with_reducible refine Below.setCell ?_ ?_ _ | with_reducible refine Below.alloc ?_ ?_ _)); all_goals first | (simp; done) | (simp; omega) | omega) (h1.mono (by first | (simp; done) | (simp; omega) | omega))
  have S1 := h1.size
  have T1 := B1.size
  try simp at S1
  obtain ⟨k1, f1⟩ := A6 h1
  try simp at k1
  try simp at f1
  have Hc1 := Lib.hid h1
  clear h1
  have u1_0 : w.heap.size < w1.heap.size := by omega
  have u1_1 : w.heap.size + 1 < w1.heap.size := by omega
  obtain ⟨a1, c1, a2, c2, a3, c3, rfl⟩ := Di ho1.rd
  simp only [World.size_alloc] at ho1
  have O1 := Lib.hid ho1
  clear ho1
  go_wp2_with fail
  refine (It l h5 H6.out _ _ (HU.out.below (by (repeat (first | with_reducible exact Below.refl _ _ | with_reducible assumption | with_reducible refine Below.drew ?_ | with_reducible refine Below.setCell ?_ ?_ _ | with_reducible refine Below.alloc ?_ ?_ _)); all_goals first | (simp; done) | (simp; omega) | omega))).mono ?_
  rintro e w2 ⟨u2, rfl, ho2, h2⟩
  have B2 : Below w.heap.size w w2 := Below.trans (by (repeat (first | with_reducible exact Below.refl _ _ | with_reducible assumption | with_reducible refine Below.drew ?_ | with_reducible refine Below.setCell ?_ ?_ _ | with_reducible refine Below.alloc ?_ ?_ _)); all_goals first | (simp; done) | (simp; omega) | omega) (h2.mono (by first | (simp; done) | (simp; omega) | omega))
  have S2 := h2.size
  have T2 := B2.size
  try simp at S2
  obtain ⟨k2, f2⟩ := A6 h2
  try simp at k2
  try simp at f2
  have Hc2 := Lib.hid h2
  clear h2
  have u2_0 : w.heap.size < w2.heap.size := by omega
  have u2_1 : w.heap.size + 1 < w2.heap.size := by omega
  obtain ⟨b2, e2, rfl⟩ := ho2.shape
  simp only [World.size_alloc] at ho2
  have O2 := Lib.hid ho2
  clear ho2
  have y1 : w1.heap.size < w2.heap.size := by omega
  go_wp2_with fail
  have OR : Hid (RdRow (w2.setCell ⟨w1.heap.size, 5, none⟩ (.slice b2 (AB l).length e2)) [.int, .int, .int, .int, .sl 24 [.int, .int], .sl 25 [.sl 24 [.int, .int]], .sl 24 [.int, .int]] (HZ (AQ s l)) [.int .i64 s.low.1, .int .i64 s.low.2, .int .i64 s.high.1, .int .i64 s.high.2, .slice a1 (AA s.robot).length c1, .slice b2 (AB l).length e2, .slice a3 (AA s.tables).length c3] ∧ Own (w2.setCell ⟨w1.heap.size, 5, none⟩ (.slice b2 (AB l).length e2)) (w.heap.size + 2) w2.heap.size [.int, .int, .int, .int, .sl 24 [.int, .int], .sl 25 [.sl 24 [.int, .int]], .sl 24 [.int, .int]] (HZ (AQ s l)) [.int .i64 s.low.1, .int .i64 s.low.2, .int .i64 s.high.1, .int .i64 s.high.2, .slice a1 (AA s.robot).length c1, .slice b2 (AB l).length e2, .slice a3 (AA s.tables).length c3]) := by
    have o1 := ((((O1.out.below (by (repeat (first | with_reducible exact Below.refl _ _ | with_reducible assumption | with_reducible refine Below.drew ?_ | with_reducible refine Below.setCell ?_ ?_ _ | with_reducible refine Below.alloc ?_ ?_ _)); all_goals first | (simp; done) | (simp; omega) | omega)).below Hc2.out).only (S := fun b => b = w1.heap.size) (w' := w2.setCell ⟨w1.heap.size, 5, none⟩ (.slice b2 (AB l).length e2)) (OnlyIn.setCell (S := fun b => b = w1.heap.size) (OnlyIn.refl _ w2) (p := ⟨w1.heap.size, 5, none⟩) rfl _) (fun k hk => .inr (by omega)))).mono (Nat.le_refl _) (Nat.le_succ _)
    have o2 := O2.out.only (S := fun b => b = w1.heap.size) (w' := w2.setCell ⟨w1.heap.size, 5, none⟩ (.slice b2 (AB l).length e2)) (OnlyIn.setCell (S := fun b => b = w1.heap.size) (OnlyIn.refl _ w2) (p := ⟨w1.heap.size, 5, none⟩) rfl _) (fun k hk => .inl (by omega))
    have h : Own (w2.setCell ⟨w1.heap.size, 5, none⟩ (.slice b2 (AB l).length e2)) (w.heap.size + 2) w2.heap.size [.int, .int, .int, .int, .sl 24 [.int, .int], .sl 25 [.sl 24 [.int, .int]], .sl 24 [.int, .int]] (HZ (AQ s l)) [.int .i64 s.low.1, .int .i64 s.low.2, .int .i64 s.high.1, .int .i64 s.high.2, .slice a1 (AA s.robot).length c1, .slice b2 (AB l).length e2, .slice a3 (AA s.tables).length c3] :=
      Own.replace (t1 := [.int, .int, .int, .int, .sl 24 [.int, .int]]) (t2 := [.sl 25 [.sl 24 [.int, .int]]]) (t3 := [.sl 24 [.int, .int]]) (d1 := [.int s.low.1, .int s.low.2, .int s.high.1, .int s.high.2, .sl (AA s.robot)]) (d2 := [.sl (AB s.obst)]) (d2' := [.sl (AB l)]) (d3 := [.sl (AA s.tables)]) (v1 := [.int .i64 s.low.1, .int .i64 s.low.2, .int .i64 s.high.1, .int .i64 s.high.2, .slice a1 (AA s.robot).length c1]) (v2 := [.slice a2 (AB s.obst).length c2]) (v2' := [.slice b2 (AB l).length e2]) (v3 := [.slice a3 (AA s.tables).length c3]) o1 o2 (by omega) (by omega) rfl rfl rfl rfl
    exact ⟨h.rd, h⟩
  refine (BU (AQ s l) _ _ OR.out.1.scene).mono ?_
  rintro e w3 ⟨rfl, h3⟩
  have B3 : Below w.heap.size w w3 := Below.trans (by (repeat (first | with_reducible exact Below.refl _ _ | with_reducible assumption | with_reducible refine Below.drew ?_ | with_reducible refine Below.setCell ?_ ?_ _ | with_reducible refine Below.alloc ?_ ?_ _)); all_goals first | (simp; done) | (simp; omega) | omega) (h3.mono (by first | (simp; done) | (simp; omega) | omega))
  have S3 := h3.size
  have T3 := B3.size
  try simp at S3
  obtain ⟨k3, f3⟩ := A6 h3
  try simp at k3
  try simp at f3
  have Hc3 := Lib.hid h3
  clear h3
  have u3_0 : w.heap.size < w3.heap.size := by omega
  have u3_1 : w.heap.size + 1 < w3.heap.size := by omega
  rw [HOK.out]
  have y2 : w1.heap.size < w3.heap.size := by omega
  have O3 := Lib.hid (OR.out.2.below Hc3.out)
  cases ok with
  | true =>
    have qs : ∀ i, i < 7 → (w3.cell? ⟨w.heap.size + 1, 0 + i, none⟩).isSome = true := fun i hi => by
      have : i = 0 ∨ i = 1 ∨ i = 2 ∨ i = 3 ∨ i = 4 ∨ i = 5 ∨ i = 6 := by omega
      rcases this with rfl | rfl | rfl | rfl | rfl | rfl | rfl <;> go_simp
    have q0 : (((((((w3.setCell ⟨w.heap.size + 1, 0, none⟩ (.int .i64 s.low.1)).setCell ⟨w.heap.size + 1, 1, none⟩ (.int .i64 s.low.2)).setCell ⟨w.heap.size + 1, 2, none⟩ (.int .i64 s.high.1)).setCell ⟨w.heap.size + 1, 3, none⟩ (.int .i64 s.high.2)).setCell ⟨w.heap.size + 1, 4, none⟩ (.slice a1 (AA s.robot).length c1)).setCell ⟨w.heap.size + 1, 5, none⟩ (.slice b2 (AB l).length e2)).setCell ⟨w.heap.size + 1, 6, none⟩ (.slice a3 (AA s.tables).length c3)).cell? ⟨w.heap.size + 1, 0, none⟩ = some (.int .i64 s.low.1) := (by have q := AN (w.heap.size + 1) [.int .i64 s.low.1, .int .i64 s.low.2, .int .i64 s.high.1, .int .i64 s.high.2, .slice a1 (AA s.robot).length c1, .slice b2 (AB l).length e2, .slice a3 (AA s.tables).length c3] w3 0 qs 0 (by simp); rw [Nat.zero_add] at q; exact q); have q1 : (((((((w3.setCell ⟨w.heap.size + 1, 0, none⟩ (.int .i64 s.low.1)).setCell ⟨w.heap.size + 1, 1, none⟩ (.int .i64 s.low.2)).setCell ⟨w.heap.size + 1, 2, none⟩ (.int .i64 s.high.1)).setCell ⟨w.heap.size + 1, 3, none⟩ (.int .i64 s.high.2)).setCell ⟨w.heap.size + 1, 4, none⟩ (.slice a1 (AA s.robot).length c1)).setCell ⟨w.heap.size + 1, 5, none⟩ (.slice b2 (AB l).length e2)).setCell ⟨w.heap.size + 1, 6, none⟩ (.slice a3 (AA s.tables).length c3)).cell? ⟨w.heap.size + 1, 1, none⟩ = some (.int .i64 s.low.2) := (by have q := AN (w.heap.size + 1) [.int .i64 s.low.1, .int .i64 s.low.2, .int .i64 s.high.1, .int .i64 s.high.2, .slice a1 (AA s.robot).length c1, .slice b2 (AB l).length e2, .slice a3 (AA s.tables).length c3] w3 0 qs 1 (by simp); rw [Nat.zero_add] at q; exact q); have q2 : (((((((w3.setCell ⟨w.heap.size + 1, 0, none⟩ (.int .i64 s.low.1)).setCell ⟨w.heap.size + 1, 1, none⟩ (.int .i64 s.low.2)).setCell ⟨w.heap.size + 1, 2, none⟩ (.int .i64 s.high.1)).setCell ⟨w.heap.size + 1, 3, none⟩ (.int .i64 s.high.2)).setCell ⟨w.heap.size + 1, 4, none⟩ (.slice a1 (AA s.robot).length c1)).setCell ⟨w.heap.size + 1, 5, none⟩ (.slice b2 (AB l).length e2)).setCell ⟨w.heap.size + 1, 6, none⟩ (.slice a3 (AA s.tables).length c3)).cell? ⟨w.heap.size + 1, 2, none⟩ = some (.int .i64 s.high.1) := (by have q := AN (w.heap.size + 1) [.int .i64 s.low.1, .int .i64 s.low.2, .int .i64 s.high.1, .int .i64 s.high.2, .slice a1 (AA s.robot).length c1, .slice b2 (AB l).length e2, .slice a3 (AA s.tables).length c3] w3 0 qs 2 (by simp); rw [Nat.zero_add] at q; exact q); have q3 : (((((((w3.setCell ⟨w.heap.size + 1, 0, none⟩ (.int .i64 s.low.1)).setCell ⟨w.heap.size + 1, 1, none⟩ (.int .i64 s.low.2)).setCell ⟨w.heap.size + 1, 2, none⟩ (.int .i64 s.high.1)).setCell ⟨w.heap.size + 1, 3, none⟩ (.int .i64 s.high.2)).setCell ⟨w.heap.size + 1, 4, none⟩ (.slice a1 (AA s.robot).length c1)).setCell ⟨w.heap.size + 1, 5, none⟩ (.slice b2 (AB l).length e2)).setCell ⟨w.heap.size + 1, 6, none⟩ (.slice a3 (AA s.tables).length c3)).cell? ⟨w.heap.size + 1, 3, none⟩ = some (.int .i64 s.high.2) := (by have q := AN (w.heap.size + 1) [.int .i64 s.low.1, .int .i64 s.low.2, .int .i64 s.high.1, .int .i64 s.high.2, .slice a1 (AA s.robot).length c1, .slice b2 (AB l).length e2, .slice a3 (AA s.tables).length c3] w3 0 qs 3 (by simp); rw [Nat.zero_add] at q; exact q); have q4 : (((((((w3.setCell ⟨w.heap.size + 1, 0, none⟩ (.int .i64 s.low.1)).setCell ⟨w.heap.size + 1, 1, none⟩ (.int .i64 s.low.2)).setCell ⟨w.heap.size + 1, 2, none⟩ (.int .i64 s.high.1)).setCell ⟨w.heap.size + 1, 3, none⟩ (.int .i64 s.high.2)).setCell ⟨w.heap.size + 1, 4, none⟩ (.slice a1 (AA s.robot).length c1)).setCell ⟨w.heap.size + 1, 5, none⟩ (.slice b2 (AB l).length e2)).setCell ⟨w.heap.size + 1, 6, none⟩ (.slice a3 (AA s.tables).length c3)).cell? ⟨w.heap.size + 1, 4, none⟩ = some (.slice a1 (AA s.robot).length c1) := (by have q := AN (w.heap.size + 1) [.int .i64 s.low.1, .int .i64 s.low.2, .int .i64 s.high.1, .int .i64 s.high.2, .slice a1 (AA s.robot).length c1, .slice b2 (AB l).length e2, .slice a3 (AA s.tables).length c3] w3 0 qs 4 (by simp); rw [Nat.zero_add] at q; exact q); have q5 : (((((((w3.setCell ⟨w.heap.size + 1, 0, none⟩ (.int .i64 s.low.1)).setCell ⟨w.heap.size + 1, 1, none⟩ (.int .i64 s.low.2)).setCell ⟨w.heap.size + 1, 2, none⟩ (.int .i64 s.high.1)).setCell ⟨w.heap.size + 1, 3, none⟩ (.int .i64 s.high.2)).setCell ⟨w.heap.size + 1, 4, none⟩ (.slice a1 (AA s.robot).length c1)).setCell ⟨w.heap.size + 1, 5, none⟩ (.slice b2 (AB l).length e2)).setCell ⟨w.heap.size + 1, 6, none⟩ (.slice a3 (AA s.tables).length c3)).cell? ⟨w.heap.size + 1, 5, none⟩ = some (.slice b2 (AB l).length e2) := (by have q := AN (w.heap.size + 1) [.int .i64 s.low.1, .int .i64 s.low.2, .int .i64 s.high.1, .int .i64 s.high.2, .slice a1 (AA s.robot).length c1, .slice b2 (AB l).length e2, .slice a3 (AA s.tables).length c3] w3 0 qs 5 (by simp); rw [Nat.zero_add] at q; exact q); have q6 : (((((((w3.setCell ⟨w.heap.size + 1, 0, none⟩ (.int .i64 s.low.1)).setCell ⟨w.heap.size + 1, 1, none⟩ (.int .i64 s.low.2)).setCell ⟨w.heap.size + 1, 2, none⟩ (.int .i64 s.high.1)).setCell ⟨w.heap.size + 1, 3, none⟩ (.int .i64 s.high.2)).setCell ⟨w.heap.size + 1, 4, none⟩ (.slice a1 (AA s.robot).length c1)).setCell ⟨w.heap.size + 1, 5, none⟩ (.slice b2 (AB l).length e2)).setCell ⟨w.heap.size + 1, 6, none⟩ (.slice a3 (AA s.tables).length c3)).cell? ⟨w.heap.size + 1, 6, none⟩ = some (.slice a3 (AA s.tables).length c3) := (by have q := AN (w.heap.size + 1) [.int .i64 s.low.1, .int .i64 s.low.2, .int .i64 s.high.1, .int .i64 s.high.2, .slice a1 (AA s.robot).length c1, .slice b2 (AB l).length e2, .slice a3 (AA s.tables).length c3] w3 0 qs 6 (by simp); rw [Nat.zero_add] at q; exact q)
    have HQ := Lib.hid (And.intro q0 (And.intro q1 (And.intro q2 (And.intro q3 (And.intro q4 (And.intro q5 q6))))))
    clear q0 q1 q2 q3 q4 q5 q6 qs
    go_wp2
    obtain ⟨q0, q1, q2, q3, q4, q5, q6⟩ := HQ.out
    refine bodyPost_ret (v := .tuple #[.agg #[.int .i64 s.low.1, .int .i64 s.low.2, .int .i64 s.high.1, .int .i64 s.high.2, .slice a1 (AA s.robot).length c1, .slice b2 (AB l).length e2, .slice a3 (AA s.tables).length c3], .bool true]) (by simp [results, Tryz.results19, go_sem, q0, q1, q2, q3, q4, q5, q6]) rfl ⟨_, rfl, ?_, ?_⟩
    · have hr : res = AQ s l := HRES.out.symm
      rw [hr]
      refine Own.mono (lo := w.heap.size + 2) (hi := w2.heap.size) ?_ (by omega) (by simp only [World.size_setCell]; omega)
      refine O3.out.only (S := fun b => b = w.heap.size + 1) ?_ (fun k hk => .inl (by subst hk; omega))
      · repeat (first | with_reducible exact OnlyIn.refl _ _ | with_reducible refine OnlyIn.setCell ?_ ?_ _)
        all_goals rfl
    · exact (by (repeat (first | with_reducible exact Below.refl _ _ | with_reducible assumption | with_reducible refine Below.drew ?_ | with_reducible refine Below.setCell ?_ ?_ _ | with_reducible refine Below.alloc ?_ ?_ _)); all_goals first | (simp; done) | (simp; omega) | omega)
  | false =>
    go_wp2_with fail
    refine (FN s h1 h2 H3.out h4 _ _ (HV.out.below (by (repeat (first | with_reducible exact Below.refl _ _ | with_reducible assumption | with_reducible refine Below.drew ?_ | with_reducible refine Below.setCell ?_ ?_ _ | with_reducible refine Below.alloc ?_ ?_ _)); all_goals first | (simp; done) | (simp; omega) | omega))).mono ?_
    rintro e w4 ⟨cs4, rfl, ho4, h4⟩
    have B4 : Below w.heap.size w w4 := Below.trans (by (repeat (first | with_reducible exact Below.refl _ _ | with_reducible assumption | with_reducible refine Below.drew ?_ | with_reducible refine Below.setCell ?_ ?_ _ | with_reducible refine Below.alloc ?_ ?_ _)); all_goals first | (simp; done) | (simp; omega) | omega) (h4.mono (by first | (simp; done) | (simp; omega) | omega))
    have S4 := h4.size
    have T4 := B4.size
    try simp at S4
    obtain ⟨k4, f4⟩ := A6 h4
    try simp at k4
    try simp at f4
    have Hc4 := Lib.hid h4
    clear h4
    have u4_0 : w.heap.size < w4.heap.size := by omega
    have u4_1 : w.heap.size + 1 < w4.heap.size := by omega
    obtain ⟨x1, y1_, x2, y2_, x3, y3_, rfl⟩ := Di ho4.rd
    have O4 := Lib.hid ho4
    clear ho4
    have qs : ∀ i, i < 7 → (w4.cell? ⟨w.heap.size + 1, 0 + i, none⟩).isSome = true := fun i hi => by
      have : i = 0 ∨ i = 1 ∨ i = 2 ∨ i = 3 ∨ i = 4 ∨ i = 5 ∨ i = 6 := by omega
      rcases this with rfl | rfl | rfl | rfl | rfl | rfl | rfl <;> go_simp
    have q0 : (((((((w4.setCell ⟨w.heap.size + 1, 0, none⟩ (.int .i64 s.low.1)).setCell ⟨w.heap.size + 1, 1, none⟩ (.int .i64 s.low.2)).setCell ⟨w.heap.size + 1, 2, none⟩ (.int .i64 s.high.1)).setCell ⟨w.heap.size + 1, 3, none⟩ (.int .i64 s.high.2)).setCell ⟨w.heap.size + 1, 4, none⟩ (.slice x1 (AA s.robot).length y1_)).setCell ⟨w.heap.size + 1, 5, none⟩ (.slice x2 (AB s.obst).length y2_)).setCell ⟨w.heap.size + 1, 6, none⟩ (.slice x3 (AA s.tables).length y3_)).cell? ⟨w.heap.size + 1, 0, none⟩ = some (.int .i64 s.low.1) := (by have q := AN (w.heap.size + 1) [.int .i64 s.low.1, .int .i64 s.low.2, .int .i64 s.high.1, .int .i64 s.high.2, .slice x1 (AA s.robot).length y1_, .slice x2 (AB s.obst).length y2_, .slice x3 (AA s.tables).length y3_] w4 0 qs 0 (by simp); rw [Nat.zero_add] at q; exact q); have q1 : (((((((w4.setCell ⟨w.heap.size + 1, 0, none⟩ (.int .i64 s.low.1)).setCell ⟨w.heap.size + 1, 1, none⟩ (.int .i64 s.low.2)).setCell ⟨w.heap.size + 1, 2, none⟩ (.int .i64 s.high.1)).setCell ⟨w.heap.size + 1, 3, none⟩ (.int .i64 s.high.2)).setCell ⟨w.heap.size + 1, 4, none⟩ (.slice x1 (AA s.robot).length y1_)).setCell ⟨w.heap.size + 1, 5, none⟩ (.slice x2 (AB s.obst).length y2_)).setCell ⟨w.heap.size + 1, 6, none⟩ (.slice x3 (AA s.tables).length y3_)).cell? ⟨w.heap.size + 1, 1, none⟩ = some (.int .i64 s.low.2) := (by have q := AN (w.heap.size + 1) [.int .i64 s.low.1, .int .i64 s.low.2, .int .i64 s.high.1, .int .i64 s.high.2, .slice x1 (AA s.robot).length y1_, .slice x2 (AB s.obst).length y2_, .slice x3 (AA s.tables).length y3_] w4 0 qs 1 (by simp); rw [Nat.zero_add] at q; exact q); have q2 : (((((((w4.setCell ⟨w.heap.size + 1, 0, none⟩ (.int .i64 s.low.1)).setCell ⟨w.heap.size + 1, 1, none⟩ (.int .i64 s.low.2)).setCell ⟨w.heap.size + 1, 2, none⟩ (.int .i64 s.high.1)).setCell ⟨w.heap.size + 1, 3, none⟩ (.int .i64 s.high.2)).setCell ⟨w.heap.size + 1, 4, none⟩ (.slice x1 (AA s.robot).length y1_)).setCell ⟨w.heap.size + 1, 5, none⟩ (.slice x2 (AB s.obst).length y2_)).setCell ⟨w.heap.size + 1, 6, none⟩ (.slice x3 (AA s.tables).length y3_)).cell? ⟨w.heap.size + 1, 2, none⟩ = some (.int .i64 s.high.1) := (by have q := AN (w.heap.size + 1) [.int .i64 s.low.1, .int .i64 s.low.2, .int .i64 s.high.1, .int .i64 s.high.2, .slice x1 (AA s.robot).length y1_, .slice x2 (AB s.obst).length y2_, .slice x3 (AA s.tables).length y3_] w4 0 qs 2 (by simp); rw [Nat.zero_add] at q; exact q); have q3 : (((((((w4.setCell ⟨w.heap.size + 1, 0, none⟩ (.int .i64 s.low.1)).setCell ⟨w.heap.size + 1, 1, none⟩ (.int .i64 s.low.2)).setCell ⟨w.heap.size + 1, 2, none⟩ (.int .i64 s.high.1)).setCell ⟨w.heap.size + 1, 3, none⟩ (.int .i64 s.high.2)).setCell ⟨w.heap.size + 1, 4, none⟩ (.slice x1 (AA s.robot).length y1_)).setCell ⟨w.heap.size + 1, 5, none⟩ (.slice x2 (AB s.obst).length y2_)).setCell ⟨w.heap.size + 1, 6, none⟩ (.slice x3 (AA s.tables).length y3_)).cell? ⟨w.heap.size + 1, 3, none⟩ = some (.int .i64 s.high.2) := (by have q := AN (w.heap.size + 1) [.int .i64 s.low.1, .int .i64 s.low.2, .int .i64 s.high.1, .int .i64 s.high.2, .slice x1 (AA s.robot).length y1_, .slice x2 (AB s.obst).length y2_, .slice x3 (AA s.tables).length y3_] w4 0 qs 3 (by simp); rw [Nat.zero_add] at q; exact q); have q4 : (((((((w4.setCell ⟨w.heap.size + 1, 0, none⟩ (.int .i64 s.low.1)).setCell ⟨w.heap.size + 1, 1, none⟩ (.int .i64 s.low.2)).setCell ⟨w.heap.size + 1, 2, none⟩ (.int .i64 s.high.1)).setCell ⟨w.heap.size + 1, 3, none⟩ (.int .i64 s.high.2)).setCell ⟨w.heap.size + 1, 4, none⟩ (.slice x1 (AA s.robot).length y1_)).setCell ⟨w.heap.size + 1, 5, none⟩ (.slice x2 (AB s.obst).length y2_)).setCell ⟨w.heap.size + 1, 6, none⟩ (.slice x3 (AA s.tables).length y3_)).cell? ⟨w.heap.size + 1, 4, none⟩ = some (.slice x1 (AA s.robot).length y1_) := (by have q := AN (w.heap.size + 1) [.int .i64 s.low.1, .int .i64 s.low.2, .int .i64 s.high.1, .int .i64 s.high.2, .slice x1 (AA s.robot).length y1_, .slice x2 (AB s.obst).length y2_, .slice x3 (AA s.tables).length y3_] w4 0 qs 4 (by simp); rw [Nat.zero_add] at q; exact q); have q5 : (((((((w4.setCell ⟨w.heap.size + 1, 0, none⟩ (.int .i64 s.low.1)).setCell ⟨w.heap.size + 1, 1, none⟩ (.int .i64 s.low.2)).setCell ⟨w.heap.size + 1, 2, none⟩ (.int .i64 s.high.1)).setCell ⟨w.heap.size + 1, 3, none⟩ (.int .i64 s.high.2)).setCell ⟨w.heap.size + 1, 4, none⟩ (.slice x1 (AA s.robot).length y1_)).setCell ⟨w.heap.size + 1, 5, none⟩ (.slice x2 (AB s.obst).length y2_)).setCell ⟨w.heap.size + 1, 6, none⟩ (.slice x3 (AA s.tables).length y3_)).cell? ⟨w.heap.size + 1, 5, none⟩ = some (.slice x2 (AB s.obst).length y2_) := (by have q := AN (w.heap.size + 1) [.int .i64 s.low.1, .int .i64 s.low.2, .int .i64 s.high.1, .int .i64 s.high.2, .slice x1 (AA s.robot).length y1_, .slice x2 (AB s.obst).length y2_, .slice x3 (AA s.tables).length y3_] w4 0 qs 5 (by simp); rw [Nat.zero_add] at q; exact q); have q6 : (((((((w4.setCell ⟨w.heap.size + 1, 0, none⟩ (.int .i64 s.low.1)).setCell ⟨w.heap.size + 1, 1, none⟩ (.int .i64 s.low.2)).setCell ⟨w.heap.size + 1, 2, none⟩ (.int .i64 s.high.1)).setCell ⟨w.heap.size + 1, 3, none⟩ (.int .i64 s.high.2)).setCell ⟨w.heap.size + 1, 4, none⟩ (.slice x1 (AA s.robot).length y1_)).setCell ⟨w.heap.size + 1, 5, none⟩ (.slice x2 (AB s.obst).length y2_)).setCell ⟨w.heap.size + 1, 6, none⟩ (.slice x3 (AA s.tables).length y3_)).cell? ⟨w.heap.size + 1, 6, none⟩ = some (.slice x3 (AA s.tables).length y3_) := (by have q := AN (w.heap.size + 1) [.int .i64 s.low.1, .int .i64 s.low.2, .int .i64 s.high.1, .int .i64 s.high.2, .slice x1 (AA s.robot).length y1_, .slice x2 (AB s.obst).length y2_, .slice x3 (AA s.tables).length y3_] w4 0 qs 6 (by simp); rw [Nat.zero_add] at q; exact q)
    have HQ := Lib.hid (And.intro q0 (And.intro q1 (And.intro q2 (And.intro q3 (And.intro q4 (And.intro q5 q6))))))
    clear q0 q1 q2 q3 q4 q5 q6 qs
    go_wp2
    obtain ⟨q0, q1, q2, q3, q4, q5, q6⟩ := HQ.out
    refine bodyPost_ret (v := .tuple #[.agg #[.int .i64 s.low.1, .int .i64 s.low.2, .int .i64 s.high.1, .int .i64 s.high.2, .slice x1 (AA s.robot).length y1_, .slice x2 (AB s.obst).length y2_, .slice x3 (AA s.tables).length y3_], .bool false]) (by simp [results, Tryz.results19, go_sem, q0, q1, q2, q3, q4, q5, q6]) rfl ⟨_, rfl, ?_, ?_⟩
    · have hr : res = s := HRES.out.symm
      rw [hr]
      refine Own.mono (lo := w3.heap.size) (hi := w4.heap.size) ?_ (by omega) (by simp only [World.size_setCell]; omega)
      refine O4.out.only (S := fun b => b = w.heap.size + 1) ?_ (fun k hk => .inl (by subst hk; omega))
      · repeat (first | with_reducible exact OnlyIn.refl _ _ | with_reducible refine OnlyIn.setCell ?_ ?_ _)
        all_goals rfl
    · exact (by (repeat (first | with_reducible exact Below.refl _ _ | with_reducible assumption | with_reducible refine Below.drew ?_ | with_reducible refine Below.setCell ?_ ?_ _ | with_reducible refine Below.alloc ?_ ?_ _)); all_goals first | (simp; done) | (simp; omega) | omega)
end Go.Proofs.YtmekciknfocmmaaGreatDoor
namespace Go.Proofs.YtmekciknfocmmaaGreatDoor
set_option maxRecDepth 100000
open Go.RowKit
attribute [local go_sem ↓] Go.wp_at_zero Go.wp_at_succ
theorem KC (s:Scn) (h1:s.robot.length<=1048576) (h2:s.obst.length<=1048576) (h3:∀ x ∈ s.obst,x.length<=1048576) (h4:s.tables.length<=1048576) (l:List (List V2)) (h5:l.length<=1048576) (h6:∀ x ∈ l,x.length<=1048576) (hok:AG (AQ s l)=true) (v u:Value) (w:World) (hv:SceneAt w v s) (hu:VecSSAt w u l) :
  Calls Tryz.prog 19 #[v,u] w (Hq w (AQ s l) true):=by
 have h:=Qv s h1 h2 h3 h4 l h5 h6 v u w hv hu
 rw [hok,if_pos rfl] at h
 exact h
theorem MF {s:Scn} (n:Nat) (h:AG s=true):AG (AQ s (s.obst.eraseIdx n))=true:=by
 have hl:(s.obst.eraseIdx n).length<=s.obst.length:=by rw [List.length_eraseIdx];split <;> omega
 have hs:∀ x ∈ s.obst.eraseIdx n,x ∈ s.obst:=λ x hx=>List.mem_of_mem_eraseIdx hx
 simp only [AG,Bool.and_eq_true] at h ⊢
 refine ⟨h.1,⟨⟨List.all_eq_true.2 (λ x hx=>List.all_eq_true.1 h.2.1.1.1 x (hs x hx)),?_⟩,h.2.1.2⟩,h.2.2⟩
 have q:=of_decide_eq_true h.2.1.1.2
 exact decide_eq_true (Nat.le_trans hl q)
def BP (s:Scn) (k:Int):Scn:=if CO s k=true then AQ s (s.obst.eraseIdx k.toNat) else s
theorem PS {w0 w:World} {g cap n:Nat} {vs:List Value} {l:List (List V2)} (hl:vs.length=l.length) (hn:n<l.length) (hv:∀ k,k<l.length->VecsAt w0 (vs.getD k undef) (l.getD k [])) (hb:Below w0.heap.size w0 w) (hg:g<w.heap.size) (hcap:vs.length<=cap) (hc2:cap<=maxLen)
  (hc:∀ j,j<vs.length-1->w.cell? ⟨g,j,none⟩=(vs.eraseIdx n)[j]?):VecSSAt w (.slice (some ⟨g,0,none⟩) (n+(vs.length-(n+1))) cap) (l.eraseIdx n):=by
 have e1:(vs.eraseIdx n).length=vs.length-1:=by rw [List.length_eraseIdx,if_pos (by omega)]
 have e2:(l.eraseIdx n).length=l.length-1:=by rw [List.length_eraseIdx,if_pos hn]
 refine ⟨vs.eraseIdx n,⟨some ⟨g,0,none⟩,cap,?_,by simp [e1];omega,hc2,by simp,.inr ⟨g,0,rfl,hg,λ j hj i hi=>?_⟩⟩,by omega,λ k hk=>?_⟩
 ·simp only [List.length_map,e1];congr 1;omega
 ·obtain rfl:i=0:=by omega
  simp only [List.length_map,e1] at hj
  have h:=hc j hj
  simp only [Nat.zero_add,Nat.mul_one,Nat.add_zero]
  rw [h]
  simp [List.getD,show j<(vs.eraseIdx n).length by omega]
 ·have e3:(vs.eraseIdx n).getD k undef=vs.getD (if k<n then k else k+1) undef:=by
   simp only [List.getD,List.getElem?_eraseIdx];split <;> rfl
  have e4:(l.eraseIdx n).getD k []=l.getD (if k<n then k else k+1) []:=by
   simp only [List.getD,List.getElem?_eraseIdx];split <;> rfl
  rw [e3,e4]
  exact (hv _ (by split <;> omega)).below hb
set_option maxHeartbeats 4000000 in
theorem Gg (s : Scn) (h1 : s.robot.length ≤ 1048576) (h2 : s.obst.length ≤ 1048576) (h3 : ∀ x ∈ s.obst, x.length ≤ 1048576) (h4 : s.tables.length ≤ 1048576) (k : Int) (v : Value) (w : World) (hv : SceneAt w v s) :
    Calls Tryz.prog 9 #[v, .int .i64 k] w (Hq w (BP s k) (CO s k)) := by
  have HV := Lib.hid hv
  obtain ⟨r, o, t, rfl, hr, ho, ht⟩ := hv
  have HO := Lib.hid ho
  obtain ⟨ra, rcap, rfl, _, _, _⟩ := hr.open
  obtain ⟨oa, ocap, rfl, _, _, _⟩ := ho.open
  obtain ⟨ta, tcap, rfl, _, _, _⟩ := ht.open
  clear hr ho ht
  have H3 := Lib.hid h3
  clear h3
  obtain ⟨res, hres⟩ : ∃ r, BP s k = r := ⟨_, rfl⟩
  obtain ⟨ok, hok⟩ : ∃ ok, CO s k = ok := ⟨_, rfl⟩
  rw [hres, hok]
  have HRK := Lib.hid hres
  have HOK := Lib.hid hok
  clear hres hok
  cases ok with
  | false =>
    have HRES : Hid (s = res) := Lib.hid (by have h := HRK.out; unfold BP at h; rw [HOK.out] at h; simpa using h)
    go_enter Tryz.func9, Tryz.ntmps9
    go_wp2_with fail
    refine (E8 s k h2 _ _ (HV.out.below (by (repeat (first | with_reducible exact Below.refl _ _ | with_reducible assumption | with_reducible refine Below.drew ?_ | with_reducible refine Below.setCell ?_ ?_ _ | with_reducible refine Below.alloc ?_ ?_ _)); all_goals first | (simp; done) | (simp; omega) | omega))).mono ?_
    rintro e w1 ⟨rfl, h1⟩
    have B1 : Below w.heap.size w w1 := Below.trans (by (repeat (first | with_reducible exact Below.refl _ _ | with_reducible assumption | with_reducible refine Below.drew ?_ | with_reducible refine Below.setCell ?_ ?_ _ | with_reducible refine Below.alloc ?_ ?_ _)); all_goals first | (simp; done) | (simp; omega) | omega) (h1.mono (by first | (simp; done) | (simp; omega) | omega))
    have S1 := h1.size
    have T1 := B1.size
    try simp at S1
    obtain ⟨k1, f1⟩ := A6 h1
    try simp at k1
    try simp at f1
    have Hc1 := Lib.hid h1
    clear h1
    have u1_0 : w.heap.size < w1.heap.size := by omega
    have u1_1 : w.heap.size + 1 < w1.heap.size := by omega
    rw [HOK.out]
    go_wp2_with fail
    refine (FN s h1 h2 H3.out h4 _ _ (HV.out.below (by (repeat (first | with_reducible exact Below.refl _ _ | with_reducible assumption | with_reducible refine Below.drew ?_ | with_reducible refine Below.setCell ?_ ?_ _ | with_reducible refine Below.alloc ?_ ?_ _)); all_goals first | (simp; done) | (simp; omega) | omega))).mono ?_
    rintro e w4 ⟨cs4, rfl, ho4, h4⟩
    have B4 : Below w.heap.size w w4 := Below.trans (by (repeat (first | with_reducible exact Below.refl _ _ | with_reducible assumption | with_reducible refine Below.drew ?_ | with_reducible refine Below.setCell ?_ ?_ _ | with_reducible refine Below.alloc ?_ ?_ _)); all_goals first | (simp; done) | (simp; omega) | omega) (h4.mono (by first | (simp; done) | (simp; omega) | omega))
    have S4 := h4.size
    have T4 := B4.size
    try simp at S4
    obtain ⟨k4, f4⟩ := A6 h4
    try simp at k4
    try simp at f4
    have Hc4 := Lib.hid h4
    clear h4
    have u4_0 : w.heap.size < w4.heap.size := by omega
    have u4_1 : w.heap.size + 1 < w4.heap.size := by omega
    obtain ⟨x1, y1_, x2, y2_, x3, y3_, rfl⟩ := Di ho4.rd
    have O4 := Lib.hid ho4
    clear ho4
    have qs : ∀ i, i < 7 → (w4.cell? ⟨w.heap.size + 1, 0 + i, none⟩).isSome = true := fun i hi => by
      have : i = 0 ∨ i = 1 ∨ i = 2 ∨ i = 3 ∨ i = 4 ∨ i = 5 ∨ i = 6 := by omega
      rcases this with rfl | rfl | rfl | rfl | rfl | rfl | rfl <;> go_simp
    have q0 : (((((((w4.setCell ⟨w.heap.size + 1, 0, none⟩ (.int .i64 s.low.1)).setCell ⟨w.heap.size + 1, 1, none⟩ (.int .i64 s.low.2)).setCell ⟨w.heap.size + 1, 2, none⟩ (.int .i64 s.high.1)).setCell ⟨w.heap.size + 1, 3, none⟩ (.int .i64 s.high.2)).setCell ⟨w.heap.size + 1, 4, none⟩ (.slice x1 (AA s.robot).length y1_)).setCell ⟨w.heap.size + 1, 5, none⟩ (.slice x2 (AB s.obst).length y2_)).setCell ⟨w.heap.size + 1, 6, none⟩ (.slice x3 (AA s.tables).length y3_)).cell? ⟨w.heap.size + 1, 0, none⟩ = some (.int .i64 s.low.1) := (by have q := AN (w.heap.size + 1) [.int .i64 s.low.1, .int .i64 s.low.2, .int .i64 s.high.1, .int .i64 s.high.2, .slice x1 (AA s.robot).length y1_, .slice x2 (AB s.obst).length y2_, .slice x3 (AA s.tables).length y3_] w4 0 qs 0 (by simp); rw [Nat.zero_add] at q; exact q); have q1 : (((((((w4.setCell ⟨w.heap.size + 1, 0, none⟩ (.int .i64 s.low.1)).setCell ⟨w.heap.size + 1, 1, none⟩ (.int .i64 s.low.2)).setCell ⟨w.heap.size + 1, 2, none⟩ (.int .i64 s.high.1)).setCell ⟨w.heap.size + 1, 3, none⟩ (.int .i64 s.high.2)).setCell ⟨w.heap.size + 1, 4, none⟩ (.slice x1 (AA s.robot).length y1_)).setCell ⟨w.heap.size + 1, 5, none⟩ (.slice x2 (AB s.obst).length y2_)).setCell ⟨w.heap.size + 1, 6, none⟩ (.slice x3 (AA s.tables).length y3_)).cell? ⟨w.heap.size + 1, 1, none⟩ = some (.int .i64 s.low.2) := (by have q := AN (w.heap.size + 1) [.int .i64 s.low.1, .int .i64 s.low.2, .int .i64 s.high.1, .int .i64 s.high.2, .slice x1 (AA s.robot).length y1_, .slice x2 (AB s.obst).length y2_, .slice x3 (AA s.tables).length y3_] w4 0 qs 1 (by simp); rw [Nat.zero_add] at q; exact q); have q2 : (((((((w4.setCell ⟨w.heap.size + 1, 0, none⟩ (.int .i64 s.low.1)).setCell ⟨w.heap.size + 1, 1, none⟩ (.int .i64 s.low.2)).setCell ⟨w.heap.size + 1, 2, none⟩ (.int .i64 s.high.1)).setCell ⟨w.heap.size + 1, 3, none⟩ (.int .i64 s.high.2)).setCell ⟨w.heap.size + 1, 4, none⟩ (.slice x1 (AA s.robot).length y1_)).setCell ⟨w.heap.size + 1, 5, none⟩ (.slice x2 (AB s.obst).length y2_)).setCell ⟨w.heap.size + 1, 6, none⟩ (.slice x3 (AA s.tables).length y3_)).cell? ⟨w.heap.size + 1, 2, none⟩ = some (.int .i64 s.high.1) := (by have q := AN (w.heap.size + 1) [.int .i64 s.low.1, .int .i64 s.low.2, .int .i64 s.high.1, .int .i64 s.high.2, .slice x1 (AA s.robot).length y1_, .slice x2 (AB s.obst).length y2_, .slice x3 (AA s.tables).length y3_] w4 0 qs 2 (by simp); rw [Nat.zero_add] at q; exact q); have q3 : (((((((w4.setCell ⟨w.heap.size + 1, 0, none⟩ (.int .i64 s.low.1)).setCell ⟨w.heap.size + 1, 1, none⟩ (.int .i64 s.low.2)).setCell ⟨w.heap.size + 1, 2, none⟩ (.int .i64 s.high.1)).setCell ⟨w.heap.size + 1, 3, none⟩ (.int .i64 s.high.2)).setCell ⟨w.heap.size + 1, 4, none⟩ (.slice x1 (AA s.robot).length y1_)).setCell ⟨w.heap.size + 1, 5, none⟩ (.slice x2 (AB s.obst).length y2_)).setCell ⟨w.heap.size + 1, 6, none⟩ (.slice x3 (AA s.tables).length y3_)).cell? ⟨w.heap.size + 1, 3, none⟩ = some (.int .i64 s.high.2) := (by have q := AN (w.heap.size + 1) [.int .i64 s.low.1, .int .i64 s.low.2, .int .i64 s.high.1, .int .i64 s.high.2, .slice x1 (AA s.robot).length y1_, .slice x2 (AB s.obst).length y2_, .slice x3 (AA s.tables).length y3_] w4 0 qs 3 (by simp); rw [Nat.zero_add] at q; exact q); have q4 : (((((((w4.setCell ⟨w.heap.size + 1, 0, none⟩ (.int .i64 s.low.1)).setCell ⟨w.heap.size + 1, 1, none⟩ (.int .i64 s.low.2)).setCell ⟨w.heap.size + 1, 2, none⟩ (.int .i64 s.high.1)).setCell ⟨w.heap.size + 1, 3, none⟩ (.int .i64 s.high.2)).setCell ⟨w.heap.size + 1, 4, none⟩ (.slice x1 (AA s.robot).length y1_)).setCell ⟨w.heap.size + 1, 5, none⟩ (.slice x2 (AB s.obst).length y2_)).setCell ⟨w.heap.size + 1, 6, none⟩ (.slice x3 (AA s.tables).length y3_)).cell? ⟨w.heap.size + 1, 4, none⟩ = some (.slice x1 (AA s.robot).length y1_) := (by have q := AN (w.heap.size + 1) [.int .i64 s.low.1, .int .i64 s.low.2, .int .i64 s.high.1, .int .i64 s.high.2, .slice x1 (AA s.robot).length y1_, .slice x2 (AB s.obst).length y2_, .slice x3 (AA s.tables).length y3_] w4 0 qs 4 (by simp); rw [Nat.zero_add] at q; exact q); have q5 : (((((((w4.setCell ⟨w.heap.size + 1, 0, none⟩ (.int .i64 s.low.1)).setCell ⟨w.heap.size + 1, 1, none⟩ (.int .i64 s.low.2)).setCell ⟨w.heap.size + 1, 2, none⟩ (.int .i64 s.high.1)).setCell ⟨w.heap.size + 1, 3, none⟩ (.int .i64 s.high.2)).setCell ⟨w.heap.size + 1, 4, none⟩ (.slice x1 (AA s.robot).length y1_)).setCell ⟨w.heap.size + 1, 5, none⟩ (.slice x2 (AB s.obst).length y2_)).setCell ⟨w.heap.size + 1, 6, none⟩ (.slice x3 (AA s.tables).length y3_)).cell? ⟨w.heap.size + 1, 5, none⟩ = some (.slice x2 (AB s.obst).length y2_) := (by have q := AN (w.heap.size + 1) [.int .i64 s.low.1, .int .i64 s.low.2, .int .i64 s.high.1, .int .i64 s.high.2, .slice x1 (AA s.robot).length y1_, .slice x2 (AB s.obst).length y2_, .slice x3 (AA s.tables).length y3_] w4 0 qs 5 (by simp); rw [Nat.zero_add] at q; exact q); have q6 : (((((((w4.setCell ⟨w.heap.size + 1, 0, none⟩ (.int .i64 s.low.1)).setCell ⟨w.heap.size + 1, 1, none⟩ (.int .i64 s.low.2)).setCell ⟨w.heap.size + 1, 2, none⟩ (.int .i64 s.high.1)).setCell ⟨w.heap.size + 1, 3, none⟩ (.int .i64 s.high.2)).setCell ⟨w.heap.size + 1, 4, none⟩ (.slice x1 (AA s.robot).length y1_)).setCell ⟨w.heap.size + 1, 5, none⟩ (.slice x2 (AB s.obst).length y2_)).setCell ⟨w.heap.size + 1, 6, none⟩ (.slice x3 (AA s.tables).length y3_)).cell? ⟨w.heap.size + 1, 6, none⟩ = some (.slice x3 (AA s.tables).length y3_) := (by have q := AN (w.heap.size + 1) [.int .i64 s.low.1, .int .i64 s.low.2, .int .i64 s.high.1, .int .i64 s.high.2, .slice x1 (AA s.robot).length y1_, .slice x2 (AB s.obst).length y2_, .slice x3 (AA s.tables).length y3_] w4 0 qs 6 (by simp); rw [Nat.zero_add] at q; exact q)
    have HQ := Lib.hid (And.intro q0 (And.intro q1 (And.intro q2 (And.intro q3 (And.intro q4 (And.intro q5 q6))))))
    clear q0 q1 q2 q3 q4 q5 q6 qs
    go_wp2
    obtain ⟨q0, q1, q2, q3, q4, q5, q6⟩ := HQ.out
    refine bodyPost_ret (v := .tuple #[.agg #[.int .i64 s.low.1, .int .i64 s.low.2, .int .i64 s.high.1, .int .i64 s.high.2, .slice x1 (AA s.robot).length y1_, .slice x2 (AB s.obst).length y2_, .slice x3 (AA s.tables).length y3_], .bool false]) (by simp [results, Tryz.results9, go_sem, q0, q1, q2, q3, q4, q5, q6]) rfl ⟨_, rfl, ?_, ?_⟩
    · have hr : res = s := HRES.out.symm
      rw [hr]
      refine Own.mono (lo := w1.heap.size) (hi := w4.heap.size) ?_ (by omega) (by simp only [World.size_setCell]; omega)
      refine O4.out.only (S := fun b => b = w.heap.size + 1) ?_ (fun k hk => .inl (by subst hk; omega))
      · repeat (first | with_reducible exact OnlyIn.refl _ _ | with_reducible refine OnlyIn.setCell ?_ ?_ _)
        all_goals rfl
    · exact (by (repeat (first | with_reducible exact Below.refl _ _ | with_reducible assumption | with_reducible refine Below.drew ?_ | with_reducible refine Below.setCell ?_ ?_ _ | with_reducible refine Below.alloc ?_ ?_ _)); all_goals first | (simp; done) | (simp; omega) | omega)
  | true =>
    have hkn : 0 ≤ k ∧ k ≤ (s.obst.length : Int) - 1 := by
      have h := HOK.out
      unfold CO at h
      rw [Bool.and_eq_true] at h
      exact BM.1 h.2
    obtain ⟨n, rfl⟩ : ∃ n : Nat, k = (n : Int) := ⟨k.toNat, by omega⟩
    have hn : n < s.obst.length := by omega
    clear hkn
    have HRES : Hid (AQ s (s.obst.eraseIdx n) = res) := Lib.hid (by have h := HRK.out; unfold BP at h; rw [HOK.out] at h; simpa using h)
    have HVE : Hid (AG (AQ s (s.obst.eraseIdx n)) = true) := MF n (by have h := HOK.out; unfold CO at h; rw [Bool.and_eq_true] at h; exact h.1)
    have HEL : Hid ((s.obst.eraseIdx n).length ≤ 1048576 ∧ ∀ x ∈ s.obst.eraseIdx n, x.length ≤ 1048576) := ⟨by rw [List.length_eraseIdx]; split <;> omega, fun x hx => H3.out x (List.mem_of_mem_eraseIdx hx)⟩
    go_enter Tryz.func9, Tryz.ntmps9
    go_wp2_with fail
    refine (E8 s n h2 _ _ (HV.out.below (by (repeat (first | with_reducible exact Below.refl _ _ | with_reducible assumption | with_reducible refine Below.drew ?_ | with_reducible refine Below.setCell ?_ ?_ _ | with_reducible refine Below.alloc ?_ ?_ _)); all_goals first | (simp; done) | (simp; omega) | omega))).mono ?_
    rintro e w1 ⟨rfl, h1⟩
    have B1 : Below w.heap.size w w1 := Below.trans (by (repeat (first | with_reducible exact Below.refl _ _ | with_reducible assumption | with_reducible refine Below.drew ?_ | with_reducible refine Below.setCell ?_ ?_ _ | with_reducible refine Below.alloc ?_ ?_ _)); all_goals first | (simp; done) | (simp; omega) | omega) (h1.mono (by first | (simp; done) | (simp; omega) | omega))
    have S1 := h1.size
    have T1 := B1.size
    try simp at S1
    obtain ⟨k1, f1⟩ := A6 h1
    try simp at k1
    try simp at f1
    have Hc1 := Lib.hid h1
    clear h1
    have u1_0 : w.heap.size < w1.heap.size := by omega
    have u1_1 : w.heap.size + 1 < w1.heap.size := by omega
    rw [HOK.out]
    have hwr : IntKind.i64.wrap ((n : Int) + 1) = (n : Int) + 1 := by rw [IntKind.wrap_i64]; omega
    go_wp2
    go_region_held3 (fun w' => w'.cell? ⟨w.heap.size, 0, none⟩ = some (.int .i64 s.low.1) ∧ w'.cell? ⟨w.heap.size, 1, none⟩ = some (.int .i64 s.low.2) ∧ w'.cell? ⟨w.heap.size, 2, none⟩ = some (.int .i64 s.high.1) ∧ w'.cell? ⟨w.heap.size, 3, none⟩ = some (.int .i64 s.high.2) ∧ w'.cell? ⟨w.heap.size, 4, none⟩ = some (.slice ra s.robot.length rcap) ∧ w'.cell? ⟨w.heap.size, 5, none⟩ = some (.slice oa s.obst.length ocap) ∧ w'.cell? ⟨w.heap.size, 6, none⟩ = some (.slice ta s.tables.length tcap)) ((refine ⟨?_, ?_, ?_, ?_, ?_, ?_, ?_⟩ <;> go_simp))
      (first
        | (go_at_call 25
           (with_reducible refine (PR s.obst h2 _ _ ?_).mono ?_)
           · exact HO.out.below (by (repeat (first | with_reducible exact Below.refl _ _ | with_reducible assumption | with_reducible refine Below.drew ?_ | with_reducible refine Below.setCell ?_ ?_ _ | with_reducible refine Below.alloc ?_ ?_ _)); all_goals first | (simp; done) | (simp; omega) | omega)
           rintro e w2 ⟨v2, vs, rfl, hq, hvl, hone, hvs, hb2⟩
           obtain ⟨g, cap, cur, rfl, hg0, hh, hcp, hcm⟩ : ∃ g cap cur, v2 = .slice (some ⟨g, 0, none⟩) vs.length cap ∧ w1.heap.size ≤ g ∧ w2.heap[g]? = some (.cells cur 25 (0, 0)) ∧ vs.length ≤ cap ∧ cap ≤ maxLen := by
             rcases hq.2 with ⟨_, h0⟩ | ⟨g, cap, cur, a, b, c, d, e, _⟩
             · omega
             · exact ⟨g, cap, cur, a, b, c, d, e⟩
           have B2 : Below w.heap.size w w2 := Below.trans (by (repeat (first | with_reducible exact Below.refl _ _ | with_reducible assumption | with_reducible refine Below.drew ?_ | with_reducible refine Below.setCell ?_ ?_ _ | with_reducible refine Below.alloc ?_ ?_ _)); all_goals first | (simp; done) | (simp; omega) | omega) (hb2.mono (by first | (simp; done) | (simp; omega) | omega))
           obtain ⟨k2, f2⟩ := A6 hb2
           (try simp at k2)
           (try simp at f2)
           have z2 := hb2.size
           (try simp at z2)
           have u2_0 : w.heap.size < w2.heap.size := by omega
           have u2_1 : w.heap.size + 1 < w2.heap.size := by omega
           have hgl : g < w2.heap.size := (Array.getElem?_eq_some_iff.1 hh).1
           have Q2 := Lib.hid (And.intro hq (And.intro hvl (And.intro hone (And.intro hvs (And.intro hb2 hcm)))))
           have hnv : n < vs.length := by omega
           have DEL := Lib.hid (Ni vs g cap n _ hnv hone w2 hq)
           have hg1 : w.heap.size + 1 < g := by (try simp at hg0); omega
           have hg2 : ∀ b, b < w.heap.size + 1 + 1 → b ≠ g := fun b hb => by omega
           have hg3 : ∀ b, b < w.heap.size + 1 + 1 → b < w2.heap.size := fun b hb => by omega
           have HG := Lib.hid (And.intro hg2 hg3)
           clear hg2 hg3
           clear hq hone hvs hb2 hh hcm hvl)
        | (go_at_call 24
           (with_reducible refine DEL.out.mono ?_)
           rintro e w3 ⟨rfl, hc3, ho3⟩
           have B3 : Below w.heap.size w w3 := Below.trans (by (repeat (first | with_reducible exact Below.refl _ _ | with_reducible assumption | with_reducible refine Below.drew ?_ | with_reducible refine Below.setCell ?_ ?_ _ | with_reducible refine Below.alloc ?_ ?_ _)); all_goals first | (simp; done) | (simp; omega) | omega) (ho3.below (B := w.heap.size) (fun b hb => by subst hb; omega) (by omega))
           have k3 : ∀ b o, b < w.heap.size + 1 + 1 → w3.cell? ⟨b, o, none⟩ = w2.cell? ⟨b, o, none⟩ := fun b o hb => World.cell?_of_block (a := ⟨b, o, none⟩) (ho3.block b (HG.out.2 b hb) (HG.out.1 b hb))
           have f3 : ∀ b o, b < w.heap.size + 1 + 1 → w3.frozen? ⟨b, o, none⟩ = w2.frozen? ⟨b, o, none⟩ := fun b o hb => World.frozen?_of_block (a := ⟨b, o, none⟩) (ho3.block b (HG.out.2 b hb) (HG.out.1 b hb))
           have z3 := ho3.size
           have u3_0 : w.heap.size < w3.heap.size := by omega
           have u3_1 : w.heap.size + 1 < w3.heap.size := by omega
           have hb23 := (Q2.out.2.2.2.2.1).trans (OnlyIn.below ho3 (fun b hb => by subst hb; exact hg0) Q2.out.2.2.2.2.1.size)
           have E3 := Lib.hid (PS Q2.out.2.1 hn Q2.out.2.2.2.1 hb23 (Nat.lt_of_lt_of_le hgl ho3.size) hcp Q2.out.2.2.2.2.2 hc3)
           clear hb23
           have Q3 := Lib.hid (And.intro hc3 ho3)
           clear hc3 ho3)
        | (go_at_call 19
           (with_reducible refine (KC s h1 h2 H3.out h4 (s.obst.eraseIdx n) HEL.out.1 HEL.out.2 HVE.out _ _ _ ?_ ?_).mono ?_)
           · exact HV.out.below (by (repeat (first | with_reducible exact Below.refl _ _ | with_reducible assumption | with_reducible refine Below.drew ?_ | with_reducible refine Below.setCell ?_ ?_ _ | with_reducible refine Below.alloc ?_ ?_ _)); all_goals first | (simp; done) | (simp; omega) | omega)
           · exact E3.out
           rintro e w4 ⟨cs4, rfl, ho4, hb4⟩
           obtain ⟨x1, y1_, x2, y2_, x3, y3_, rfl⟩ : ∃ x1 y1_ x2 y2_ x3 y3_, cs4 = [.int .i64 s.low.1, .int .i64 s.low.2, .int .i64 s.high.1, .int .i64 s.high.2, .slice x1 (AA s.robot).length y1_, .slice x2 (AB (s.obst.eraseIdx n)).length y2_, .slice x3 (AA s.tables).length y3_] := Di ho4.rd
           have B4 : Below w.heap.size w w4 := Below.trans (by (repeat (first | with_reducible exact Below.refl _ _ | with_reducible assumption | with_reducible refine Below.drew ?_ | with_reducible refine Below.setCell ?_ ?_ _ | with_reducible refine Below.alloc ?_ ?_ _)); all_goals first | (simp; done) | (simp; omega) | omega) (hb4.mono (by first | (simp; done) | (simp; omega) | omega))
           obtain ⟨k4, f4⟩ := A6 hb4
           (try simp at k4)
           (try simp at f4)
           have z4 := hb4.size
           (try simp at z4)
           have u4_0 : w.heap.size < w4.heap.size := by omega
           have u4_1 : w.heap.size + 1 < w4.heap.size := by omega
           have Q4 := Lib.hid (And.intro ho4 hb4)
           clear ho4 hb4))
    have qs : ∀ i, i < 7 → (w4.cell? ⟨w.heap.size + 1, 0 + i, none⟩).isSome = true := fun i hi => by
      have : i = 0 ∨ i = 1 ∨ i = 2 ∨ i = 3 ∨ i = 4 ∨ i = 5 ∨ i = 6 := by omega
      rcases this with rfl | rfl | rfl | rfl | rfl | rfl | rfl <;> go_simp
    have q0 : (((((((w4.setCell ⟨w.heap.size + 1, 0, none⟩ (.int .i64 s.low.1)).setCell ⟨w.heap.size + 1, 1, none⟩ (.int .i64 s.low.2)).setCell ⟨w.heap.size + 1, 2, none⟩ (.int .i64 s.high.1)).setCell ⟨w.heap.size + 1, 3, none⟩ (.int .i64 s.high.2)).setCell ⟨w.heap.size + 1, 4, none⟩ (.slice x1 (AA s.robot).length y1_)).setCell ⟨w.heap.size + 1, 5, none⟩ (.slice x2 (AB (s.obst.eraseIdx n)).length y2_)).setCell ⟨w.heap.size + 1, 6, none⟩ (.slice x3 (AA s.tables).length y3_)).cell? ⟨w.heap.size + 1, 0, none⟩ = some (.int .i64 s.low.1) := (by have q := AN (w.heap.size + 1) [.int .i64 s.low.1, .int .i64 s.low.2, .int .i64 s.high.1, .int .i64 s.high.2, .slice x1 (AA s.robot).length y1_, .slice x2 (AB (s.obst.eraseIdx n)).length y2_, .slice x3 (AA s.tables).length y3_] w4 0 qs 0 (by simp); rw [Nat.zero_add] at q; exact q); have q1 : (((((((w4.setCell ⟨w.heap.size + 1, 0, none⟩ (.int .i64 s.low.1)).setCell ⟨w.heap.size + 1, 1, none⟩ (.int .i64 s.low.2)).setCell ⟨w.heap.size + 1, 2, none⟩ (.int .i64 s.high.1)).setCell ⟨w.heap.size + 1, 3, none⟩ (.int .i64 s.high.2)).setCell ⟨w.heap.size + 1, 4, none⟩ (.slice x1 (AA s.robot).length y1_)).setCell ⟨w.heap.size + 1, 5, none⟩ (.slice x2 (AB (s.obst.eraseIdx n)).length y2_)).setCell ⟨w.heap.size + 1, 6, none⟩ (.slice x3 (AA s.tables).length y3_)).cell? ⟨w.heap.size + 1, 1, none⟩ = some (.int .i64 s.low.2) := (by have q := AN (w.heap.size + 1) [.int .i64 s.low.1, .int .i64 s.low.2, .int .i64 s.high.1, .int .i64 s.high.2, .slice x1 (AA s.robot).length y1_, .slice x2 (AB (s.obst.eraseIdx n)).length y2_, .slice x3 (AA s.tables).length y3_] w4 0 qs 1 (by simp); rw [Nat.zero_add] at q; exact q); have q2 : (((((((w4.setCell ⟨w.heap.size + 1, 0, none⟩ (.int .i64 s.low.1)).setCell ⟨w.heap.size + 1, 1, none⟩ (.int .i64 s.low.2)).setCell ⟨w.heap.size + 1, 2, none⟩ (.int .i64 s.high.1)).setCell ⟨w.heap.size + 1, 3, none⟩ (.int .i64 s.high.2)).setCell ⟨w.heap.size + 1, 4, none⟩ (.slice x1 (AA s.robot).length y1_)).setCell ⟨w.heap.size + 1, 5, none⟩ (.slice x2 (AB (s.obst.eraseIdx n)).length y2_)).setCell ⟨w.heap.size + 1, 6, none⟩ (.slice x3 (AA s.tables).length y3_)).cell? ⟨w.heap.size + 1, 2, none⟩ = some (.int .i64 s.high.1) := (by have q := AN (w.heap.size + 1) [.int .i64 s.low.1, .int .i64 s.low.2, .int .i64 s.high.1, .int .i64 s.high.2, .slice x1 (AA s.robot).length y1_, .slice x2 (AB (s.obst.eraseIdx n)).length y2_, .slice x3 (AA s.tables).length y3_] w4 0 qs 2 (by simp); rw [Nat.zero_add] at q; exact q); have q3 : (((((((w4.setCell ⟨w.heap.size + 1, 0, none⟩ (.int .i64 s.low.1)).setCell ⟨w.heap.size + 1, 1, none⟩ (.int .i64 s.low.2)).setCell ⟨w.heap.size + 1, 2, none⟩ (.int .i64 s.high.1)).setCell ⟨w.heap.size + 1, 3, none⟩ (.int .i64 s.high.2)).setCell ⟨w.heap.size + 1, 4, none⟩ (.slice x1 (AA s.robot).length y1_)).setCell ⟨w.heap.size + 1, 5, none⟩ (.slice x2 (AB (s.obst.eraseIdx n)).length y2_)).setCell ⟨w.heap.size + 1, 6, none⟩ (.slice x3 (AA s.tables).length y3_)).cell? ⟨w.heap.size + 1, 3, none⟩ = some (.int .i64 s.high.2) := (by have q := AN (w.heap.size + 1) [.int .i64 s.low.1, .int .i64 s.low.2, .int .i64 s.high.1, .int .i64 s.high.2, .slice x1 (AA s.robot).length y1_, .slice x2 (AB (s.obst.eraseIdx n)).length y2_, .slice x3 (AA s.tables).length y3_] w4 0 qs 3 (by simp); rw [Nat.zero_add] at q; exact q); have q4 : (((((((w4.setCell ⟨w.heap.size + 1, 0, none⟩ (.int .i64 s.low.1)).setCell ⟨w.heap.size + 1, 1, none⟩ (.int .i64 s.low.2)).setCell ⟨w.heap.size + 1, 2, none⟩ (.int .i64 s.high.1)).setCell ⟨w.heap.size + 1, 3, none⟩ (.int .i64 s.high.2)).setCell ⟨w.heap.size + 1, 4, none⟩ (.slice x1 (AA s.robot).length y1_)).setCell ⟨w.heap.size + 1, 5, none⟩ (.slice x2 (AB (s.obst.eraseIdx n)).length y2_)).setCell ⟨w.heap.size + 1, 6, none⟩ (.slice x3 (AA s.tables).length y3_)).cell? ⟨w.heap.size + 1, 4, none⟩ = some (.slice x1 (AA s.robot).length y1_) := (by have q := AN (w.heap.size + 1) [.int .i64 s.low.1, .int .i64 s.low.2, .int .i64 s.high.1, .int .i64 s.high.2, .slice x1 (AA s.robot).length y1_, .slice x2 (AB (s.obst.eraseIdx n)).length y2_, .slice x3 (AA s.tables).length y3_] w4 0 qs 4 (by simp); rw [Nat.zero_add] at q; exact q); have q5 : (((((((w4.setCell ⟨w.heap.size + 1, 0, none⟩ (.int .i64 s.low.1)).setCell ⟨w.heap.size + 1, 1, none⟩ (.int .i64 s.low.2)).setCell ⟨w.heap.size + 1, 2, none⟩ (.int .i64 s.high.1)).setCell ⟨w.heap.size + 1, 3, none⟩ (.int .i64 s.high.2)).setCell ⟨w.heap.size + 1, 4, none⟩ (.slice x1 (AA s.robot).length y1_)).setCell ⟨w.heap.size + 1, 5, none⟩ (.slice x2 (AB (s.obst.eraseIdx n)).length y2_)).setCell ⟨w.heap.size + 1, 6, none⟩ (.slice x3 (AA s.tables).length y3_)).cell? ⟨w.heap.size + 1, 5, none⟩ = some (.slice x2 (AB (s.obst.eraseIdx n)).length y2_) := (by have q := AN (w.heap.size + 1) [.int .i64 s.low.1, .int .i64 s.low.2, .int .i64 s.high.1, .int .i64 s.high.2, .slice x1 (AA s.robot).length y1_, .slice x2 (AB (s.obst.eraseIdx n)).length y2_, .slice x3 (AA s.tables).length y3_] w4 0 qs 5 (by simp); rw [Nat.zero_add] at q; exact q); have q6 : (((((((w4.setCell ⟨w.heap.size + 1, 0, none⟩ (.int .i64 s.low.1)).setCell ⟨w.heap.size + 1, 1, none⟩ (.int .i64 s.low.2)).setCell ⟨w.heap.size + 1, 2, none⟩ (.int .i64 s.high.1)).setCell ⟨w.heap.size + 1, 3, none⟩ (.int .i64 s.high.2)).setCell ⟨w.heap.size + 1, 4, none⟩ (.slice x1 (AA s.robot).length y1_)).setCell ⟨w.heap.size + 1, 5, none⟩ (.slice x2 (AB (s.obst.eraseIdx n)).length y2_)).setCell ⟨w.heap.size + 1, 6, none⟩ (.slice x3 (AA s.tables).length y3_)).cell? ⟨w.heap.size + 1, 6, none⟩ = some (.slice x3 (AA s.tables).length y3_) := (by have q := AN (w.heap.size + 1) [.int .i64 s.low.1, .int .i64 s.low.2, .int .i64 s.high.1, .int .i64 s.high.2, .slice x1 (AA s.robot).length y1_, .slice x2 (AB (s.obst.eraseIdx n)).length y2_, .slice x3 (AA s.tables).length y3_] w4 0 qs 6 (by simp); rw [Nat.zero_add] at q; exact q)
    have HQ := Lib.hid (And.intro q0 (And.intro q1 (And.intro q2 (And.intro q3 (And.intro q4 (And.intro q5 q6))))))
    clear q0 q1 q2 q3 q4 q5 q6 qs
    go_wp2
    obtain ⟨q0, q1, q2, q3, q4, q5, q6⟩ := HQ.out
    refine bodyPost_ret (v := .tuple #[.agg #[.int .i64 s.low.1, .int .i64 s.low.2, .int .i64 s.high.1, .int .i64 s.high.2, .slice x1 (AA s.robot).length y1_, .slice x2 (AB (s.obst.eraseIdx n)).length y2_, .slice x3 (AA s.tables).length y3_], .bool true]) (by simp [results, Tryz.results9, go_sem, q0, q1, q2, q3, q4, q5, q6]) rfl ⟨_, rfl, ?_, ?_⟩
    · have hr : res = AQ s (s.obst.eraseIdx n) := HRES.out.symm
      rw [hr]
      refine Own.mono (lo := w3.heap.size) (hi := w4.heap.size) ?_ (by omega) (by simp only [World.size_setCell]; omega)
      refine Q4.out.1.only (S := fun b => b = w.heap.size + 1) ?_ (fun k hk => .inl (by subst hk; exact u3_1))
      · repeat (first | with_reducible exact OnlyIn.refl _ _ | with_reducible refine OnlyIn.setCell ?_ ?_ _)
        all_goals rfl
    · exact (by (repeat (first | with_reducible exact Below.refl _ _ | with_reducible assumption | with_reducible refine Below.drew ?_ | with_reducible refine Below.setCell ?_ ?_ _ | with_reducible refine Below.alloc ?_ ?_ _)); all_goals first | (simp; done) | (simp; omega) | omega)
end Go.Proofs.YtmekciknfocmmaaGreatDoor
