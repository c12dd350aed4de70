/-
  Contracts of the law's own comparisons of vectors, lists, scenes.
-/
import Derived.Test.YtemgpfojmdncjaaVec
import Derived.RegionTactic
import Derived.BigRegion
import Derived.Deep.RegionWith
namespace Go.Proofs.Ytemgpfojmdncjaa
open Go.RowKit

/-- Equality as a test, kept closed. -/
def eqB {α : Type} [DecidableEq α] (a b : α) : Bool := decide (a = b)
theorem eqB_true {α : Type} [DecidableEq α] {a b : α} (h : a = b) : eqB a b = true := by simp [eqB, h]
theorem eqB_false {α : Type} [DecidableEq α] {a b : α} (h : ¬ a = b) : eqB a b = false := by simp [eqB, h]
theorem eqB_of {α : Type} [DecidableEq α] {a b : α} (h : eqB a b = true) : a = b := by simpa [eqB] using h
theorem eqB_not {α : Type} [DecidableEq α] {a b : α} (h : eqB a b = false) : ¬ a = b := by simpa [eqB] using h

theorem eqVec_c (x y u v : Int) (w : World) : Calls Try.prog 60 #[.agg #[.int .i64 x, .int .i64 y], .agg #[.int .i64 u, .int .i64 v]] w fun e w' => e = .returned (.bool (eqB (x, y) (u, v))) ∧ Below w.heap.size w w' := by
  by_cases h1 : x = u
  · by_cases h2 : y = v
    · subst h1 h2
      have e : eqB (x, y) (x, y) = true := eqB_true rfl
      rw [e]; clear e
      go_enter Try.func60, Try.ntmps60
      go_wp2
      go_ret
      exact ⟨rfl, (by repeat (first | exact Below.refl _ _ | assumption | refine Below.drew ?_ | refine Below.setCell ?_ (by first | (simp; done) | (simp; omega) | omega) _ | refine Below.alloc ?_ (by first | (simp; done) | (simp; omega) | omega) _))⟩
    · have e : eqB (x, y) (u, v) = false := eqB_false (by simp [h2])
      rw [e]; clear e
      subst h1
      have h3 : (y != v) = true := by simp [h2]
      go_enter Try.func60, Try.ntmps60
      go_wp2
      go_ret
      exact ⟨rfl, (by repeat (first | exact Below.refl _ _ | assumption | refine Below.drew ?_ | refine Below.setCell ?_ (by first | (simp; done) | (simp; omega) | omega) _ | refine Below.alloc ?_ (by first | (simp; done) | (simp; omega) | omega) _))⟩
  · have e : eqB (x, y) (u, v) = false := eqB_false (by simp [h1])
    rw [e]; clear e
    have h3 : (x != u) = true := by simp [h1]
    go_enter Try.func60, Try.ntmps60
    go_wp2
    go_ret
    exact ⟨rfl, (by repeat (first | exact Below.refl _ _ | assumption | refine Below.drew ?_ | refine Below.setCell ?_ (by first | (simp; done) | (simp; omega) | omega) _ | refine Below.alloc ?_ (by first | (simp; done) | (simp; omega) | omega) _))⟩

theorem eq_take_snoc {α : Type} (l m : List α) (d : α) (k : Nat) (hk : k < l.length) (hm : k < m.length) (h : l.take k = m.take k) (he : l.getD k d = m.getD k d) : l.take (k + 1) = m.take (k + 1) := by
  rw [List.take_succ_eq_append_getElem hk, List.take_succ_eq_append_getElem hm, h]
  simp [List.getD, List.getElem?_eq_getElem hk, List.getElem?_eq_getElem hm] at he
  rw [he]
theorem ne_at {α : Type} (l m : List α) (d : α) (k : Nat) (he : ¬ l.getD k d = m.getD k d) : ¬ l = m := by
  intro h; rw [h] at he; exact he rfl
theorem ne_len {α : Type} (l m : List α) (h : ¬ l.length = m.length) : ¬ l = m := by
  intro he; rw [he] at h; exact h rfl

set_option maxRecDepth 100000 in
set_option maxHeartbeats 2000000 in
theorem eqVecS_c (l m : List V2) (v u : Value) (w : World) (hv : VecsAt w v l) (hu : VecsAt w u m) :
    Calls Try.prog 45 #[v, u] w fun e w' => e = .returned (.bool (eqB l m)) ∧ Below w.heap.size w w' := by
  obtain ⟨a, cap, rfl, hl, hc, hcell⟩ := hv.open
  obtain ⟨a', cap', rfl, hl', hc', hcell'⟩ := hu.open
  have HC := Lib.hid hcell; clear hcell hv
  have HC' := Lib.hid hcell'; clear hcell' hu
  by_cases hlen : l.length = m.length
  · have hq : ((l.length : Int) != (m.length : Int)) = false := by simp [hlen]
    have HL := Lib.hid hlen
    have hle : l.length ≤ m.length := by omega
    clear hlen
    go_enter Try.func45, Try.ntmps45
    go_wp2
    clear hq
    go_loopw [5] (fun i wr => ∃ k : Nat, k ≤ l.length ∧ i = .int .i64 k ∧ l.take k = m.take k ∧ Below w.heap.size w wr) (fun i _ => l.length - (intOf i).toNat)
    case atStart => exact ⟨0, Nat.zero_le _, rfl, by simp, Below.refl _ _⟩
    case round =>
      obtain ⟨k, hk, rfl, heq, hb⟩ := hrel
      have HA := Lib.hid heq; clear heq
      by_cases hlt : k < l.length
      · have hltm : k < m.length := by omega
        obtain ⟨b, off, rfl, hbs, c0, c1⟩ := HC.out k hlt
        obtain ⟨b', off', rfl, hbs', c2, c3⟩ := HC'.out k hltm
        have d0 := (hb.cell (p := ⟨b, off + k * 2, none⟩) hbs).trans c0
        have d1 := (hb.cell (p := ⟨b, off + k * 2 + 1, none⟩) hbs).trans c1
        have d2 := (hb.cell (p := ⟨b', off' + k * 2, none⟩) hbs').trans c2
        have d3 := (hb.cell (p := ⟨b', off' + k * 2 + 1, none⟩) hbs').trans c3
        obtain ⟨x, y, hxy⟩ : ∃ x y, l.getD k (0, 0) = (x, y) := ⟨_, _, rfl⟩
        obtain ⟨x', y', hxy'⟩ : ∃ x y, m.getD k (0, 0) = (x, y) := ⟨_, _, rfl⟩
        rw [hxy] at d0 d1
        rw [hxy'] at d2 d3
        simp only at d0 d1 d2 d3
        have HX := Lib.hid (And.intro hxy hxy')
        have HB := Lib.hid hb
        clear c0 c1 c2 c3 hxy hxy' hb
        cases heb : eqB (x, y) (x', y')
        · go_wp2
          go_region_with (go_at_call 60; refine (eqVec_c _ _ _ _ _).mono ?_; rintro e w1 ⟨rfl, hb1⟩)
          all_goals
            go_wp2
            go_ret
            refine ⟨ret_bool (eqB_false (ne_at l m (0, 0) k ?_)).symm, ?_⟩
            · rw [HX.out.1, HX.out.2]; exact eqB_not heb
            · first | exact HB.out.trans (hb1.mono HB.out.size) | exact (HB.out.trans (hb1.mono HB.out.size)).drew | exact (HB.out.drew).trans (hb1.mono HB.out.size)
        · have he2 := eq_take_snoc l m (0, 0) k hlt hltm HA.out (by rw [HX.out.1, HX.out.2]; exact eqB_of heb)
          have HE := Lib.hid he2; clear he2
          go_wp2
          go_region_with (go_at_call 60; refine (eqVec_c _ _ _ _ _).mono ?_; rintro e w1 ⟨rfl, hb1⟩)
          all_goals
            go_wp2
            go_roundw
            case rel => exact ⟨k + 1, by omega, by go_num, HE.out, by first | exact HB.out.trans (hb1.mono HB.out.size) | exact (HB.out.trans (hb1.mono HB.out.size)).drew | exact (HB.out.drew).trans (hb1.mono HB.out.size)⟩
            case measure => simp [intOf]; omega
      · have HB := Lib.hid hb; clear hb
        go_wp2
        go_ret
        refine ⟨ret_bool (eqB_true ?_).symm, HB.out⟩
        have h := HA.out
        have hL := HL.out
        rwa [List.take_of_length_le (by omega), List.take_of_length_le (by omega)] at h
  · have hq : ((l.length : Int) != (m.length : Int)) = true := by simp; omega
    have e : eqB l m = false := eqB_false (ne_len l m hlen)
    rw [e]; clear e hlen
    go_enter Try.func45, Try.ntmps45
    go_wp2
    go_ret
    exact ⟨rfl, Below.refl _ _⟩

set_option maxRecDepth 100000 in
set_option maxHeartbeats 2000000 in
theorem eqVecSS_c (l m : List (List V2)) (v u : Value) (w : World) (hv : VecSSAt w v l) (hu : VecSSAt w u m) :
    Calls Try.prog 61 #[v, u] w fun e w' => e = .returned (.bool (eqB l m)) ∧ Below w.heap.size w w' := by
  obtain ⟨a, cap, rfl, hl, hc, hcell⟩ := hv.open
  obtain ⟨a', cap', rfl, hl', hc', hcell'⟩ := hu.open
  have HC := Lib.hid hcell; clear hcell hv
  have HC' := Lib.hid hcell'; clear hcell' hu
  by_cases hlen : l.length = m.length
  · have hq : ((l.length : Int) != (m.length : Int)) = false := by simp [hlen]
    have HL := Lib.hid hlen
    have hle : l.length ≤ m.length := by omega
    clear hlen
    go_enter Try.func61, Try.ntmps61
    go_wp2
    clear hq
    go_loopw [5] (fun i wr => ∃ k : Nat, k ≤ l.length ∧ i = .int .i64 k ∧ l.take k = m.take k ∧ Below w.heap.size w wr) (fun i _ => l.length - (intOf i).toNat)
    case atStart => exact ⟨0, Nat.zero_le _, rfl, by simp, Below.refl _ _⟩
    case round =>
      obtain ⟨k, hk, rfl, heq, hb⟩ := hrel
      have HA := Lib.hid heq; clear heq
      by_cases hlt : k < l.length
      · have hltm : k < m.length := by omega
        obtain ⟨b, off, q, rfl, hbs, c0, hq0⟩ := HC.out k hlt
        obtain ⟨b', off', q', rfl, hbs', c2, hq2⟩ := HC'.out k hltm
        have d0 := (hb.cell (p := ⟨b, off + k, none⟩) hbs).trans c0
        have d2 := (hb.cell (p := ⟨b', off' + k, none⟩) hbs').trans c2
        obtain ⟨P, hP⟩ : ∃ P, l.getD k [] = P := ⟨_, rfl⟩
        obtain ⟨P', hP'⟩ : ∃ P, m.getD k [] = P := ⟨_, rfl⟩
        rw [hP] at hq0
        rw [hP'] at hq2
        have HX := Lib.hid (And.intro hP hP')
        clear hP hP'
        have HQ := Lib.hid (hq0.below hb)
        have HQ' := Lib.hid (hq2.below hb)
        have HB := Lib.hid hb
        clear c0 c2 hq0 hq2 hb
        cases heb : eqB P P'
        · go_wp2
          go_region_with (go_at_call 45; refine (eqVecS_c P P' _ _ _ (by first | exact HQ.out | exact HQ.out.below (Below.refl _ _).drew) (by first | exact HQ'.out | exact HQ'.out.below (Below.refl _ _).drew)).mono ?_; rintro e w1 ⟨rfl, hb1⟩)
          all_goals
            go_wp2
            go_ret
            refine ⟨ret_bool (eqB_false (ne_at l m [] k ?_)).symm, ?_⟩
            · rw [HX.out.1, HX.out.2]; exact eqB_not heb
            · first | exact HB.out.trans (hb1.mono HB.out.size) | exact (HB.out.trans (hb1.mono HB.out.size)).drew | exact (HB.out.drew).trans (hb1.mono HB.out.size)
        · have he2 := eq_take_snoc l m [] k hlt hltm HA.out (by rw [HX.out.1, HX.out.2]; exact eqB_of heb)
          have HE := Lib.hid he2; clear he2
          go_wp2
          go_region_with (go_at_call 45; refine (eqVecS_c P P' _ _ _ (by first | exact HQ.out | exact HQ.out.below (Below.refl _ _).drew) (by first | exact HQ'.out | exact HQ'.out.below (Below.refl _ _).drew)).mono ?_; rintro e w1 ⟨rfl, hb1⟩)
          all_goals
            go_wp2
            go_roundw
            case rel => exact ⟨k + 1, by omega, by go_num, HE.out, by first | exact HB.out.trans (hb1.mono HB.out.size) | exact (HB.out.trans (hb1.mono HB.out.size)).drew | exact (HB.out.drew).trans (hb1.mono HB.out.size)⟩
            case measure => simp [intOf]; omega
      · have HB := Lib.hid hb; clear hb
        go_wp2
        go_ret
        refine ⟨ret_bool (eqB_true ?_).symm, HB.out⟩
        have h := HA.out
        have hL := HL.out
        rwa [List.take_of_length_le (by omega), List.take_of_length_le (by omega)] at h
  · have hq : ((l.length : Int) != (m.length : Int)) = true := by simp; omega
    have e : eqB l m = false := eqB_false (ne_len l m hlen)
    rw [e]; clear e hlen
    go_enter Try.func61, Try.ntmps61
    go_wp2
    go_ret
    exact ⟨rfl, Below.refl _ _⟩

end Go.Proofs.Ytemgpfojmdncjaa
