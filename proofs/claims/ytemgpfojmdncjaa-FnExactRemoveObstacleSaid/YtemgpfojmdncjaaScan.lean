/-
  Contracts of the library's searches by a predicate, at vectors and at lists of vectors, and of what is built on them: validity of vectors, ranges, polygons, scenes.
-/
import Derived.Test.YtemgpfojmdncjaaVec
namespace Go.Proofs.Ytemgpfojmdncjaa
set_option linter.unusedVariables false
set_option linter.unusedSimpArgs false
open Go.RowKit

/-- In every later world the function g, with what it captured, answers p and makes at most memory of its own. -/
structure PredVec (g : Nat) (caps : Array Value) (p : V2 → Bool) (W : World) : Prop where
  enter : ∀ (args : Array Value) (w : World), (callFunc g args).run Try.prog w = .ok (.enter g args) w
  calls : ∀ (x y : Int) (w : World), Below W.heap.size W w → Calls Try.prog g (#[.agg #[.int .i64 x, .int .i64 y]] ++ caps) w fun e w' => e = .returned (.bool (p (x, y))) ∧ Below w.heap.size w w'

set_option maxRecDepth 100000 in
set_option maxHeartbeats 400000 in
theorem IndexVec_c (g : Nat) (caps : Array Value) (p : V2 → Bool) (l : List V2) (v : Value) (w : World) (hv : VecsAt w v l) (hp : PredVec g caps p w) :
    Calls Try.prog 146 #[v, .func (.func g) #[] caps] w fun e w' => e = .returned (.int .i64 (idxOf p l)) ∧ Below w.heap.size w w' := by
  obtain ⟨a, cap, rfl, hl, hc, hcell⟩ := hv.open
  have hent := hp.enter
  have HP := Lib.hid hp.calls; clear hp
  have HC := Lib.hid hcell; clear hcell hv
  go_enter Try.func146, Try.ntmps146
  go_wp2
  go_loopw [8] (fun i wr => ∃ k : Nat, k ≤ l.length ∧ i = .int .i64 k ∧ (l.take k).any p = false ∧ Below w.heap.size w wr) (fun i _ => l.length - (intOf i).toNat)
  case atStart => exact ⟨0, Nat.zero_le _, rfl, by simp, Below.refl _ _⟩
  case round =>
    obtain ⟨k, hk, rfl, hany, hb⟩ := hrel
    have HA := Lib.hid hany; clear hany
    by_cases hlt : k < l.length
    · obtain ⟨b, off, rfl, hbs, c0, c1⟩ := HC.out k hlt
      have d0 := (hb.cell (p := ⟨b, off + k * 2, none⟩) hbs).trans c0
      have d1 := (hb.cell (p := ⟨b, off + k * 2 + 1, none⟩) hbs).trans c1
      obtain ⟨x, y, hxy⟩ : ∃ x y, l.getD k (0, 0) = (x, y) := ⟨_, _, rfl⟩
      rw [hxy] at d0 d1
      simp only at d0 d1
      clear c0 c1
      have HX := Lib.hid hxy; clear hxy
      have HB := Lib.hid hb; clear hb
      go_wp2_with fail
      refine (HP.out x y _ HB.out).mono ?_
      rintro e w1 ⟨rfl, hb1⟩
      cases hpx : p (x, y)
      · go_wp2
        go_roundw
        case rel => exact ⟨k + 1, by omega, by go_num, by rw [take_any_snoc p l (0, 0) k hlt, HA.out, HX.out, hpx]; rfl, HB.out.trans (hb1.mono HB.out.size)⟩
        case measure => simp [intOf]; omega
      · go_wp2
        go_ret
        exact ⟨ret_int (idxOf_at p l (0, 0) k hlt HA.out (by rw [HX.out]; exact hpx)).symm, HB.out.trans (hb1.mono HB.out.size)⟩
    · have HB := Lib.hid hb; clear hb
      go_wp2
      go_ret
      exact ⟨ret_int (idxOf_none p l (by have := HA.out; rwa [List.take_of_length_le (by omega)] at this)).symm, HB.out⟩

theorem ContainsVec_c (g : Nat) (caps : Array Value) (p : V2 → Bool) (l : List V2) (v : Value) (w : World) (hv : VecsAt w v l) (hp : PredVec g caps p w) :
    Calls Try.prog 125 #[v, .func (.func g) #[] caps] w fun e w' => e = .returned (.bool (l.any p)) ∧ Below w.heap.size w w' := by
  rw [← idxOf_neg]
  have HV := Lib.hid hv; clear hv
  have HP := Lib.hid hp; clear hp
  go_enter Try.func125, Try.ntmps125
  go_wp2_with fail
  refine (IndexVec_c g caps p l _ _ HV.out HP.out).mono ?_
  rintro e w1 ⟨rfl, hb1⟩
  have HB := Lib.hid hb1; clear hb1
  go_wp2
  go_ret
  exact ⟨rfl, HB.out⟩

theorem areVecs1_p (W : World) : PredVec 126 #[] (fun p => !isVec p) W where
  enter := fun args w => by kernel_rfl
  calls := fun x y w _ => by
    show Calls Try.prog 126 #[.agg #[.int .i64 x, .int .i64 y]] w _
    go_enter Try.func126, Try.ntmps126
    go_wp2_with fail
    refine (isVec_c _ _ _).mono ?_
    rintro e w1 ⟨rfl, h1⟩
    have B1 : Below w.heap.size w w1 := Below.trans (by (repeat (first | with_reducible exact Below.refl _ _ | with_reducible assumption | with_reducible refine Below.drew ?_ | with_reducible refine Below.setCell ?_ ?_ _ | with_reducible refine Below.alloc ?_ ?_ _)); all_goals first | (simp; done) | (simp; omega) | omega) (h1.mono (by first | (simp; done) | (simp; omega) | omega))
    have S1 := h1.size
    have T1 := B1.size
    try simp at S1
    obtain ⟨k1, f1⟩ := bcell h1
    try simp at k1
    try simp at f1
    have Hc1 := Lib.hid h1
    clear h1
    have u1_0 : w.heap.size < w1.heap.size := by omega
    go_wp2
    go_ret
    exact ⟨rfl, (by (repeat (first | with_reducible exact Below.refl _ _ | with_reducible assumption | with_reducible refine Below.drew ?_ | with_reducible refine Below.setCell ?_ ?_ _ | with_reducible refine Below.alloc ?_ ?_ _)); all_goals first | (simp; done) | (simp; omega) | omega)⟩

theorem areVecs_c (l : List V2) (v : Value) (w : World) (hv : VecsAt w v l) :
    Calls Try.prog 93 #[v] w fun e w' => e = .returned (.bool (l.all isVec)) ∧ Below w.heap.size w w' := by
  have e : l.all isVec = !(l.any fun p => !isVec p) := by simp [List.not_any_eq_all_not]
  rw [e]; clear e
  have HV := Lib.hid hv; clear hv
  go_enter Try.func93, Try.ntmps93
  go_wp2_with fail
  refine (ContainsVec_c _ #[] _ l _ _ HV.out (areVecs1_p _)).mono ?_
  rintro e w1 ⟨rfl, hb1⟩
  have HB := Lib.hid hb1; clear hb1
  go_wp2
  go_ret
  exact ⟨rfl, HB.out⟩

theorem areIn1_p (m : Int) (hm0 : 0 ≤ m) (hm1 : m ≤ 1000) (b0 : Nat) (W : World) (hb0 : b0 < W.heap.size) (hcell : W.cell? ⟨b0, 0, none⟩ = some (.int .i64 m)) :
    PredVec 157 #[.pointer (some ⟨b0, 0, none⟩)] (fun p => !insB m p) W where
  enter := fun args w => by kernel_rfl
  calls := fun x y w hbw => by
    show Calls Try.prog 157 #[.agg #[.int .i64 x, .int .i64 y], .pointer (some ⟨b0, 0, none⟩)] w _
    have d0 := (hbw.cell (p := ⟨b0, 0, none⟩) hb0).trans hcell
    have e : insB m (x, y) = (inR x (-m) m && inR y (-m) m) := rfl
    simp only [e]
    have hz : b0 < w.heap.size := Nat.lt_of_lt_of_le hb0 hbw.size
    clear e hbw hcell hb0
    cases h1 : inR x (-m) m <;> cases h2 : inR y (-m) m
    all_goals
      go_enter Try.func157, Try.ntmps157
      go_wp2_with (go_at_call 53; refine (within_c _ _ _ _).mono ?_; rintro e w' ⟨rfl, rfl⟩)
      go_ret
      exact ⟨rfl, (by (repeat (first | with_reducible exact Below.refl _ _ | with_reducible assumption | with_reducible refine Below.drew ?_ | with_reducible refine Below.setCell ?_ ?_ _ | with_reducible refine Below.alloc ?_ ?_ _)); all_goals first | (simp; done) | (simp; omega) | omega)⟩

theorem areIn_c (m : Int) (hm0 : 0 ≤ m) (hm1 : m ≤ 1000) (l : List V2) (v : Value) (w : World) (hv : VecsAt w v l) :
    Calls Try.prog 131 #[.int .i64 m, v] w fun e w' => e = .returned (.bool (l.all (insB m))) ∧ Below w.heap.size w w' := by
  have e : l.all (insB m) = !(l.any fun p => !insB m p) := by simp [List.not_any_eq_all_not]
  rw [e]; clear e
  have HV := Lib.hid hv; clear hv
  go_enter Try.func131, Try.ntmps131
  go_wp2_with fail
  refine (ContainsVec_c _ _ _ l _ _ (HV.out.below ((Below.refl _ _).alloc (Nat.le_refl _) _)) (areIn1_p m hm0 hm1 w.heap.size _ (by simp) (by go_simp))).mono ?_
  rintro e w1 ⟨rfl, hb1⟩
  have HB := Lib.hid hb1; clear hb1
  go_wp2
  go_ret
  exact ⟨rfl, ((Below.refl _ _).alloc (Nat.le_refl _) _).trans (HB.out.mono (by simp))⟩

set_option maxHeartbeats 400000 in
theorem l10Inside_c (m : Int) (hm0 : 0 ≤ m) (hm1 : m ≤ 1000) (l : List V2) (v : Value) (w : World) (hv : VecsAt w v l) :
    Calls Try.prog 120 #[v, .int .i64 m] w fun e w' => e = .returned (.bool (l.all (insB m))) ∧ Below w.heap.size w w' := by
  obtain ⟨a, cap, rfl, hl, hc, hcell⟩ := hv.open
  have HC := Lib.hid hcell; clear hcell hv
  go_enter Try.func120, Try.ntmps120
  go_wp2
  go_loopw [9] (fun i wr => ∃ k : Nat, k ≤ l.length ∧ i = .int .i64 k ∧ (l.take k).all (insB m) = true ∧ Below w.heap.size w wr) (fun i _ => l.length - (intOf i).toNat)
  case atStart => exact ⟨0, Nat.zero_le _, rfl, by simp, Below.refl _ _⟩
  case round =>
    obtain ⟨k, hk, rfl, hall, hb⟩ := hrel
    have HA := Lib.hid hall; clear hall
    by_cases hlt : k < l.length
    · obtain ⟨b, off, rfl, hbs, c0, c1⟩ := HC.out k hlt
      have d0 := (hb.cell (p := ⟨b, off + k * 2, none⟩) hbs).trans c0
      have d1 := (hb.cell (p := ⟨b, off + k * 2 + 1, none⟩) hbs).trans c1
      obtain ⟨x, y, hxy⟩ : ∃ x y, l.getD k (0, 0) = (x, y) := ⟨_, _, rfl⟩
      rw [hxy] at d0 d1
      simp only at d0 d1
      have hz : b < wr.heap.size := Nat.lt_of_lt_of_le hbs hb.size
      have hws := hb.size
      clear c0 c1
      have HX := Lib.hid hxy; clear hxy
      have HB := Lib.hid hb; clear hb
      have hpe : insB m (x, y) = (inR x (-m) m && inR y (-m) m) := rfl
      have HE := Lib.hid hpe; clear hpe
      cases h1 : inR x (-m) m
      · go_wp2_with (go_at_call 52; refine (l01In_c _ _ _ _).mono ?_; rintro e w' ⟨rfl, rfl⟩)
        go_ret
        exact ⟨ret_bool (all_take_false _ l (0, 0) k hlt (by rw [HX.out, HE.out, h1]; rfl)).symm, (HB.out.alloc hws _)⟩
      · cases h2 : inR y (-m) m
        · go_wp2_with (go_at_call 52; refine (l01In_c _ _ _ _).mono ?_; rintro e w' ⟨rfl, rfl⟩)
          go_ret
          exact ⟨ret_bool (all_take_false _ l (0, 0) k hlt (by rw [HX.out, HE.out, h1, h2]; rfl)).symm, (HB.out.alloc hws _)⟩
        · go_wp2_with (go_at_call 52; refine (l01In_c _ _ _ _).mono ?_; rintro e w' ⟨rfl, rfl⟩)
          go_roundw
          case rel => exact ⟨k + 1, by omega, by go_num, by rw [take_all_snoc _ l (0, 0) k hlt, HA.out, HX.out, HE.out, h1, h2]; rfl, (HB.out.alloc hws _)⟩
          case measure => simp [intOf]; omega
    · have HB := Lib.hid hb; clear hb
      go_wp2
      go_ret
      exact ⟨ret_bool (by have := HA.out; rw [List.take_of_length_le (by omega)] at this; exact this.symm), HB.out⟩
end Go.Proofs.Ytemgpfojmdncjaa
