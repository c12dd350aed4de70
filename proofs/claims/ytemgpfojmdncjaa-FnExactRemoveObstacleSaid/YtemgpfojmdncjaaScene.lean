/-
  Contracts of the validity of shapes and scenes, of the program and of the reference.
-/
import Derived.Test.YtemgpfojmdncjaaPoly
namespace Go.Proofs.Ytemgpfojmdncjaa
set_option linter.unusedVariables false
set_option linter.unusedSimpArgs false
open Go.RowKit

theorem isSmall_c (m : Int) (hm0 : 0 ≤ m) (hm1 : m ≤ 1000) (l : List V2) (v : Value) (w : World) (hv : VecsAt w v l) :
    Calls Try.prog 132 #[v, .int .i64 m] w fun e w' => e = .returned (.bool (shape m l)) ∧ Below w.heap.size w w' := by
  have HV := Lib.hid hv
  obtain ⟨a, cap, rfl, hl, hc, _⟩ := hv.open
  clear hv
  by_cases h5 : l.length ≤ 5
  · cases hp : isPoly l
    · have e : shape m l = false := by simp [shape, hp]
      rw [e]; clear e
      go_enter Try.func132, Try.ntmps132
      go_wp2_with fail
      refine (IsPolygon_c l _ _ HV.out).mono ?_
      rintro e w1 ⟨rfl, hb1⟩
      have HB := Lib.hid hb1; clear hb1
      go_wp2
      go_ret
      exact ⟨rfl, HB.out⟩
    · have e : shape m l = l.all (insB m) := by simp [shape, hp, h5]
      rw [e]; clear e
      go_enter Try.func132, Try.ntmps132
      go_wp2_with fail
      refine (IsPolygon_c l _ _ HV.out).mono ?_
      rintro e w1 ⟨rfl, hb1⟩
      have HB := Lib.hid hb1; clear hb1
      go_wp2_with fail
      refine (areIn_c m hm0 hm1 l _ _ (HV.out.below HB.out)).mono ?_
      rintro e w2 ⟨rfl, hb2⟩
      have HB2 := Lib.hid (HB.out.trans (hb2.mono HB.out.size)); clear hb2
      go_wp2
      go_ret
      exact ⟨rfl, HB2.out⟩
  · have e : shape m l = false := by simp [shape, h5]
    rw [e]; clear e
    go_enter Try.func132, Try.ntmps132
    go_wp2
    go_ret
    exact ⟨rfl, Below.refl _ _⟩

theorem l10Shape_c (m : Int) (hm0 : 0 ≤ m) (hm1 : m ≤ 1000) (l : List V2) (v : Value) (w : World) (hv : VecsAt w v l) :
    Calls Try.prog 121 #[v, .int .i64 m] w fun e w' => e = .returned (.bool (shape m l)) ∧ Below w.heap.size w w' := by
  have HV := Lib.hid hv
  obtain ⟨a, cap, rfl, hl, hc, _⟩ := hv.open
  clear hv
  cases hp : isPoly l
  · have e : shape m l = false := by simp [shape, hp]
    rw [e]; clear e
    go_enter Try.func121, Try.ntmps121
    go_wp2_with fail
    refine (sIsPolygon_c l _ _ HV.out).mono ?_
    rintro e w1 ⟨rfl, hb1⟩
    have HB := Lib.hid hb1; clear hb1
    go_wp2
    go_ret
    exact ⟨rfl, HB.out⟩
  · by_cases h5 : l.length ≤ 5
    · have e : shape m l = l.all (insB m) := by simp [shape, hp, h5]
      rw [e]; clear e
      go_enter Try.func121, Try.ntmps121
      go_wp2_with fail
      refine (sIsPolygon_c l _ _ HV.out).mono ?_
      rintro e w1 ⟨rfl, hb1⟩
      have HB := Lib.hid hb1; clear hb1
      go_wp2_with fail
      refine (l10Inside_c m hm0 hm1 l _ _ (HV.out.below HB.out)).mono ?_
      rintro e w2 ⟨rfl, hb2⟩
      have HB2 := Lib.hid (HB.out.trans (hb2.mono HB.out.size)); clear hb2
      go_wp2
      go_ret
      exact ⟨rfl, HB2.out⟩
    · have e : shape m l = false := by simp [shape, h5]
      rw [e]; clear e
      go_enter Try.func121, Try.ntmps121
      go_wp2_with fail
      refine (sIsPolygon_c l _ _ HV.out).mono ?_
      rintro e w1 ⟨rfl, hb1⟩
      have HB := Lib.hid hb1; clear hb1
      go_wp2
      go_ret
      exact ⟨rfl, HB.out⟩

/-- In every later world the function g answers p of a list of vectors and makes at most memory of its own. -/
structure PredVS (g : Nat) (caps : Array Value) (p : List V2 → Bool) (W : World) : Prop where
  enter : ∀ (args : Array Value) (w : World), (callFunc g args).run Try.prog w = .ok (.enter g args) w
  calls : ∀ (l : List V2) (v : Value) (w : World), Below W.heap.size W w → VecsAt w v l → Calls Try.prog g (#[v] ++ caps) w fun e w' => e = .returned (.bool (p l)) ∧ Below w.heap.size w w'

set_option maxRecDepth 100000 in
set_option maxHeartbeats 400000 in
theorem IndexVS_c (g : Nat) (caps : Array Value) (p : List V2 → Bool) (l : List (List V2)) (v : Value) (w : World) (hv : VecSSAt w v l) (hp : PredVS g caps p w) :
    Calls Try.prog 158 #[v, .func (.func g) #[] caps] w fun e w' => e = .returned (.int .i64 (idxOf p l)) ∧ Below w.heap.size w w' := by
  obtain ⟨a, cap, rfl, hl, hc, hcell⟩ := hv.open
  have hent := hp.enter
  have HP := Lib.hid hp.calls; clear hp
  have HC := Lib.hid hcell; clear hcell hv
  go_enter Try.func158, Try.ntmps158
  go_wp2
  go_loopw [8] (fun i wr => ∃ k : Nat, k ≤ l.length ∧ i = .int .i64 k ∧ (l.take k).any p = false ∧ Below w.heap.size w wr) (fun i _ => l.length - (intOf i).toNat)
  case atStart => exact ⟨0, Nat.zero_le _, rfl, by simp, Below.refl _ _⟩
  case round =>
    obtain ⟨k, hk, rfl, hany, hb⟩ := hrel
    have HA := Lib.hid hany; clear hany
    by_cases hlt : k < l.length
    · obtain ⟨b, off, u, rfl, hbs, c0, hu⟩ := HC.out k hlt
      have d0 := (hb.cell (p := ⟨b, off + k, none⟩) hbs).trans c0
      have HU := Lib.hid (hu.below hb); clear hu
      clear c0
      have HB := Lib.hid hb; clear hb
      go_wp2_with fail
      refine (HP.out _ u _ HB.out HU.out).mono ?_
      rintro e w1 ⟨rfl, hb1⟩
      cases hpx : p (l.getD k [])
      · have hpe : (l.take (k + 1)).any p = false := by rw [take_any_snoc p l [] k hlt, HA.out, hpx]; rfl
        have HPE := Lib.hid hpe; clear hpe
        go_wp2
        go_roundw
        case rel => exact ⟨k + 1, by omega, by go_num, HPE.out, HB.out.trans (hb1.mono HB.out.size)⟩
        case measure => simp [intOf]; omega
      · have hpe := idxOf_at p l [] k hlt HA.out hpx
        have HPE := Lib.hid hpe; clear hpe
        go_wp2
        go_ret
        exact ⟨ret_int HPE.out.symm, HB.out.trans (hb1.mono HB.out.size)⟩
    · have HB := Lib.hid hb; clear hb
      go_wp2
      go_ret
      exact ⟨ret_int (idxOf_none p l (by have := HA.out; rwa [List.take_of_length_le (by omega)] at this)).symm, HB.out⟩

theorem ContainsVS_c (g : Nat) (caps : Array Value) (p : List V2 → Bool) (l : List (List V2)) (v : Value) (w : World) (hv : VecSSAt w v l) (hp : PredVS g caps p w) :
    Calls Try.prog 133 #[v, .func (.func g) #[] caps] w fun e w' => e = .returned (.bool (l.any p)) ∧ Below w.heap.size w w' := by
  rw [← idxOf_neg]
  have HV := Lib.hid hv; clear hv
  have HP := Lib.hid hp; clear hp
  go_enter Try.func133, Try.ntmps133
  go_wp2_with fail
  refine (IndexVS_c g caps p l _ _ HV.out HP.out).mono ?_
  rintro e w1 ⟨rfl, hb1⟩
  have HB := Lib.hid hb1; clear hb1
  go_wp2
  go_ret
  exact ⟨rfl, HB.out⟩

theorem validScene1_p (W : World) : PredVS 134 #[] (fun l => !shape 200 l) W where
  enter := fun args w => by kernel_rfl
  calls := fun l v w _ hv => by
    show Calls Try.prog 134 #[v] w _
    have HV := Lib.hid hv; clear hv
    go_enter Try.func134, Try.ntmps134
    go_wp2_with fail
    refine (isSmall_c 200 (by omega) (by omega) l _ _ HV.out).mono ?_
    rintro e w1 ⟨rfl, hb1⟩
    have HB := Lib.hid hb1; clear hb1
    go_wp2
    go_ret
    exact ⟨rfl, HB.out⟩

theorem VecsAt_pair {w : World} {b : Nat} {x y u v : Int} (hb : b < w.heap.size) (h0 : w.cell? ⟨b, 0, none⟩ = some (.int .i64 x)) (h1 : w.cell? ⟨b, 1, none⟩ = some (.int .i64 y)) (h2 : w.cell? ⟨b, 2, none⟩ = some (.int .i64 u)) (h3 : w.cell? ⟨b, 3, none⟩ = some (.int .i64 v)) :
    VecsAt w (.slice (some ⟨b, 0, none⟩) 2 2) [(x, y), (u, v)] := by
  refine ⟨some ⟨b, 0, none⟩, 2, rfl, by simp, by decide, by simp [vecRow], .inr ⟨b, 0, rfl, hb, ?_⟩⟩
  intro j hj i hi
  simp at hj
  have hj' : j = 0 ∨ j = 1 := by omega
  have hi' : i = 0 ∨ i = 1 := by omega
  rcases hj' with rfl | rfl <;> rcases hi' with rfl | rfl <;> simp [vecRow, h0, h1, h2, h3]

theorem validScn_1 {lx ly hx hy : Int} {r : List V2} {o : List (List V2)} {t : List V2} (h : [(lx, ly), (hx, hy)].all (insB 200) = false) : validScn ⟨(lx, ly), (hx, hy), r, o, t⟩ = false := by simp only [validScn, h]; simp
theorem validScn_2 {lx ly hx hy : Int} {r : List V2} {o : List (List V2)} {t : List V2} (h : ¬ lx < hx) : validScn ⟨(lx, ly), (hx, hy), r, o, t⟩ = false := by simp [validScn, h]
theorem validScn_3 {lx ly hx hy : Int} {r : List V2} {o : List (List V2)} {t : List V2} (h : ¬ ly < hy) : validScn ⟨(lx, ly), (hx, hy), r, o, t⟩ = false := by simp [validScn, h]
theorem validScn_4 {lx ly hx hy : Int} {r : List V2} {o : List (List V2)} {t : List V2} (h : shape 20 r = false) : validScn ⟨(lx, ly), (hx, hy), r, o, t⟩ = false := by simp [validScn, h]
theorem validScn_5 {lx ly hx hy : Int} {r : List V2} {o : List (List V2)} {t : List V2} (h : o.all (shape 200) = false) : validScn ⟨(lx, ly), (hx, hy), r, o, t⟩ = false := by simp only [validScn, h]; simp
theorem validScn_6 {lx ly hx hy : Int} {r : List V2} {o : List (List V2)} {t : List V2} (h : ¬ o.length ≤ 4) : validScn ⟨(lx, ly), (hx, hy), r, o, t⟩ = false := by simp [validScn, h]
theorem validScn_7 {lx ly hx hy : Int} {r : List V2} {o : List (List V2)} {t : List V2} (h : ¬ t.length ≤ 3) : validScn ⟨(lx, ly), (hx, hy), r, o, t⟩ = false := by simp [validScn, h]
theorem validScn_8 {lx ly hx hy : Int} {r : List V2} {o : List (List V2)} {t : List V2} (h1 : [(lx, ly), (hx, hy)].all (insB 200) = true) (h2 : lx < hx) (h3 : ly < hy) (h4 : shape 20 r = true) (h5 : o.all (shape 200) = true) (h6 : o.length ≤ 4) (h7 : t.length ≤ 3) :
    validScn ⟨(lx, ly), (hx, hy), r, o, t⟩ = t.all (insB 200) := by simp only [validScn, h1, h2, h3, h4, h5, h6, h7]; simp
set_option maxRecDepth 100000 in
set_option maxHeartbeats 1000000 in
theorem IsValidScene_c (s : Scn) (v : Value) (w : World) (hv : SceneAt w v s) :
    Calls Try.prog 108 #[v] w fun e w' => e = .returned (.bool (validScn s)) ∧ Below w.heap.size w w' := by
  obtain ⟨⟨lx, ly⟩, ⟨hx, hy⟩, rob, obs, tabs⟩ := s
  obtain ⟨r, o, t, rfl, hr, ho, ht⟩ := hv
  simp only at hr ho ht
  have HR := Lib.hid hr
  have HO := Lib.hid ho
  have HT := Lib.hid ht
  obtain ⟨ra, rcap, rfl, _, _, _⟩ := hr.open
  obtain ⟨oa, ocap, rfl, _, olen, _⟩ := ho.open
  obtain ⟨ta, tcap, rfl, _, tlen, _⟩ := ht.open
  clear hr ho ht
  have olen' : obs.length ≤ 9223372036854775807 := by omega
  have tlen' : tabs.length ≤ 9223372036854775807 := by omega
  go_enter Try.func108, Try.ntmps108
  go_wp2_with fail
  refine (areIn_c 200 (by omega) (by omega) [(lx, ly), (hx, hy)] _ _ (VecsAt_pair (by simp) (by go_simp) (by go_simp) (by go_simp) (by go_simp))).mono ?_
  rintro e w1 ⟨rfl, h1⟩
  have B1 : Below w.heap.size w w1 := Below.trans (by (repeat (first | with_reducible exact Below.refl _ _ | with_reducible assumption | with_reducible refine Below.drew ?_ | with_reducible refine Below.setCell ?_ ?_ _ | with_reducible refine Below.alloc ?_ ?_ _)); all_goals first | (simp; done) | (simp; omega) | omega) (h1.mono (by first | (simp; done) | (simp; omega) | omega))
  have S1 := h1.size
  have T1 := B1.size
  try simp at S1
  obtain ⟨k1, f1⟩ := bcell h1
  try simp at k1
  try simp at f1
  have Hc1 := Lib.hid h1
  clear h1
  have u1_0 : w.heap.size < w1.heap.size := by omega
  have u1_1 : w.heap.size + 1 < w1.heap.size := by omega
  cases hA : [(lx, ly), (hx, hy)].all (insB 200)
  · go_wp2
    go_ret
    exact ⟨ret_bool (validScn_1 hA).symm, (by (repeat (first | with_reducible exact Below.refl _ _ | with_reducible assumption | with_reducible refine Below.drew ?_ | with_reducible refine Below.setCell ?_ ?_ _ | with_reducible refine Below.alloc ?_ ?_ _)); all_goals first | (simp; done) | (simp; omega) | omega)⟩
  have HAL := Lib.hid hA
  by_cases h2 : lx < hx
  case neg =>
    go_wp2
    go_ret
    exact ⟨ret_bool (validScn_2 (by omega)).symm, (by (repeat (first | with_reducible exact Below.refl _ _ | with_reducible assumption | with_reducible refine Below.drew ?_ | with_reducible refine Below.setCell ?_ ?_ _ | with_reducible refine Below.alloc ?_ ?_ _)); all_goals first | (simp; done) | (simp; omega) | omega)⟩
  by_cases h3 : ly < hy
  case neg =>
    go_wp2
    go_ret
    exact ⟨ret_bool (validScn_3 (by omega)).symm, (by (repeat (first | with_reducible exact Below.refl _ _ | with_reducible assumption | with_reducible refine Below.drew ?_ | with_reducible refine Below.setCell ?_ ?_ _ | with_reducible refine Below.alloc ?_ ?_ _)); all_goals first | (simp; done) | (simp; omega) | omega)⟩
  go_wp2_with fail
  refine (isSmall_c 20 (by omega) (by omega) rob _ _ (HR.out.below B1)).mono ?_
  rintro e w2 ⟨rfl, h2⟩
  have B2 : Below w.heap.size w w2 := Below.trans (by (repeat (first | with_reducible exact Below.refl _ _ | with_reducible assumption | with_reducible refine Below.drew ?_ | with_reducible refine Below.setCell ?_ ?_ _ | with_reducible refine Below.alloc ?_ ?_ _)); all_goals first | (simp; done) | (simp; omega) | omega) (h2.mono (by first | (simp; done) | (simp; omega) | omega))
  have S2 := h2.size
  have T2 := B2.size
  try simp at S2
  obtain ⟨k2, f2⟩ := bcell h2
  try simp at k2
  try simp at f2
  have Hc2 := Lib.hid h2
  clear h2
  have u2_0 : w.heap.size < w2.heap.size := by omega
  have u2_1 : w.heap.size + 1 < w2.heap.size := by omega
  cases h4 : shape 20 rob
  · go_wp2
    go_ret
    exact ⟨ret_bool (validScn_4 h4).symm, (by (repeat (first | with_reducible exact Below.refl _ _ | with_reducible assumption | with_reducible refine Below.drew ?_ | with_reducible refine Below.setCell ?_ ?_ _ | with_reducible refine Below.alloc ?_ ?_ _)); all_goals first | (simp; done) | (simp; omega) | omega)⟩
  have H4 := Lib.hid h4
  by_cases h6 : obs.length ≤ 4
  case neg =>
    go_wp2
    go_ret
    exact ⟨ret_bool (validScn_6 (by omega)).symm, (by (repeat (first | with_reducible exact Below.refl _ _ | with_reducible assumption | with_reducible refine Below.drew ?_ | with_reducible refine Below.setCell ?_ ?_ _ | with_reducible refine Below.alloc ?_ ?_ _)); all_goals first | (simp; done) | (simp; omega) | omega)⟩
  go_wp2_with fail
  refine (ContainsVS_c _ #[] _ obs _ _ (HO.out.below B2) (validScene1_p _)).mono ?_
  rintro e w3 ⟨rfl, h3⟩
  have B3 : Below w.heap.size w w3 := Below.trans (by (repeat (first | with_reducible exact Below.refl _ _ | with_reducible assumption | with_reducible refine Below.drew ?_ | with_reducible refine Below.setCell ?_ ?_ _ | with_reducible refine Below.alloc ?_ ?_ _)); all_goals first | (simp; done) | (simp; omega) | omega) (h3.mono (by first | (simp; done) | (simp; omega) | omega))
  have S3 := h3.size
  have T3 := B3.size
  try simp at S3
  obtain ⟨k3, f3⟩ := bcell h3
  try simp at k3
  try simp at f3
  have Hc3 := Lib.hid h3
  clear h3
  have u3_0 : w.heap.size < w3.heap.size := by omega
  have u3_1 : w.heap.size + 1 < w3.heap.size := by omega
  have e5 : (obs.any fun l => !shape 200 l) = !(obs.all (shape 200)) := by simp [List.not_all_eq_any_not]
  rw [e5]; clear e5
  cases h5 : obs.all (shape 200)
  · go_wp2
    go_ret
    exact ⟨ret_bool (validScn_5 h5).symm, (by (repeat (first | with_reducible exact Below.refl _ _ | with_reducible assumption | with_reducible refine Below.drew ?_ | with_reducible refine Below.setCell ?_ ?_ _ | with_reducible refine Below.alloc ?_ ?_ _)); all_goals first | (simp; done) | (simp; omega) | omega)⟩
  have H5 := Lib.hid h5
  by_cases h7 : tabs.length ≤ 3
  case neg =>
    go_wp2
    go_ret
    exact ⟨ret_bool (validScn_7 (by omega)).symm, (by (repeat (first | with_reducible exact Below.refl _ _ | with_reducible assumption | with_reducible refine Below.drew ?_ | with_reducible refine Below.setCell ?_ ?_ _ | with_reducible refine Below.alloc ?_ ?_ _)); all_goals first | (simp; done) | (simp; omega) | omega)⟩
  go_wp2_with fail
  refine (areIn_c 200 (by omega) (by omega) tabs _ _ (HT.out.below B3)).mono ?_
  rintro e w4 ⟨rfl, h4⟩
  have B4 : Below w.heap.size w w4 := Below.trans (by (repeat (first | with_reducible exact Below.refl _ _ | with_reducible assumption | with_reducible refine Below.drew ?_ | with_reducible refine Below.setCell ?_ ?_ _ | with_reducible refine Below.alloc ?_ ?_ _)); all_goals first | (simp; done) | (simp; omega) | omega) (h4.mono (by first | (simp; done) | (simp; omega) | omega))
  have S4 := h4.size
  have T4 := B4.size
  try simp at S4
  obtain ⟨k4, f4⟩ := bcell h4
  try simp at k4
  try simp at f4
  have Hc4 := Lib.hid h4
  clear h4
  have u4_0 : w.heap.size < w4.heap.size := by omega
  have u4_1 : w.heap.size + 1 < w4.heap.size := by omega
  go_wp2
  go_ret
  exact ⟨ret_bool (validScn_8 HAL.out (by omega) (by omega) H4.out H5.out (by omega) (by omega)).symm, (by (repeat (first | with_reducible exact Below.refl _ _ | with_reducible assumption | with_reducible refine Below.drew ?_ | with_reducible refine Below.setCell ?_ ?_ _ | with_reducible refine Below.alloc ?_ ?_ _)); all_goals first | (simp; done) | (simp; omega) | omega)⟩

set_option maxRecDepth 100000 in
set_option maxHeartbeats 1000000 in
theorem sIsValidScene_c (s : Scn) (v : Value) (w : World) (hv : SceneAt w v s) :
    Calls Try.prog 76 #[v] w fun e w' => e = .returned (.bool (validScn s)) ∧ Below w.heap.size w w' := by
  obtain ⟨⟨lx, ly⟩, ⟨hx, hy⟩, rob, obs, tabs⟩ := s
  obtain ⟨r, o, t, rfl, hr, ho, ht⟩ := hv
  simp only at hr ho ht
  have HR := Lib.hid hr
  have HO := Lib.hid ho
  have HT := Lib.hid ht
  obtain ⟨ra, rcap, rfl, _, _, _⟩ := hr.open
  obtain ⟨oa, ocap, rfl, _, olen, _⟩ := ho.open
  obtain ⟨ta, tcap, rfl, _, tlen, _⟩ := ht.open
  clear hr ho ht
  have olen' : obs.length ≤ 9223372036854775807 := by omega
  have tlen' : tabs.length ≤ 9223372036854775807 := by omega
  go_enter Try.func76, Try.ntmps76
  go_wp2_with fail
  refine (l10Inside_c 200 (by omega) (by omega) [(lx, ly), (hx, hy)] _ _ (VecsAt_pair (by simp) (by go_simp) (by go_simp) (by go_simp) (by go_simp))).mono ?_
  rintro e w1 ⟨rfl, h1⟩
  have B1 : Below w.heap.size w w1 := Below.trans (by (repeat (first | with_reducible exact Below.refl _ _ | with_reducible assumption | with_reducible refine Below.drew ?_ | with_reducible refine Below.setCell ?_ ?_ _ | with_reducible refine Below.alloc ?_ ?_ _)); all_goals first | (simp; done) | (simp; omega) | omega) (h1.mono (by first | (simp; done) | (simp; omega) | omega))
  have S1 := h1.size
  have T1 := B1.size
  try simp at S1
  obtain ⟨k1, f1⟩ := bcell h1
  try simp at k1
  try simp at f1
  have Hc1 := Lib.hid h1
  clear h1
  have u1_0 : w.heap.size < w1.heap.size := by omega
  have u1_1 : w.heap.size + 1 < w1.heap.size := by omega
  cases hA : [(lx, ly), (hx, hy)].all (insB 200)
  · go_wp2
    go_ret
    exact ⟨ret_bool (validScn_1 hA).symm, (by (repeat (first | with_reducible exact Below.refl _ _ | with_reducible assumption | with_reducible refine Below.drew ?_ | with_reducible refine Below.setCell ?_ ?_ _ | with_reducible refine Below.alloc ?_ ?_ _)); all_goals first | (simp; done) | (simp; omega) | omega)⟩
  have HAL := Lib.hid hA
  by_cases h2 : lx < hx
  case neg =>
    go_wp2
    go_ret
    exact ⟨ret_bool (validScn_2 (by omega)).symm, (by (repeat (first | with_reducible exact Below.refl _ _ | with_reducible assumption | with_reducible refine Below.drew ?_ | with_reducible refine Below.setCell ?_ ?_ _ | with_reducible refine Below.alloc ?_ ?_ _)); all_goals first | (simp; done) | (simp; omega) | omega)⟩
  by_cases h3 : ly < hy
  case neg =>
    go_wp2
    go_ret
    exact ⟨ret_bool (validScn_3 (by omega)).symm, (by (repeat (first | with_reducible exact Below.refl _ _ | with_reducible assumption | with_reducible refine Below.drew ?_ | with_reducible refine Below.setCell ?_ ?_ _ | with_reducible refine Below.alloc ?_ ?_ _)); all_goals first | (simp; done) | (simp; omega) | omega)⟩
  go_wp2_with fail
  refine (l10Shape_c 20 (by omega) (by omega) rob _ _ (HR.out.below B1)).mono ?_
  rintro e w2 ⟨rfl, h2⟩
  have B2 : Below w.heap.size w w2 := Below.trans (by (repeat (first | with_reducible exact Below.refl _ _ | with_reducible assumption | with_reducible refine Below.drew ?_ | with_reducible refine Below.setCell ?_ ?_ _ | with_reducible refine Below.alloc ?_ ?_ _)); all_goals first | (simp; done) | (simp; omega) | omega) (h2.mono (by first | (simp; done) | (simp; omega) | omega))
  have S2 := h2.size
  have T2 := B2.size
  try simp at S2
  obtain ⟨k2, f2⟩ := bcell h2
  try simp at k2
  try simp at f2
  have Hc2 := Lib.hid h2
  clear h2
  have u2_0 : w.heap.size < w2.heap.size := by omega
  have u2_1 : w.heap.size + 1 < w2.heap.size := by omega
  cases h4 : shape 20 rob
  · go_wp2
    go_ret
    exact ⟨ret_bool (validScn_4 h4).symm, (by (repeat (first | with_reducible exact Below.refl _ _ | with_reducible assumption | with_reducible refine Below.drew ?_ | with_reducible refine Below.setCell ?_ ?_ _ | with_reducible refine Below.alloc ?_ ?_ _)); all_goals first | (simp; done) | (simp; omega) | omega)⟩
  have H4 := Lib.hid h4
  go_wp2
  obtain ⟨wo, rfl⟩ : ∃ wo : World, wo = w2 := ⟨_, rfl⟩
  have HCO := HO.out.open
  obtain ⟨oa', ocap', heq, _, _, hocell⟩ := HCO
  have HC := Lib.hid hocell; clear hocell
  clear hA h4
  go_loopw [39] (fun i wr => ∃ k : Nat, k ≤ obs.length ∧ i = .int .i64 k ∧ (obs.take k).all (shape 200) = true ∧ Below wo.heap.size wo wr) (fun i _ => obs.length - (intOf i).toNat)
  case atStart => exact ⟨0, Nat.zero_le _, rfl, by simp, Below.refl _ _⟩
  case round =>
    obtain ⟨k, hk, rfl, hall, hb⟩ := hrel
    have HA := Lib.hid hall; clear hall
    have S9 := hb.size
    have B9 : Below w.heap.size w wr := B2.trans (hb.mono (by omega))
    have T9 := B9.size
    obtain ⟨k9, f9⟩ := bcell hb
    have u9 : w.heap.size < wr.heap.size := by omega
    have HBL := Lib.hid hb
    clear hb
    by_cases hlt : k < obs.length
    · obtain ⟨b, off, u, hoa, hbs, c0, hu⟩ := HC.out k hlt
      obtain ⟨rfl, rfl⟩ : oa = oa' ∧ ocap = ocap' := by simpa using heq
      subst hoa
      have d0 := (B9.cell (p := ⟨b, off + k, none⟩) hbs).trans c0
      have HU := Lib.hid (hu.below B9); clear hu c0 heq
      go_wp2_with fail
      refine (l10Shape_c 200 (by omega) (by omega) _ _ _ HU.out).mono ?_
      rintro e w10 ⟨rfl, h10⟩
      have B10 : Below w.heap.size w w10 := Below.trans (by (repeat (first | with_reducible exact Below.refl _ _ | with_reducible assumption | with_reducible refine Below.drew ?_ | with_reducible refine Below.setCell ?_ ?_ _ | with_reducible refine Below.alloc ?_ ?_ _)); all_goals first | (simp; done) | (simp; omega) | omega) (h10.mono (by first | (simp; done) | (simp; omega) | omega))
      have S10 := h10.size
      have T10 := B10.size
      try simp at S10
      obtain ⟨k10, f10⟩ := bcell h10
      try simp at k10
      try simp at f10
      have Hc10 := Lib.hid h10
      clear h10
      have u10_0 : w.heap.size < w10.heap.size := by omega
      cases hs : shape 200 (obs.getD k [])
      · have hf := all_take_false _ obs [] k hlt hs
        have HF := Lib.hid hf; clear hf
        go_wp2
        go_ret
        exact ⟨ret_bool (validScn_5 HF.out).symm, (by (repeat (first | with_reducible exact Below.refl _ _ | with_reducible assumption | with_reducible refine Below.drew ?_ | with_reducible refine Below.setCell ?_ ?_ _ | with_reducible refine Below.alloc ?_ ?_ _)); all_goals first | (simp; done) | (simp; omega) | omega)⟩
      · have hf := take_all_snoc (shape 200) obs [] k hlt
        rw [HA.out, hs] at hf
        have HF := Lib.hid hf; clear hf
        go_wp2
        go_roundw
        case rel => exact ⟨k + 1, by omega, by go_num, HF.out, HBL.out.trans (Hc10.out.mono S9)⟩
        case measure => simp [intOf]; omega
    · clear heq
      have h5 : obs.all (shape 200) = true := by have := HA.out; rwa [List.take_of_length_le (by omega)] at this
      have H5 := Lib.hid h5; clear h5
      by_cases h6 : obs.length ≤ 4
      case neg =>
        go_wp2
        go_ret
        exact ⟨ret_bool (validScn_6 (by omega)).symm, (by (repeat (first | with_reducible exact Below.refl _ _ | with_reducible assumption | with_reducible refine Below.drew ?_ | with_reducible refine Below.setCell ?_ ?_ _ | with_reducible refine Below.alloc ?_ ?_ _)); all_goals first | (simp; done) | (simp; omega) | omega)⟩
      by_cases h7 : tabs.length ≤ 3
      case neg =>
        go_wp2
        go_ret
        exact ⟨ret_bool (validScn_7 (by omega)).symm, (by (repeat (first | with_reducible exact Below.refl _ _ | with_reducible assumption | with_reducible refine Below.drew ?_ | with_reducible refine Below.setCell ?_ ?_ _ | with_reducible refine Below.alloc ?_ ?_ _)); all_goals first | (simp; done) | (simp; omega) | omega)⟩
      go_wp2_with fail
      refine (l10Inside_c 200 (by omega) (by omega) tabs _ _ (HT.out.below B9)).mono ?_
      rintro e w4 ⟨rfl, h4⟩
      have B4 : Below w.heap.size w w4 := Below.trans (by (repeat (first | with_reducible exact Below.refl _ _ | with_reducible assumption | with_reducible refine Below.drew ?_ | with_reducible refine Below.setCell ?_ ?_ _ | with_reducible refine Below.alloc ?_ ?_ _)); all_goals first | (simp; done) | (simp; omega) | omega) (h4.mono (by first | (simp; done) | (simp; omega) | omega))
      have S4 := h4.size
      have T4 := B4.size
      try simp at S4
      obtain ⟨k4, f4⟩ := bcell h4
      try simp at k4
      try simp at f4
      have Hc4 := Lib.hid h4
      clear h4
      have u4_0 : w.heap.size < w4.heap.size := by omega
      go_wp2
      go_ret
      exact ⟨ret_bool (validScn_8 HAL.out (by omega) (by omega) H4.out H5.out (by omega) (by omega)).symm, (by (repeat (first | with_reducible exact Below.refl _ _ | with_reducible assumption | with_reducible refine Below.drew ?_ | with_reducible refine Below.setCell ?_ ?_ _ | with_reducible refine Below.alloc ?_ ?_ _)); all_goals first | (simp; done) | (simp; omega) | omega)⟩
end Go.Proofs.Ytemgpfojmdncjaa
