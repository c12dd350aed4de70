/-
  Contracts of a scene with an obstacle removed, of the program and of the reference.
-/
import Derived.Test.YtemgpfojmdncjaaCopyT
import Derived.Test.YtemgpfojmdncjaaDel
namespace Go.Proofs.Ytemgpfojmdncjaa
open Go.RowKit
attribute [local go_sem ↓] Go.wp_at_zero Go.wp_at_succ

theorem FpRow.split {w : World} : ∀ (t1 : List Ty) {t2 : List Ty} (d1 : List Dat) {d2 : List Dat} (v1 : List Value) {v2 : List Value} (bs : List Nat), d1.length = t1.length → v1.length = t1.length → FpRow w (t1 ++ t2) (d1 ++ d2) (v1 ++ v2) bs → ∃ b1 b2, bs = b1 ++ b2 ∧ FpRow w t1 d1 v1 b1 ∧ FpRow w t2 d2 v2 b2 := by
  intro t1
  induction t1 with
  | nil =>
    intro t2 d1 d2 v1 v2 bs hd hv h
    obtain rfl := List.eq_nil_of_length_eq_zero hd
    obtain rfl := List.eq_nil_of_length_eq_zero hv
    exact ⟨[], bs, rfl, rfl, h⟩
  | cons t ts ih =>
    intro t2 d1 d2 v1 v2 bs hd hv h
    match d1, v1, hd, hv with
    | d :: ds, v :: vs, hd, hv =>
      simp only [List.cons_append, FpRow] at h ⊢
      obtain ⟨c1, c2, rfl, p1, p2⟩ := h
      obtain ⟨e1, e2, rfl, q1, q2⟩ := ih ds vs c2 (by simpa using hd) (by simpa using hv) p2
      exact ⟨c1 ++ e1, e2, by simp, ⟨c1, e1, rfl, p1, q1⟩, q2⟩
/-- One part of a row of the call's own replaced by newer memory. -/
theorem Own.replace {w : World} {lo mid hi : Nat} {t1 t2 t3 : List Ty} {d1 d2 d2' d3 : List Dat} {v1 v2 v2' v3 : List Value} (h : Own w lo mid (t1 ++ t2 ++ t3) (d1 ++ d2 ++ d3) (v1 ++ v2 ++ v3)) (h' : Own w mid hi t2 d2' v2') (hm : lo ≤ mid) (hh : mid ≤ hi)
    (l1 : d1.length = t1.length) (l1' : v1.length = t1.length) (l2 : d2.length = t2.length) (l2' : v2.length = t2.length) : Own w lo hi (t1 ++ t2 ++ t3) (d1 ++ d2' ++ d3) (v1 ++ v2' ++ v3) := by
  obtain ⟨bs, p1, p2, p3⟩ := h
  obtain ⟨bs', q1, q2, q3⟩ := h'
  obtain ⟨c, b3, rfl, h12, h3⟩ := FpRow.split _ _ _ _ (by simp [l1, l2]) (by simp [l1', l2']) p1
  obtain ⟨b1, b2, rfl, h1, h2⟩ := FpRow.split _ _ _ _ l1 l1' h12
  have n1 := List.nodup_append.1 p2
  have n2 := List.nodup_append.1 n1.1
  refine ⟨b1 ++ bs' ++ b3, FpRow.append _ _ _ _ (FpRow.append _ _ _ _ h1 q1) h3, ?_, ?_⟩
  · refine List.nodup_append.2 ⟨List.nodup_append.2 ⟨n2.1, q2, fun a ha b hb e => ?_⟩, n1.2.1, fun a ha b hb e => ?_⟩
    · have := p3 a (by simp [ha]); have := q3 b hb; omega
    · rcases List.mem_append.1 ha with ha | ha
      · exact n1.2.2 a (by simp [ha]) b hb e
      · have := q3 a ha; have := p3 b (by simp [hb]); omega
  · intro b hb
    rcases List.mem_append.1 hb with hb | hb
    · rcases List.mem_append.1 hb with hb | hb
      · have := p3 b (by simp [hb]); omega
      · have := q3 b hb; omega
    · have := p3 b (by simp [hb]); omega

/-- Has a valid scene an obstacle of this number? -/
def hasOb (s : Scn) (k : Int) : Bool := validScn s && inR k 0 ((s.obst.length : Int) - 1)

theorem hasObstacle_c (s : Scn) (k : Int) (hs : s.obst.length ≤ 1048576) (v : Value) (w : World) (hv : SceneAt w v s) :
    Calls Try.prog 78 #[v, .int .i64 k] w fun e w' => e = .returned (.bool (hasOb s k)) ∧ Below w.heap.size w w' := by
  have HV := Lib.hid hv
  obtain ⟨r, o, t, rfl, hr, ho, ht⟩ := hv
  obtain ⟨ra, rcap, rfl, _, _, _⟩ := hr.open
  obtain ⟨oa, ocap, rfl, _, _, _⟩ := ho.open
  obtain ⟨ta, tcap, rfl, _, _, _⟩ := ht.open
  clear hr ho ht
  have he : hasOb s k = (validScn s && inR k 0 ((s.obst.length : Int) - 1)) := rfl
  rw [he]; clear he
  cases hvs : validScn s
  · have HS := Lib.hid hvs
    go_enter Try.func78, Try.ntmps78
    go_wp2_with fail
    refine (IsValidScene_c s _ _ (HV.out.below (by (repeat (first | with_reducible exact Below.refl _ _ | with_reducible assumption | with_reducible refine Below.drew ?_ | with_reducible refine Below.setCell ?_ ?_ _ | with_reducible refine Below.alloc ?_ ?_ _)); all_goals first | (simp; done) | (simp; omega) | omega))).mono ?_
    rintro e w1 ⟨rfl, h1⟩
    have B1 : Below w.heap.size w w1 := Below.trans (by (repeat (first | with_reducible exact Below.refl _ _ | with_reducible assumption | with_reducible refine Below.drew ?_ | with_reducible refine Below.setCell ?_ ?_ _ | with_reducible refine Below.alloc ?_ ?_ _)); all_goals first | (simp; done) | (simp; omega) | omega) (h1.mono (by first | (simp; done) | (simp; omega) | omega))
    have S1 := h1.size
    have T1 := B1.size
    try simp at S1
    obtain ⟨k1, f1⟩ := bcell h1
    try simp at k1
    try simp at f1
    have Hc1 := Lib.hid h1
    clear h1
    have u1_0 : w.heap.size < w1.heap.size := by omega
    go_wp2
    go_ret
    exact ⟨rfl, B1⟩
  · have HS := Lib.hid hvs
    go_enter Try.func78, Try.ntmps78
    go_wp2_with fail
    refine (IsValidScene_c s _ _ (HV.out.below (by (repeat (first | with_reducible exact Below.refl _ _ | with_reducible assumption | with_reducible refine Below.drew ?_ | with_reducible refine Below.setCell ?_ ?_ _ | with_reducible refine Below.alloc ?_ ?_ _)); all_goals first | (simp; done) | (simp; omega) | omega))).mono ?_
    rintro e w1 ⟨rfl, h1⟩
    have B1 : Below w.heap.size w w1 := Below.trans (by (repeat (first | with_reducible exact Below.refl _ _ | with_reducible assumption | with_reducible refine Below.drew ?_ | with_reducible refine Below.setCell ?_ ?_ _ | with_reducible refine Below.alloc ?_ ?_ _)); all_goals first | (simp; done) | (simp; omega) | omega) (h1.mono (by first | (simp; done) | (simp; omega) | omega))
    have S1 := h1.size
    have T1 := B1.size
    try simp at S1
    obtain ⟨k1, f1⟩ := bcell h1
    try simp at k1
    try simp at f1
    have Hc1 := Lib.hid h1
    clear h1
    have u1_0 : w.heap.size < w1.heap.size := by omega
    go_wp2_with fail
    refine (within_c _ _ _ _).mono ?_
    rintro e w' ⟨rfl, rfl⟩
    go_wp2
    go_ret
    exact ⟨rfl, B1⟩
/-- A scene with other obstacles. -/
def withOb (s : Scn) (l : List (List V2)) : Scn := ⟨s.low, s.high, s.robot, l, s.tables⟩
/-- A scene in memory of the call's own, and a truth value. -/
def ScnBool (w : World) (r : Scn) (b : Bool) (e : Ending) (w' : World) : Prop := ∃ cs : List Value, e = .returned (.tuple #[.agg cs.toArray, .bool b]) ∧ Own w' w.heap.size w'.heap.size [.int, .int, .int, .int, .sl 31 [.int, .int], .sl 36 [.sl 31 [.int, .int]], .sl 31 [.int, .int]] (scnD r) cs ∧ Below w.heap.size w w'

theorem scn_shape {w : World} {s : Scn} {e e' : Nat} {cs : List Value} (h : RdRow w [.int, .int, .int, .int, .sl e [.int, .int], .sl e' [.sl e [.int, .int]], .sl e [.int, .int]] (scnD s) cs) : ∃ a1 c1 a2 c2 a3 c3, cs = [.int .i64 s.low.1, .int .i64 s.low.2, .int .i64 s.high.1, .int .i64 s.high.2, .slice a1 (vecsD s.robot).length c1, .slice a2 (areasD s.obst).length c2, .slice a3 (vecsD s.tables).length c3] := by
  obtain ⟨a, _, rfl, h0, h⟩ := RdRow.cons2 h
  obtain ⟨b, _, rfl, h1, h⟩ := RdRow.cons2 h
  obtain ⟨c, _, rfl, h2, h⟩ := RdRow.cons2 h
  obtain ⟨d, _, rfl, h3, h⟩ := RdRow.cons2 h
  obtain ⟨r, _, rfl, h4, h⟩ := RdRow.cons2 h
  obtain ⟨o, _, rfl, h5, h⟩ := RdRow.cons2 h
  obtain ⟨t, _, rfl, h6, h⟩ := RdRow.cons2 h
  obtain ⟨-, rfl⟩ := RdRow.nil_inv h
  obtain rfl := Rd.int2 h0
  obtain rfl := Rd.int2 h1
  obtain rfl := Rd.int2 h2
  obtain rfl := Rd.int2 h3
  obtain ⟨a1, c1, rfl, -⟩ := Rd.sl2 h4
  obtain ⟨a2, c2, rfl, -⟩ := Rd.sl2 h5
  obtain ⟨a3, c3, rfl, -⟩ := Rd.sl2 h6
  exact ⟨_, _, _, _, _, _, rfl⟩

set_option maxRecDepth 100000 in
set_option maxHeartbeats 4000000 in
theorem turned_c (s : Scn) (h1 : s.robot.length ≤ 1048576) (h2 : s.obst.length ≤ 1048576) (h3 : ∀ x ∈ s.obst, x.length ≤ 1048576) (h4 : s.tables.length ≤ 1048576) (l : List (List V2)) (h5 : l.length ≤ 1048576) (h6 : ∀ x ∈ l, x.length ≤ 1048576) (v u : Value) (w : World) (hv : SceneAt w v s) (hu : VecSSAt w u l) :
    Calls Try.prog 80 #[v, u] w (ScnBool w (if validScn (withOb s l) then withOb s l else s) (validScn (withOb s l))) := by
  have HV := Lib.hid hv
  have HU := Lib.hid hu
  obtain ⟨r, o, t, rfl, hr, ho, ht⟩ := hv
  obtain ⟨ra, rcap, rfl, _, _, _⟩ := hr.open
  obtain ⟨oa, ocap, rfl, _, _, _⟩ := ho.open
  obtain ⟨ta, tcap, rfl, _, _, _⟩ := ht.open
  obtain ⟨ua, ucap, rfl, _, _, _⟩ := hu.open
  clear hr ho ht hu
  have H3 := Lib.hid h3
  have H6 := Lib.hid h6
  clear h3 h6
  obtain ⟨ok, hok⟩ : ∃ ok, validScn (withOb s l) = ok := ⟨_, rfl⟩
  rw [hok]
  have HOK := Lib.hid hok
  clear hok
  obtain ⟨res, hres⟩ : ∃ r, (if ok = true then withOb s l else s) = r := ⟨_, rfl⟩
  rw [hres]
  have HRES := Lib.hid hres
  clear hres
  go_enter Try.func80, Try.ntmps80
  go_wp2_with fail
  refine (ownScene_c s h1 h2 H3.out h4 _ _ (HV.out.below (by (repeat (first | with_reducible exact Below.refl _ _ | with_reducible assumption | with_reducible refine Below.drew ?_ | with_reducible refine Below.setCell ?_ ?_ _ | with_reducible refine Below.alloc ?_ ?_ _)); all_goals first | (simp; done) | (simp; omega) | omega))).mono ?_
  rintro e w1 ⟨cs1, rfl, ho1, h1⟩
  have B1 : Below w.heap.size w w1 := Below.trans (by (repeat (first | with_reducible exact Below.refl _ _ | with_reducible assumption | with_reducible refine Below.drew ?_ | with_reducible refine Below.setCell ?_ ?_ _ | with_reducible refine Below.alloc ?_ ?_ _)); all_goals first | (simp; done) | (simp; omega) | omega) (h1.mono (by first | (simp; done) | (simp; omega) | omega))
  have S1 := h1.size
  have T1 := B1.size
  try simp at S1
  obtain ⟨k1, f1⟩ := bcell h1
  try simp at k1
  try simp at f1
  have Hc1 := Lib.hid h1
  clear h1
  have u1_0 : w.heap.size < w1.heap.size := by omega
  have u1_1 : w.heap.size + 1 < w1.heap.size := by omega
  obtain ⟨a1, c1, a2, c2, a3, c3, rfl⟩ := scn_shape ho1.rd
  simp only [World.size_alloc] at ho1
  have O1 := Lib.hid ho1
  clear ho1
  go_wp2_with fail
  refine (ownAreas_c l h5 H6.out _ _ (HU.out.below (by (repeat (first | with_reducible exact Below.refl _ _ | with_reducible assumption | with_reducible refine Below.drew ?_ | with_reducible refine Below.setCell ?_ ?_ _ | with_reducible refine Below.alloc ?_ ?_ _)); all_goals first | (simp; done) | (simp; omega) | omega))).mono ?_
  rintro e w2 ⟨u2, rfl, ho2, h2⟩
  have B2 : Below w.heap.size w w2 := Below.trans (by (repeat (first | with_reducible exact Below.refl _ _ | with_reducible assumption | with_reducible refine Below.drew ?_ | with_reducible refine Below.setCell ?_ ?_ _ | with_reducible refine Below.alloc ?_ ?_ _)); all_goals first | (simp; done) | (simp; omega) | omega) (h2.mono (by first | (simp; done) | (simp; omega) | omega))
  have S2 := h2.size
  have T2 := B2.size
  try simp at S2
  obtain ⟨k2, f2⟩ := bcell h2
  try simp at k2
  try simp at f2
  have Hc2 := Lib.hid h2
  clear h2
  have u2_0 : w.heap.size < w2.heap.size := by omega
  have u2_1 : w.heap.size + 1 < w2.heap.size := by omega
  obtain ⟨b2, e2, rfl⟩ := ho2.shape
  simp only [World.size_alloc] at ho2
  have O2 := Lib.hid ho2
  clear ho2
  have y1 : w1.heap.size < w2.heap.size := by omega
  go_wp2_with fail
  have OR : Hid (RdRow (w2.setCell ⟨w1.heap.size, 5, none⟩ (.slice b2 (areasD l).length e2)) [.int, .int, .int, .int, .sl 31 [.int, .int], .sl 36 [.sl 31 [.int, .int]], .sl 31 [.int, .int]] (scnD (withOb s l)) [.int .i64 s.low.1, .int .i64 s.low.2, .int .i64 s.high.1, .int .i64 s.high.2, .slice a1 (vecsD s.robot).length c1, .slice b2 (areasD l).length e2, .slice a3 (vecsD s.tables).length c3] ∧ Own (w2.setCell ⟨w1.heap.size, 5, none⟩ (.slice b2 (areasD l).length e2)) (w.heap.size + 2) w2.heap.size [.int, .int, .int, .int, .sl 31 [.int, .int], .sl 36 [.sl 31 [.int, .int]], .sl 31 [.int, .int]] (scnD (withOb s l)) [.int .i64 s.low.1, .int .i64 s.low.2, .int .i64 s.high.1, .int .i64 s.high.2, .slice a1 (vecsD s.robot).length c1, .slice b2 (areasD l).length e2, .slice a3 (vecsD s.tables).length c3]) := by
    have o1 := ((((O1.out.below (by (repeat (first | with_reducible exact Below.refl _ _ | with_reducible assumption | with_reducible refine Below.drew ?_ | with_reducible refine Below.setCell ?_ ?_ _ | with_reducible refine Below.alloc ?_ ?_ _)); all_goals first | (simp; done) | (simp; omega) | omega)).below Hc2.out).only (S := fun b => b = w1.heap.size) (w' := w2.setCell ⟨w1.heap.size, 5, none⟩ (.slice b2 (areasD l).length e2)) (OnlyIn.setCell (S := fun b => b = w1.heap.size) (OnlyIn.refl _ w2) (p := ⟨w1.heap.size, 5, none⟩) rfl _) (fun k hk => .inr (by omega)))).mono (Nat.le_refl _) (Nat.le_succ _)
    have o2 := O2.out.only (S := fun b => b = w1.heap.size) (w' := w2.setCell ⟨w1.heap.size, 5, none⟩ (.slice b2 (areasD l).length e2)) (OnlyIn.setCell (S := fun b => b = w1.heap.size) (OnlyIn.refl _ w2) (p := ⟨w1.heap.size, 5, none⟩) rfl _) (fun k hk => .inl (by omega))
    have h : Own (w2.setCell ⟨w1.heap.size, 5, none⟩ (.slice b2 (areasD l).length e2)) (w.heap.size + 2) w2.heap.size [.int, .int, .int, .int, .sl 31 [.int, .int], .sl 36 [.sl 31 [.int, .int]], .sl 31 [.int, .int]] (scnD (withOb s l)) [.int .i64 s.low.1, .int .i64 s.low.2, .int .i64 s.high.1, .int .i64 s.high.2, .slice a1 (vecsD s.robot).length c1, .slice b2 (areasD l).length e2, .slice a3 (vecsD s.tables).length c3] :=
      Own.replace (t1 := [.int, .int, .int, .int, .sl 31 [.int, .int]]) (t2 := [.sl 36 [.sl 31 [.int, .int]]]) (t3 := [.sl 31 [.int, .int]]) (d1 := [.int s.low.1, .int s.low.2, .int s.high.1, .int s.high.2, .sl (vecsD s.robot)]) (d2 := [.sl (areasD s.obst)]) (d2' := [.sl (areasD l)]) (d3 := [.sl (vecsD s.tables)]) (v1 := [.int .i64 s.low.1, .int .i64 s.low.2, .int .i64 s.high.1, .int .i64 s.high.2, .slice a1 (vecsD s.robot).length c1]) (v2 := [.slice a2 (areasD s.obst).length c2]) (v2' := [.slice b2 (areasD l).length e2]) (v3 := [.slice a3 (vecsD s.tables).length c3]) o1 o2 (by omega) (by omega) rfl rfl rfl rfl
    exact ⟨h.rd, h⟩
  refine (IsValidScene_c (withOb s l) _ _ OR.out.1.scene).mono ?_
  rintro e w3 ⟨rfl, h3⟩
  have B3 : Below w.heap.size w w3 := Below.trans (by (repeat (first | with_reducible exact Below.refl _ _ | with_reducible assumption | with_reducible refine Below.drew ?_ | with_reducible refine Below.setCell ?_ ?_ _ | with_reducible refine Below.alloc ?_ ?_ _)); all_goals first | (simp; done) | (simp; omega) | omega) (h3.mono (by first | (simp; done) | (simp; omega) | omega))
  have S3 := h3.size
  have T3 := B3.size
  try simp at S3
  obtain ⟨k3, f3⟩ := bcell h3
  try simp at k3
  try simp at f3
  have Hc3 := Lib.hid h3
  clear h3
  have u3_0 : w.heap.size < w3.heap.size := by omega
  have u3_1 : w.heap.size + 1 < w3.heap.size := by omega
  rw [HOK.out]
  have y2 : w1.heap.size < w3.heap.size := by omega
  have O3 := Lib.hid (OR.out.2.below Hc3.out)
  cases ok with
  | true =>
    have qs : ∀ i, i < 7 → (w3.cell? ⟨w.heap.size + 1, 0 + i, none⟩).isSome = true := fun i hi => by
      have : i = 0 ∨ i = 1 ∨ i = 2 ∨ i = 3 ∨ i = 4 ∨ i = 5 ∨ i = 6 := by omega
      rcases this with rfl | rfl | rfl | rfl | rfl | rfl | rfl <;> go_simp
    have q0 : (((((((w3.setCell ⟨w.heap.size + 1, 0, none⟩ (.int .i64 s.low.1)).setCell ⟨w.heap.size + 1, 1, none⟩ (.int .i64 s.low.2)).setCell ⟨w.heap.size + 1, 2, none⟩ (.int .i64 s.high.1)).setCell ⟨w.heap.size + 1, 3, none⟩ (.int .i64 s.high.2)).setCell ⟨w.heap.size + 1, 4, none⟩ (.slice a1 (vecsD s.robot).length c1)).setCell ⟨w.heap.size + 1, 5, none⟩ (.slice b2 (areasD l).length e2)).setCell ⟨w.heap.size + 1, 6, none⟩ (.slice a3 (vecsD s.tables).length c3)).cell? ⟨w.heap.size + 1, 0, none⟩ = some (.int .i64 s.low.1) := (by have q := stN_cell (w.heap.size + 1) [.int .i64 s.low.1, .int .i64 s.low.2, .int .i64 s.high.1, .int .i64 s.high.2, .slice a1 (vecsD s.robot).length c1, .slice b2 (areasD l).length e2, .slice a3 (vecsD s.tables).length c3] w3 0 qs 0 (by simp); rw [Nat.zero_add] at q; exact q); have q1 : (((((((w3.setCell ⟨w.heap.size + 1, 0, none⟩ (.int .i64 s.low.1)).setCell ⟨w.heap.size + 1, 1, none⟩ (.int .i64 s.low.2)).setCell ⟨w.heap.size + 1, 2, none⟩ (.int .i64 s.high.1)).setCell ⟨w.heap.size + 1, 3, none⟩ (.int .i64 s.high.2)).setCell ⟨w.heap.size + 1, 4, none⟩ (.slice a1 (vecsD s.robot).length c1)).setCell ⟨w.heap.size + 1, 5, none⟩ (.slice b2 (areasD l).length e2)).setCell ⟨w.heap.size + 1, 6, none⟩ (.slice a3 (vecsD s.tables).length c3)).cell? ⟨w.heap.size + 1, 1, none⟩ = some (.int .i64 s.low.2) := (by have q := stN_cell (w.heap.size + 1) [.int .i64 s.low.1, .int .i64 s.low.2, .int .i64 s.high.1, .int .i64 s.high.2, .slice a1 (vecsD s.robot).length c1, .slice b2 (areasD l).length e2, .slice a3 (vecsD s.tables).length c3] w3 0 qs 1 (by simp); rw [Nat.zero_add] at q; exact q); have q2 : (((((((w3.setCell ⟨w.heap.size + 1, 0, none⟩ (.int .i64 s.low.1)).setCell ⟨w.heap.size + 1, 1, none⟩ (.int .i64 s.low.2)).setCell ⟨w.heap.size + 1, 2, none⟩ (.int .i64 s.high.1)).setCell ⟨w.heap.size + 1, 3, none⟩ (.int .i64 s.high.2)).setCell ⟨w.heap.size + 1, 4, none⟩ (.slice a1 (vecsD s.robot).length c1)).setCell ⟨w.heap.size + 1, 5, none⟩ (.slice b2 (areasD l).length e2)).setCell ⟨w.heap.size + 1, 6, none⟩ (.slice a3 (vecsD s.tables).length c3)).cell? ⟨w.heap.size + 1, 2, none⟩ = some (.int .i64 s.high.1) := (by have q := stN_cell (w.heap.size + 1) [.int .i64 s.low.1, .int .i64 s.low.2, .int .i64 s.high.1, .int .i64 s.high.2, .slice a1 (vecsD s.robot).length c1, .slice b2 (areasD l).length e2, .slice a3 (vecsD s.tables).length c3] w3 0 qs 2 (by simp); rw [Nat.zero_add] at q; exact q); have q3 : (((((((w3.setCell ⟨w.heap.size + 1, 0, none⟩ (.int .i64 s.low.1)).setCell ⟨w.heap.size + 1, 1, none⟩ (.int .i64 s.low.2)).setCell ⟨w.heap.size + 1, 2, none⟩ (.int .i64 s.high.1)).setCell ⟨w.heap.size + 1, 3, none⟩ (.int .i64 s.high.2)).setCell ⟨w.heap.size + 1, 4, none⟩ (.slice a1 (vecsD s.robot).length c1)).setCell ⟨w.heap.size + 1, 5, none⟩ (.slice b2 (areasD l).length e2)).setCell ⟨w.heap.size + 1, 6, none⟩ (.slice a3 (vecsD s.tables).length c3)).cell? ⟨w.heap.size + 1, 3, none⟩ = some (.int .i64 s.high.2) := (by have q := stN_cell (w.heap.size + 1) [.int .i64 s.low.1, .int .i64 s.low.2, .int .i64 s.high.1, .int .i64 s.high.2, .slice a1 (vecsD s.robot).length c1, .slice b2 (areasD l).length e2, .slice a3 (vecsD s.tables).length c3] w3 0 qs 3 (by simp); rw [Nat.zero_add] at q; exact q); have q4 : (((((((w3.setCell ⟨w.heap.size + 1, 0, none⟩ (.int .i64 s.low.1)).setCell ⟨w.heap.size + 1, 1, none⟩ (.int .i64 s.low.2)).setCell ⟨w.heap.size + 1, 2, none⟩ (.int .i64 s.high.1)).setCell ⟨w.heap.size + 1, 3, none⟩ (.int .i64 s.high.2)).setCell ⟨w.heap.size + 1, 4, none⟩ (.slice a1 (vecsD s.robot).length c1)).setCell ⟨w.heap.size + 1, 5, none⟩ (.slice b2 (areasD l).length e2)).setCell ⟨w.heap.size + 1, 6, none⟩ (.slice a3 (vecsD s.tables).length c3)).cell? ⟨w.heap.size + 1, 4, none⟩ = some (.slice a1 (vecsD s.robot).length c1) := (by have q := stN_cell (w.heap.size + 1) [.int .i64 s.low.1, .int .i64 s.low.2, .int .i64 s.high.1, .int .i64 s.high.2, .slice a1 (vecsD s.robot).length c1, .slice b2 (areasD l).length e2, .slice a3 (vecsD s.tables).length c3] w3 0 qs 4 (by simp); rw [Nat.zero_add] at q; exact q); have q5 : (((((((w3.setCell ⟨w.heap.size + 1, 0, none⟩ (.int .i64 s.low.1)).setCell ⟨w.heap.size + 1, 1, none⟩ (.int .i64 s.low.2)).setCell ⟨w.heap.size + 1, 2, none⟩ (.int .i64 s.high.1)).setCell ⟨w.heap.size + 1, 3, none⟩ (.int .i64 s.high.2)).setCell ⟨w.heap.size + 1, 4, none⟩ (.slice a1 (vecsD s.robot).length c1)).setCell ⟨w.heap.size + 1, 5, none⟩ (.slice b2 (areasD l).length e2)).setCell ⟨w.heap.size + 1, 6, none⟩ (.slice a3 (vecsD s.tables).length c3)).cell? ⟨w.heap.size + 1, 5, none⟩ = some (.slice b2 (areasD l).length e2) := (by have q := stN_cell (w.heap.size + 1) [.int .i64 s.low.1, .int .i64 s.low.2, .int .i64 s.high.1, .int .i64 s.high.2, .slice a1 (vecsD s.robot).length c1, .slice b2 (areasD l).length e2, .slice a3 (vecsD s.tables).length c3] w3 0 qs 5 (by simp); rw [Nat.zero_add] at q; exact q); have q6 : (((((((w3.setCell ⟨w.heap.size + 1, 0, none⟩ (.int .i64 s.low.1)).setCell ⟨w.heap.size + 1, 1, none⟩ (.int .i64 s.low.2)).setCell ⟨w.heap.size + 1, 2, none⟩ (.int .i64 s.high.1)).setCell ⟨w.heap.size + 1, 3, none⟩ (.int .i64 s.high.2)).setCell ⟨w.heap.size + 1, 4, none⟩ (.slice a1 (vecsD s.robot).length c1)).setCell ⟨w.heap.size + 1, 5, none⟩ (.slice b2 (areasD l).length e2)).setCell ⟨w.heap.size + 1, 6, none⟩ (.slice a3 (vecsD s.tables).length c3)).cell? ⟨w.heap.size + 1, 6, none⟩ = some (.slice a3 (vecsD s.tables).length c3) := (by have q := stN_cell (w.heap.size + 1) [.int .i64 s.low.1, .int .i64 s.low.2, .int .i64 s.high.1, .int .i64 s.high.2, .slice a1 (vecsD s.robot).length c1, .slice b2 (areasD l).length e2, .slice a3 (vecsD s.tables).length c3] w3 0 qs 6 (by simp); rw [Nat.zero_add] at q; exact q)
    have HQ := Lib.hid (And.intro q0 (And.intro q1 (And.intro q2 (And.intro q3 (And.intro q4 (And.intro q5 q6))))))
    clear q0 q1 q2 q3 q4 q5 q6 qs
    go_wp2
    obtain ⟨q0, q1, q2, q3, q4, q5, q6⟩ := HQ.out
    refine bodyPost_ret (v := .tuple #[.agg #[.int .i64 s.low.1, .int .i64 s.low.2, .int .i64 s.high.1, .int .i64 s.high.2, .slice a1 (vecsD s.robot).length c1, .slice b2 (areasD l).length e2, .slice a3 (vecsD s.tables).length c3], .bool true]) (by simp [results, Try.results80, go_sem, q0, q1, q2, q3, q4, q5, q6]) rfl ⟨_, rfl, ?_, ?_⟩
    · have hr : res = withOb s l := HRES.out.symm
      rw [hr]
      refine Own.mono (lo := w.heap.size + 2) (hi := w2.heap.size) ?_ (by omega) (by simp only [World.size_setCell]; omega)
      refine O3.out.only (S := fun b => b = w.heap.size + 1) ?_ (fun k hk => .inl (by subst hk; omega))
      · repeat (first | with_reducible exact OnlyIn.refl _ _ | with_reducible refine OnlyIn.setCell ?_ ?_ _)
        all_goals rfl
    · exact (by (repeat (first | with_reducible exact Below.refl _ _ | with_reducible assumption | with_reducible refine Below.drew ?_ | with_reducible refine Below.setCell ?_ ?_ _ | with_reducible refine Below.alloc ?_ ?_ _)); all_goals first | (simp; done) | (simp; omega) | omega)
  | false =>
    go_wp2_with fail
    refine (ownScene_c s h1 h2 H3.out h4 _ _ (HV.out.below (by (repeat (first | with_reducible exact Below.refl _ _ | with_reducible assumption | with_reducible refine Below.drew ?_ | with_reducible refine Below.setCell ?_ ?_ _ | with_reducible refine Below.alloc ?_ ?_ _)); all_goals first | (simp; done) | (simp; omega) | omega))).mono ?_
    rintro e w4 ⟨cs4, rfl, ho4, h4⟩
    have B4 : Below w.heap.size w w4 := Below.trans (by (repeat (first | with_reducible exact Below.refl _ _ | with_reducible assumption | with_reducible refine Below.drew ?_ | with_reducible refine Below.setCell ?_ ?_ _ | with_reducible refine Below.alloc ?_ ?_ _)); all_goals first | (simp; done) | (simp; omega) | omega) (h4.mono (by first | (simp; done) | (simp; omega) | omega))
    have S4 := h4.size
    have T4 := B4.size
    try simp at S4
    obtain ⟨k4, f4⟩ := bcell h4
    try simp at k4
    try simp at f4
    have Hc4 := Lib.hid h4
    clear h4
    have u4_0 : w.heap.size < w4.heap.size := by omega
    have u4_1 : w.heap.size + 1 < w4.heap.size := by omega
    obtain ⟨x1, y1_, x2, y2_, x3, y3_, rfl⟩ := scn_shape ho4.rd
    have O4 := Lib.hid ho4
    clear ho4
    have qs : ∀ i, i < 7 → (w4.cell? ⟨w.heap.size + 1, 0 + i, none⟩).isSome = true := fun i hi => by
      have : i = 0 ∨ i = 1 ∨ i = 2 ∨ i = 3 ∨ i = 4 ∨ i = 5 ∨ i = 6 := by omega
      rcases this with rfl | rfl | rfl | rfl | rfl | rfl | rfl <;> go_simp
    have q0 : (((((((w4.setCell ⟨w.heap.size + 1, 0, none⟩ (.int .i64 s.low.1)).setCell ⟨w.heap.size + 1, 1, none⟩ (.int .i64 s.low.2)).setCell ⟨w.heap.size + 1, 2, none⟩ (.int .i64 s.high.1)).setCell ⟨w.heap.size + 1, 3, none⟩ (.int .i64 s.high.2)).setCell ⟨w.heap.size + 1, 4, none⟩ (.slice x1 (vecsD s.robot).length y1_)).setCell ⟨w.heap.size + 1, 5, none⟩ (.slice x2 (areasD s.obst).length y2_)).setCell ⟨w.heap.size + 1, 6, none⟩ (.slice x3 (vecsD s.tables).length y3_)).cell? ⟨w.heap.size + 1, 0, none⟩ = some (.int .i64 s.low.1) := (by have q := stN_cell (w.heap.size + 1) [.int .i64 s.low.1, .int .i64 s.low.2, .int .i64 s.high.1, .int .i64 s.high.2, .slice x1 (vecsD s.robot).length y1_, .slice x2 (areasD s.obst).length y2_, .slice x3 (vecsD s.tables).length y3_] w4 0 qs 0 (by simp); rw [Nat.zero_add] at q; exact q); have q1 : (((((((w4.setCell ⟨w.heap.size + 1, 0, none⟩ (.int .i64 s.low.1)).setCell ⟨w.heap.size + 1, 1, none⟩ (.int .i64 s.low.2)).setCell ⟨w.heap.size + 1, 2, none⟩ (.int .i64 s.high.1)).setCell ⟨w.heap.size + 1, 3, none⟩ (.int .i64 s.high.2)).setCell ⟨w.heap.size + 1, 4, none⟩ (.slice x1 (vecsD s.robot).length y1_)).setCell ⟨w.heap.size + 1, 5, none⟩ (.slice x2 (areasD s.obst).length y2_)).setCell ⟨w.heap.size + 1, 6, none⟩ (.slice x3 (vecsD s.tables).length y3_)).cell? ⟨w.heap.size + 1, 1, none⟩ = some (.int .i64 s.low.2) := (by have q := stN_cell (w.heap.size + 1) [.int .i64 s.low.1, .int .i64 s.low.2, .int .i64 s.high.1, .int .i64 s.high.2, .slice x1 (vecsD s.robot).length y1_, .slice x2 (areasD s.obst).length y2_, .slice x3 (vecsD s.tables).length y3_] w4 0 qs 1 (by simp); rw [Nat.zero_add] at q; exact q); have q2 : (((((((w4.setCell ⟨w.heap.size + 1, 0, none⟩ (.int .i64 s.low.1)).setCell ⟨w.heap.size + 1, 1, none⟩ (.int .i64 s.low.2)).setCell ⟨w.heap.size + 1, 2, none⟩ (.int .i64 s.high.1)).setCell ⟨w.heap.size + 1, 3, none⟩ (.int .i64 s.high.2)).setCell ⟨w.heap.size + 1, 4, none⟩ (.slice x1 (vecsD s.robot).length y1_)).setCell ⟨w.heap.size + 1, 5, none⟩ (.slice x2 (areasD s.obst).length y2_)).setCell ⟨w.heap.size + 1, 6, none⟩ (.slice x3 (vecsD s.tables).length y3_)).cell? ⟨w.heap.size + 1, 2, none⟩ = some (.int .i64 s.high.1) := (by have q := stN_cell (w.heap.size + 1) [.int .i64 s.low.1, .int .i64 s.low.2, .int .i64 s.high.1, .int .i64 s.high.2, .slice x1 (vecsD s.robot).length y1_, .slice x2 (areasD s.obst).length y2_, .slice x3 (vecsD s.tables).length y3_] w4 0 qs 2 (by simp); rw [Nat.zero_add] at q; exact q); have q3 : (((((((w4.setCell ⟨w.heap.size + 1, 0, none⟩ (.int .i64 s.low.1)).setCell ⟨w.heap.size + 1, 1, none⟩ (.int .i64 s.low.2)).setCell ⟨w.heap.size + 1, 2, none⟩ (.int .i64 s.high.1)).setCell ⟨w.heap.size + 1, 3, none⟩ (.int .i64 s.high.2)).setCell ⟨w.heap.size + 1, 4, none⟩ (.slice x1 (vecsD s.robot).length y1_)).setCell ⟨w.heap.size + 1, 5, none⟩ (.slice x2 (areasD s.obst).length y2_)).setCell ⟨w.heap.size + 1, 6, none⟩ (.slice x3 (vecsD s.tables).length y3_)).cell? ⟨w.heap.size + 1, 3, none⟩ = some (.int .i64 s.high.2) := (by have q := stN_cell (w.heap.size + 1) [.int .i64 s.low.1, .int .i64 s.low.2, .int .i64 s.high.1, .int .i64 s.high.2, .slice x1 (vecsD s.robot).length y1_, .slice x2 (areasD s.obst).length y2_, .slice x3 (vecsD s.tables).length y3_] w4 0 qs 3 (by simp); rw [Nat.zero_add] at q; exact q); have q4 : (((((((w4.setCell ⟨w.heap.size + 1, 0, none⟩ (.int .i64 s.low.1)).setCell ⟨w.heap.size + 1, 1, none⟩ (.int .i64 s.low.2)).setCell ⟨w.heap.size + 1, 2, none⟩ (.int .i64 s.high.1)).setCell ⟨w.heap.size + 1, 3, none⟩ (.int .i64 s.high.2)).setCell ⟨w.heap.size + 1, 4, none⟩ (.slice x1 (vecsD s.robot).length y1_)).setCell ⟨w.heap.size + 1, 5, none⟩ (.slice x2 (areasD s.obst).length y2_)).setCell ⟨w.heap.size + 1, 6, none⟩ (.slice x3 (vecsD s.tables).length y3_)).cell? ⟨w.heap.size + 1, 4, none⟩ = some (.slice x1 (vecsD s.robot).length y1_) := (by have q := stN_cell (w.heap.size + 1) [.int .i64 s.low.1, .int .i64 s.low.2, .int .i64 s.high.1, .int .i64 s.high.2, .slice x1 (vecsD s.robot).length y1_, .slice x2 (areasD s.obst).length y2_, .slice x3 (vecsD s.tables).length y3_] w4 0 qs 4 (by simp); rw [Nat.zero_add] at q; exact q); have q5 : (((((((w4.setCell ⟨w.heap.size + 1, 0, none⟩ (.int .i64 s.low.1)).setCell ⟨w.heap.size + 1, 1, none⟩ (.int .i64 s.low.2)).setCell ⟨w.heap.size + 1, 2, none⟩ (.int .i64 s.high.1)).setCell ⟨w.heap.size + 1, 3, none⟩ (.int .i64 s.high.2)).setCell ⟨w.heap.size + 1, 4, none⟩ (.slice x1 (vecsD s.robot).length y1_)).setCell ⟨w.heap.size + 1, 5, none⟩ (.slice x2 (areasD s.obst).length y2_)).setCell ⟨w.heap.size + 1, 6, none⟩ (.slice x3 (vecsD s.tables).length y3_)).cell? ⟨w.heap.size + 1, 5, none⟩ = some (.slice x2 (areasD s.obst).length y2_) := (by have q := stN_cell (w.heap.size + 1) [.int .i64 s.low.1, .int .i64 s.low.2, .int .i64 s.high.1, .int .i64 s.high.2, .slice x1 (vecsD s.robot).length y1_, .slice x2 (areasD s.obst).length y2_, .slice x3 (vecsD s.tables).length y3_] w4 0 qs 5 (by simp); rw [Nat.zero_add] at q; exact q); have q6 : (((((((w4.setCell ⟨w.heap.size + 1, 0, none⟩ (.int .i64 s.low.1)).setCell ⟨w.heap.size + 1, 1, none⟩ (.int .i64 s.low.2)).setCell ⟨w.heap.size + 1, 2, none⟩ (.int .i64 s.high.1)).setCell ⟨w.heap.size + 1, 3, none⟩ (.int .i64 s.high.2)).setCell ⟨w.heap.size + 1, 4, none⟩ (.slice x1 (vecsD s.robot).length y1_)).setCell ⟨w.heap.size + 1, 5, none⟩ (.slice x2 (areasD s.obst).length y2_)).setCell ⟨w.heap.size + 1, 6, none⟩ (.slice x3 (vecsD s.tables).length y3_)).cell? ⟨w.heap.size + 1, 6, none⟩ = some (.slice x3 (vecsD s.tables).length y3_) := (by have q := stN_cell (w.heap.size + 1) [.int .i64 s.low.1, .int .i64 s.low.2, .int .i64 s.high.1, .int .i64 s.high.2, .slice x1 (vecsD s.robot).length y1_, .slice x2 (areasD s.obst).length y2_, .slice x3 (vecsD s.tables).length y3_] w4 0 qs 6 (by simp); rw [Nat.zero_add] at q; exact q)
    have HQ := Lib.hid (And.intro q0 (And.intro q1 (And.intro q2 (And.intro q3 (And.intro q4 (And.intro q5 q6))))))
    clear q0 q1 q2 q3 q4 q5 q6 qs
    go_wp2
    obtain ⟨q0, q1, q2, q3, q4, q5, q6⟩ := HQ.out
    refine bodyPost_ret (v := .tuple #[.agg #[.int .i64 s.low.1, .int .i64 s.low.2, .int .i64 s.high.1, .int .i64 s.high.2, .slice x1 (vecsD s.robot).length y1_, .slice x2 (areasD s.obst).length y2_, .slice x3 (vecsD s.tables).length y3_], .bool false]) (by simp [results, Try.results80, go_sem, q0, q1, q2, q3, q4, q5, q6]) rfl ⟨_, rfl, ?_, ?_⟩
    · have hr : res = s := HRES.out.symm
      rw [hr]
      refine Own.mono (lo := w3.heap.size) (hi := w4.heap.size) ?_ (by omega) (by simp only [World.size_setCell]; omega)
      refine O4.out.only (S := fun b => b = w.heap.size + 1) ?_ (fun k hk => .inl (by subst hk; omega))
      · repeat (first | with_reducible exact OnlyIn.refl _ _ | with_reducible refine OnlyIn.setCell ?_ ?_ _)
        all_goals rfl
    · exact (by (repeat (first | with_reducible exact Below.refl _ _ | with_reducible assumption | with_reducible refine Below.drew ?_ | with_reducible refine Below.setCell ?_ ?_ _ | with_reducible refine Below.alloc ?_ ?_ _)); all_goals first | (simp; done) | (simp; omega) | omega)
end Go.Proofs.Ytemgpfojmdncjaa
