/-
  Contract of the program's RemoveObstacle.
-/
import Derived.Test.YtemgpfojmdncjaaObst
namespace Go.Proofs.Ytemgpfojmdncjaa
open Go.RowKit
attribute [local go_sem ↓] Go.wp_at_zero Go.wp_at_succ

theorem turned_ok (s : Scn) (h1 : s.robot.length ≤ 1048576) (h2 : s.obst.length ≤ 1048576) (h3 : ∀ x ∈ s.obst, x.length ≤ 1048576) (h4 : s.tables.length ≤ 1048576) (l : List (List V2)) (h5 : l.length ≤ 1048576) (h6 : ∀ x ∈ l, x.length ≤ 1048576) (hok : validScn (withOb s l) = true) (v u : Value) (w : World) (hv : SceneAt w v s) (hu : VecSSAt w u l) :
    Calls Try.prog 80 #[v, u] w (ScnBool w (withOb s l) true) := by
  have h := turned_c s h1 h2 h3 h4 l h5 h6 v u w hv hu
  rw [hok, if_pos rfl] at h
  exact h
theorem valid_erase {s : Scn} (n : Nat) (h : validScn s = true) : validScn (withOb s (s.obst.eraseIdx n)) = true := by
  have hl : (s.obst.eraseIdx n).length ≤ s.obst.length := by rw [List.length_eraseIdx]; split <;> omega
  have hs : ∀ x ∈ s.obst.eraseIdx n, x ∈ s.obst := fun x hx => List.mem_of_mem_eraseIdx hx
  simp only [validScn, Bool.and_eq_true] at h ⊢
  refine ⟨h.1, ⟨⟨List.all_eq_true.2 (fun x hx => List.all_eq_true.1 h.2.1.1.1 x (hs x hx)), ?_⟩, h.2.1.2⟩, h.2.2⟩
  have q := of_decide_eq_true h.2.1.1.2
  exact decide_eq_true (Nat.le_trans hl q)
/-- A scene without one of its obstacles, if it is valid and has it. -/
def remOb (s : Scn) (k : Int) : Scn := if hasOb s k = true then withOb s (s.obst.eraseIdx k.toNat) else s

/-- What is left of the headers reads as the list without its element. -/
theorem erased_at {w0 w : World} {g cap n : Nat} {vs : List Value} {l : List (List V2)} (hl : vs.length = l.length) (hn : n < l.length) (hv : ∀ k, k < l.length → VecsAt w0 (vs.getD k undef) (l.getD k [])) (hb : Below w0.heap.size w0 w) (hg : g < w.heap.size) (hcap : vs.length ≤ cap) (hc2 : cap ≤ maxLen)
    (hc : ∀ j, j < vs.length - 1 → w.cell? ⟨g, j, none⟩ = (vs.eraseIdx n)[j]?) : VecSSAt w (.slice (some ⟨g, 0, none⟩) (n + (vs.length - (n + 1))) cap) (l.eraseIdx n) := by
  have e1 : (vs.eraseIdx n).length = vs.length - 1 := by rw [List.length_eraseIdx, if_pos (by omega)]
  have e2 : (l.eraseIdx n).length = l.length - 1 := by rw [List.length_eraseIdx, if_pos hn]
  refine ⟨vs.eraseIdx n, ⟨some ⟨g, 0, none⟩, cap, ?_, by simp [e1]; omega, hc2, by simp, .inr ⟨g, 0, rfl, hg, fun j hj i hi => ?_⟩⟩, by omega, fun k hk => ?_⟩
  · simp only [List.length_map, e1]; congr 1; omega
  · obtain rfl : i = 0 := by omega
    simp only [List.length_map, e1] at hj
    have h := hc j hj
    simp only [Nat.zero_add, Nat.mul_one, Nat.add_zero]
    rw [h]
    simp [List.getD, show j < (vs.eraseIdx n).length by omega]
  · have e3 : (vs.eraseIdx n).getD k undef = vs.getD (if k < n then k else k + 1) undef := by
      simp only [List.getD, List.getElem?_eraseIdx]; split <;> rfl
    have e4 : (l.eraseIdx n).getD k [] = l.getD (if k < n then k else k + 1) [] := by
      simp only [List.getD, List.getElem?_eraseIdx]; split <;> rfl
    rw [e3, e4]
    exact (hv _ (by split <;> omega)).below hb

set_option maxRecDepth 100000 in
set_option maxHeartbeats 4000000 in
theorem RemoveObstacle_c (s : Scn) (h1 : s.robot.length ≤ 1048576) (h2 : s.obst.length ≤ 1048576) (h3 : ∀ x ∈ s.obst, x.length ≤ 1048576) (h4 : s.tables.length ≤ 1048576) (k : Int) (v : Value) (w : World) (hv : SceneAt w v s) :
    Calls Try.prog 32 #[v, .int .i64 k] w (ScnBool w (remOb s k) (hasOb s k)) := by
  have HV := Lib.hid hv
  obtain ⟨r, o, t, rfl, hr, ho, ht⟩ := hv
  have HO := Lib.hid ho
  obtain ⟨ra, rcap, rfl, _, _, _⟩ := hr.open
  obtain ⟨oa, ocap, rfl, _, _, _⟩ := ho.open
  obtain ⟨ta, tcap, rfl, _, _, _⟩ := ht.open
  clear hr ho ht
  have H3 := Lib.hid h3
  clear h3
  obtain ⟨res, hres⟩ : ∃ r, remOb s k = r := ⟨_, rfl⟩
  obtain ⟨ok, hok⟩ : ∃ ok, hasOb s k = ok := ⟨_, rfl⟩
  rw [hres, hok]
  have HRK := Lib.hid hres
  have HOK := Lib.hid hok
  clear hres hok
  cases ok with
  | false =>
    have HRES : Hid (s = res) := Lib.hid (by have h := HRK.out; unfold remOb at h; rw [HOK.out] at h; simpa using h)
    go_enter Try.func32, Try.ntmps32
    go_wp2_with fail
    refine (hasObstacle_c s k h2 _ _ (HV.out.below (by (repeat (first | with_reducible exact Below.refl _ _ | with_reducible assumption | with_reducible refine Below.drew ?_ | with_reducible refine Below.setCell ?_ ?_ _ | with_reducible refine Below.alloc ?_ ?_ _)); all_goals first | (simp; done) | (simp; omega) | omega))).mono ?_
    rintro e w1 ⟨rfl, h1⟩
    have B1 : Below w.heap.size w w1 := Below.trans (by (repeat (first | with_reducible exact Below.refl _ _ | with_reducible assumption | with_reducible refine Below.drew ?_ | with_reducible refine Below.setCell ?_ ?_ _ | with_reducible refine Below.alloc ?_ ?_ _)); all_goals first | (simp; done) | (simp; omega) | omega) (h1.mono (by first | (simp; done) | (simp; omega) | omega))
    have S1 := h1.size
    have T1 := B1.size
    try simp at S1
    obtain ⟨k1, f1⟩ := bcell h1
    try simp at k1
    try simp at f1
    have Hc1 := Lib.hid h1
    clear h1
    have u1_0 : w.heap.size < w1.heap.size := by omega
    have u1_1 : w.heap.size + 1 < w1.heap.size := by omega
    rw [HOK.out]
    go_wp2_with fail
    refine (ownScene_c s h1 h2 H3.out h4 _ _ (HV.out.below (by (repeat (first | with_reducible exact Below.refl _ _ | with_reducible assumption | with_reducible refine Below.drew ?_ | with_reducible refine Below.setCell ?_ ?_ _ | with_reducible refine Below.alloc ?_ ?_ _)); all_goals first | (simp; done) | (simp; omega) | omega))).mono ?_
    rintro e w4 ⟨cs4, rfl, ho4, h4⟩
    have B4 : Below w.heap.size w w4 := Below.trans (by (repeat (first | with_reducible exact Below.refl _ _ | with_reducible assumption | with_reducible refine Below.drew ?_ | with_reducible refine Below.setCell ?_ ?_ _ | with_reducible refine Below.alloc ?_ ?_ _)); all_goals first | (simp; done) | (simp; omega) | omega) (h4.mono (by first | (simp; done) | (simp; omega) | omega))
    have S4 := h4.size
    have T4 := B4.size
    try simp at S4
    obtain ⟨k4, f4⟩ := bcell h4
    try simp at k4
    try simp at f4
    have Hc4 := Lib.hid h4
    clear h4
    have u4_0 : w.heap.size < w4.heap.size := by omega
    have u4_1 : w.heap.size + 1 < w4.heap.size := by omega
    obtain ⟨x1, y1_, x2, y2_, x3, y3_, rfl⟩ := scn_shape ho4.rd
    have O4 := Lib.hid ho4
    clear ho4
    have qs : ∀ i, i < 7 → (w4.cell? ⟨w.heap.size + 1, 0 + i, none⟩).isSome = true := fun i hi => by
      have : i = 0 ∨ i = 1 ∨ i = 2 ∨ i = 3 ∨ i = 4 ∨ i = 5 ∨ i = 6 := by omega
      rcases this with rfl | rfl | rfl | rfl | rfl | rfl | rfl <;> go_simp
    have q0 : (((((((w4.setCell ⟨w.heap.size + 1, 0, none⟩ (.int .i64 s.low.1)).setCell ⟨w.heap.size + 1, 1, none⟩ (.int .i64 s.low.2)).setCell ⟨w.heap.size + 1, 2, none⟩ (.int .i64 s.high.1)).setCell ⟨w.heap.size + 1, 3, none⟩ (.int .i64 s.high.2)).setCell ⟨w.heap.size + 1, 4, none⟩ (.slice x1 (vecsD s.robot).length y1_)).setCell ⟨w.heap.size + 1, 5, none⟩ (.slice x2 (areasD s.obst).length y2_)).setCell ⟨w.heap.size + 1, 6, none⟩ (.slice x3 (vecsD s.tables).length y3_)).cell? ⟨w.heap.size + 1, 0, none⟩ = some (.int .i64 s.low.1) := (by have q := stN_cell (w.heap.size + 1) [.int .i64 s.low.1, .int .i64 s.low.2, .int .i64 s.high.1, .int .i64 s.high.2, .slice x1 (vecsD s.robot).length y1_, .slice x2 (areasD s.obst).length y2_, .slice x3 (vecsD s.tables).length y3_] w4 0 qs 0 (by simp); rw [Nat.zero_add] at q; exact q); have q1 : (((((((w4.setCell ⟨w.heap.size + 1, 0, none⟩ (.int .i64 s.low.1)).setCell ⟨w.heap.size + 1, 1, none⟩ (.int .i64 s.low.2)).setCell ⟨w.heap.size + 1, 2, none⟩ (.int .i64 s.high.1)).setCell ⟨w.heap.size + 1, 3, none⟩ (.int .i64 s.high.2)).setCell ⟨w.heap.size + 1, 4, none⟩ (.slice x1 (vecsD s.robot).length y1_)).setCell ⟨w.heap.size + 1, 5, none⟩ (.slice x2 (areasD s.obst).length y2_)).setCell ⟨w.heap.size + 1, 6, none⟩ (.slice x3 (vecsD s.tables).length y3_)).cell? ⟨w.heap.size + 1, 1, none⟩ = some (.int .i64 s.low.2) := (by have q := stN_cell (w.heap.size + 1) [.int .i64 s.low.1, .int .i64 s.low.2, .int .i64 s.high.1, .int .i64 s.high.2, .slice x1 (vecsD s.robot).length y1_, .slice x2 (areasD s.obst).length y2_, .slice x3 (vecsD s.tables).length y3_] w4 0 qs 1 (by simp); rw [Nat.zero_add] at q; exact q); have q2 : (((((((w4.setCell ⟨w.heap.size + 1, 0, none⟩ (.int .i64 s.low.1)).setCell ⟨w.heap.size + 1, 1, none⟩ (.int .i64 s.low.2)).setCell ⟨w.heap.size + 1, 2, none⟩ (.int .i64 s.high.1)).setCell ⟨w.heap.size + 1, 3, none⟩ (.int .i64 s.high.2)).setCell ⟨w.heap.size + 1, 4, none⟩ (.slice x1 (vecsD s.robot).length y1_)).setCell ⟨w.heap.size + 1, 5, none⟩ (.slice x2 (areasD s.obst).length y2_)).setCell ⟨w.heap.size + 1, 6, none⟩ (.slice x3 (vecsD s.tables).length y3_)).cell? ⟨w.heap.size + 1, 2, none⟩ = some (.int .i64 s.high.1) := (by have q := stN_cell (w.heap.size + 1) [.int .i64 s.low.1, .int .i64 s.low.2, .int .i64 s.high.1, .int .i64 s.high.2, .slice x1 (vecsD s.robot).length y1_, .slice x2 (areasD s.obst).length y2_, .slice x3 (vecsD s.tables).length y3_] w4 0 qs 2 (by simp); rw [Nat.zero_add] at q; exact q); have q3 : (((((((w4.setCell ⟨w.heap.size + 1, 0, none⟩ (.int .i64 s.low.1)).setCell ⟨w.heap.size + 1, 1, none⟩ (.int .i64 s.low.2)).setCell ⟨w.heap.size + 1, 2, none⟩ (.int .i64 s.high.1)).setCell ⟨w.heap.size + 1, 3, none⟩ (.int .i64 s.high.2)).setCell ⟨w.heap.size + 1, 4, none⟩ (.slice x1 (vecsD s.robot).length y1_)).setCell ⟨w.heap.size + 1, 5, none⟩ (.slice x2 (areasD s.obst).length y2_)).setCell ⟨w.heap.size + 1, 6, none⟩ (.slice x3 (vecsD s.tables).length y3_)).cell? ⟨w.heap.size + 1, 3, none⟩ = some (.int .i64 s.high.2) := (by have q := stN_cell (w.heap.size + 1) [.int .i64 s.low.1, .int .i64 s.low.2, .int .i64 s.high.1, .int .i64 s.high.2, .slice x1 (vecsD s.robot).length y1_, .slice x2 (areasD s.obst).length y2_, .slice x3 (vecsD s.tables).length y3_] w4 0 qs 3 (by simp); rw [Nat.zero_add] at q; exact q); have q4 : (((((((w4.setCell ⟨w.heap.size + 1, 0, none⟩ (.int .i64 s.low.1)).setCell ⟨w.heap.size + 1, 1, none⟩ (.int .i64 s.low.2)).setCell ⟨w.heap.size + 1, 2, none⟩ (.int .i64 s.high.1)).setCell ⟨w.heap.size + 1, 3, none⟩ (.int .i64 s.high.2)).setCell ⟨w.heap.size + 1, 4, none⟩ (.slice x1 (vecsD s.robot).length y1_)).setCell ⟨w.heap.size + 1, 5, none⟩ (.slice x2 (areasD s.obst).length y2_)).setCell ⟨w.heap.size + 1, 6, none⟩ (.slice x3 (vecsD s.tables).length y3_)).cell? ⟨w.heap.size + 1, 4, none⟩ = some (.slice x1 (vecsD s.robot).length y1_) := (by have q := stN_cell (w.heap.size + 1) [.int .i64 s.low.1, .int .i64 s.low.2, .int .i64 s.high.1, .int .i64 s.high.2, .slice x1 (vecsD s.robot).length y1_, .slice x2 (areasD s.obst).length y2_, .slice x3 (vecsD s.tables).length y3_] w4 0 qs 4 (by simp); rw [Nat.zero_add] at q; exact q); have q5 : (((((((w4.setCell ⟨w.heap.size + 1, 0, none⟩ (.int .i64 s.low.1)).setCell ⟨w.heap.size + 1, 1, none⟩ (.int .i64 s.low.2)).setCell ⟨w.heap.size + 1, 2, none⟩ (.int .i64 s.high.1)).setCell ⟨w.heap.size + 1, 3, none⟩ (.int .i64 s.high.2)).setCell ⟨w.heap.size + 1, 4, none⟩ (.slice x1 (vecsD s.robot).length y1_)).setCell ⟨w.heap.size + 1, 5, none⟩ (.slice x2 (areasD s.obst).length y2_)).setCell ⟨w.heap.size + 1, 6, none⟩ (.slice x3 (vecsD s.tables).length y3_)).cell? ⟨w.heap.size + 1, 5, none⟩ = some (.slice x2 (areasD s.obst).length y2_) := (by have q := stN_cell (w.heap.size + 1) [.int .i64 s.low.1, .int .i64 s.low.2, .int .i64 s.high.1, .int .i64 s.high.2, .slice x1 (vecsD s.robot).length y1_, .slice x2 (areasD s.obst).length y2_, .slice x3 (vecsD s.tables).length y3_] w4 0 qs 5 (by simp); rw [Nat.zero_add] at q; exact q); have q6 : (((((((w4.setCell ⟨w.heap.size + 1, 0, none⟩ (.int .i64 s.low.1)).setCell ⟨w.heap.size + 1, 1, none⟩ (.int .i64 s.low.2)).setCell ⟨w.heap.size + 1, 2, none⟩ (.int .i64 s.high.1)).setCell ⟨w.heap.size + 1, 3, none⟩ (.int .i64 s.high.2)).setCell ⟨w.heap.size + 1, 4, none⟩ (.slice x1 (vecsD s.robot).length y1_)).setCell ⟨w.heap.size + 1, 5, none⟩ (.slice x2 (areasD s.obst).length y2_)).setCell ⟨w.heap.size + 1, 6, none⟩ (.slice x3 (vecsD s.tables).length y3_)).cell? ⟨w.heap.size + 1, 6, none⟩ = some (.slice x3 (vecsD s.tables).length y3_) := (by have q := stN_cell (w.heap.size + 1) [.int .i64 s.low.1, .int .i64 s.low.2, .int .i64 s.high.1, .int .i64 s.high.2, .slice x1 (vecsD s.robot).length y1_, .slice x2 (areasD s.obst).length y2_, .slice x3 (vecsD s.tables).length y3_] w4 0 qs 6 (by simp); rw [Nat.zero_add] at q; exact q)
    have HQ := Lib.hid (And.intro q0 (And.intro q1 (And.intro q2 (And.intro q3 (And.intro q4 (And.intro q5 q6))))))
    clear q0 q1 q2 q3 q4 q5 q6 qs
    go_wp2
    obtain ⟨q0, q1, q2, q3, q4, q5, q6⟩ := HQ.out
    refine bodyPost_ret (v := .tuple #[.agg #[.int .i64 s.low.1, .int .i64 s.low.2, .int .i64 s.high.1, .int .i64 s.high.2, .slice x1 (vecsD s.robot).length y1_, .slice x2 (areasD s.obst).length y2_, .slice x3 (vecsD s.tables).length y3_], .bool false]) (by simp [results, Try.results32, go_sem, q0, q1, q2, q3, q4, q5, q6]) rfl ⟨_, rfl, ?_, ?_⟩
    · have hr : res = s := HRES.out.symm
      rw [hr]
      refine Own.mono (lo := w1.heap.size) (hi := w4.heap.size) ?_ (by omega) (by simp only [World.size_setCell]; omega)
      refine O4.out.only (S := fun b => b = w.heap.size + 1) ?_ (fun k hk => .inl (by subst hk; omega))
      · repeat (first | with_reducible exact OnlyIn.refl _ _ | with_reducible refine OnlyIn.setCell ?_ ?_ _)
        all_goals rfl
    · exact (by (repeat (first | with_reducible exact Below.refl _ _ | with_reducible assumption | with_reducible refine Below.drew ?_ | with_reducible refine Below.setCell ?_ ?_ _ | with_reducible refine Below.alloc ?_ ?_ _)); all_goals first | (simp; done) | (simp; omega) | omega)
  | true =>
    have hkn : 0 ≤ k ∧ k ≤ (s.obst.length : Int) - 1 := by
      have h := HOK.out
      unfold hasOb at h
      rw [Bool.and_eq_true] at h
      exact inR_iff.1 h.2
    obtain ⟨n, rfl⟩ : ∃ n : Nat, k = (n : Int) := ⟨k.toNat, by omega⟩
    have hn : n < s.obst.length := by omega
    clear hkn
    have HRES : Hid (withOb s (s.obst.eraseIdx n) = res) := Lib.hid (by have h := HRK.out; unfold remOb at h; rw [HOK.out] at h; simpa using h)
    have HVE : Hid (validScn (withOb s (s.obst.eraseIdx n)) = true) := valid_erase n (by have h := HOK.out; unfold hasOb at h; rw [Bool.and_eq_true] at h; exact h.1)
    have HEL : Hid ((s.obst.eraseIdx n).length ≤ 1048576 ∧ ∀ x ∈ s.obst.eraseIdx n, x.length ≤ 1048576) := ⟨by rw [List.length_eraseIdx]; split <;> omega, fun x hx => H3.out x (List.mem_of_mem_eraseIdx hx)⟩
    go_enter Try.func32, Try.ntmps32
    go_wp2_with fail
    refine (hasObstacle_c s n h2 _ _ (HV.out.below (by (repeat (first | with_reducible exact Below.refl _ _ | with_reducible assumption | with_reducible refine Below.drew ?_ | with_reducible refine Below.setCell ?_ ?_ _ | with_reducible refine Below.alloc ?_ ?_ _)); all_goals first | (simp; done) | (simp; omega) | omega))).mono ?_
    rintro e w1 ⟨rfl, h1⟩
    have B1 : Below w.heap.size w w1 := Below.trans (by (repeat (first | with_reducible exact Below.refl _ _ | with_reducible assumption | with_reducible refine Below.drew ?_ | with_reducible refine Below.setCell ?_ ?_ _ | with_reducible refine Below.alloc ?_ ?_ _)); all_goals first | (simp; done) | (simp; omega) | omega) (h1.mono (by first | (simp; done) | (simp; omega) | omega))
    have S1 := h1.size
    have T1 := B1.size
    try simp at S1
    obtain ⟨k1, f1⟩ := bcell h1
    try simp at k1
    try simp at f1
    have Hc1 := Lib.hid h1
    clear h1
    have u1_0 : w.heap.size < w1.heap.size := by omega
    have u1_1 : w.heap.size + 1 < w1.heap.size := by omega
    rw [HOK.out]
    have hwr : IntKind.i64.wrap ((n : Int) + 1) = (n : Int) + 1 := by rw [IntKind.wrap_i64]; omega
    go_wp2
    go_region_held3 (fun w' => w'.cell? ⟨w.heap.size, 0, none⟩ = some (.int .i64 s.low.1) ∧ w'.cell? ⟨w.heap.size, 1, none⟩ = some (.int .i64 s.low.2) ∧ w'.cell? ⟨w.heap.size, 2, none⟩ = some (.int .i64 s.high.1) ∧ w'.cell? ⟨w.heap.size, 3, none⟩ = some (.int .i64 s.high.2) ∧ w'.cell? ⟨w.heap.size, 4, none⟩ = some (.slice ra s.robot.length rcap) ∧ w'.cell? ⟨w.heap.size, 5, none⟩ = some (.slice oa s.obst.length ocap) ∧ w'.cell? ⟨w.heap.size, 6, none⟩ = some (.slice ta s.tables.length tcap)) ((refine ⟨?_, ?_, ?_, ?_, ?_, ?_, ?_⟩ <;> go_simp))
      (first
        | (go_at_call 82
           (with_reducible refine (CloneSS_c s.obst h2 _ _ ?_).mono ?_)
           · exact HO.out.below (by (repeat (first | with_reducible exact Below.refl _ _ | with_reducible assumption | with_reducible refine Below.drew ?_ | with_reducible refine Below.setCell ?_ ?_ _ | with_reducible refine Below.alloc ?_ ?_ _)); all_goals first | (simp; done) | (simp; omega) | omega)
           rintro e w2 ⟨v2, vs, rfl, hq, hvl, hone, hvs, hb2⟩
           obtain ⟨g, cap, cur, rfl, hg0, hh, hcp, hcm⟩ : ∃ g cap cur, v2 = .slice (some ⟨g, 0, none⟩) vs.length cap ∧ w1.heap.size ≤ g ∧ w2.heap[g]? = some (.cells cur 36 (0, 0)) ∧ vs.length ≤ cap ∧ cap ≤ maxLen := by
             rcases hq.2 with ⟨_, h0⟩ | ⟨g, cap, cur, a, b, c, d, e, _⟩
             · omega
             · exact ⟨g, cap, cur, a, b, c, d, e⟩
           have B2 : Below w.heap.size w w2 := Below.trans (by (repeat (first | with_reducible exact Below.refl _ _ | with_reducible assumption | with_reducible refine Below.drew ?_ | with_reducible refine Below.setCell ?_ ?_ _ | with_reducible refine Below.alloc ?_ ?_ _)); all_goals first | (simp; done) | (simp; omega) | omega) (hb2.mono (by first | (simp; done) | (simp; omega) | omega))
           obtain ⟨k2, f2⟩ := bcell hb2
           (try simp at k2)
           (try simp at f2)
           have z2 := hb2.size
           (try simp at z2)
           have u2_0 : w.heap.size < w2.heap.size := by omega
           have u2_1 : w.heap.size + 1 < w2.heap.size := by omega
           have hgl : g < w2.heap.size := (Array.getElem?_eq_some_iff.1 hh).1
           have Q2 := Lib.hid (And.intro hq (And.intro hvl (And.intro hone (And.intro hvs (And.intro hb2 hcm)))))
           have hnv : n < vs.length := by omega
           have DEL := Lib.hid (DeleteSS_c vs g cap n _ hnv hone w2 hq)
           have hg1 : w.heap.size + 1 < g := by (try simp at hg0); omega
           have hg2 : ∀ b, b < w.heap.size + 1 + 1 → b ≠ g := fun b hb => by omega
           have hg3 : ∀ b, b < w.heap.size + 1 + 1 → b < w2.heap.size := fun b hb => by omega
           have HG := Lib.hid (And.intro hg2 hg3)
           clear hg2 hg3
           clear hq hone hvs hb2 hh hcm hvl)
        | (go_at_call 81
           (with_reducible refine DEL.out.mono ?_)
           rintro e w3 ⟨rfl, hc3, ho3⟩
           have B3 : Below w.heap.size w w3 := Below.trans (by (repeat (first | with_reducible exact Below.refl _ _ | with_reducible assumption | with_reducible refine Below.drew ?_ | with_reducible refine Below.setCell ?_ ?_ _ | with_reducible refine Below.alloc ?_ ?_ _)); all_goals first | (simp; done) | (simp; omega) | omega) (ho3.below (B := w.heap.size) (fun b hb => by subst hb; omega) (by omega))
           have k3 : ∀ b o, b < w.heap.size + 1 + 1 → w3.cell? ⟨b, o, none⟩ = w2.cell? ⟨b, o, none⟩ := fun b o hb => World.cell?_of_block (a := ⟨b, o, none⟩) (ho3.block b (HG.out.2 b hb) (HG.out.1 b hb))
           have f3 : ∀ b o, b < w.heap.size + 1 + 1 → w3.frozen? ⟨b, o, none⟩ = w2.frozen? ⟨b, o, none⟩ := fun b o hb => World.frozen?_of_block (a := ⟨b, o, none⟩) (ho3.block b (HG.out.2 b hb) (HG.out.1 b hb))
           have z3 := ho3.size
           have u3_0 : w.heap.size < w3.heap.size := by omega
           have u3_1 : w.heap.size + 1 < w3.heap.size := by omega
           have hb23 := (Q2.out.2.2.2.2.1).trans (OnlyIn.below ho3 (fun b hb => by subst hb; exact hg0) Q2.out.2.2.2.2.1.size)
           have E3 := Lib.hid (erased_at Q2.out.2.1 hn Q2.out.2.2.2.1 hb23 (Nat.lt_of_lt_of_le hgl ho3.size) hcp Q2.out.2.2.2.2.2 hc3)
           clear hb23
           have Q3 := Lib.hid (And.intro hc3 ho3)
           clear hc3 ho3)
        | (go_at_call 80
           (with_reducible refine (turned_ok s h1 h2 H3.out h4 (s.obst.eraseIdx n) HEL.out.1 HEL.out.2 HVE.out _ _ _ ?_ ?_).mono ?_)
           · exact HV.out.below (by (repeat (first | with_reducible exact Below.refl _ _ | with_reducible assumption | with_reducible refine Below.drew ?_ | with_reducible refine Below.setCell ?_ ?_ _ | with_reducible refine Below.alloc ?_ ?_ _)); all_goals first | (simp; done) | (simp; omega) | omega)
           · exact E3.out
           rintro e w4 ⟨cs4, rfl, ho4, hb4⟩
           obtain ⟨x1, y1_, x2, y2_, x3, y3_, rfl⟩ : ∃ x1 y1_ x2 y2_ x3 y3_, cs4 = [.int .i64 s.low.1, .int .i64 s.low.2, .int .i64 s.high.1, .int .i64 s.high.2, .slice x1 (vecsD s.robot).length y1_, .slice x2 (areasD (s.obst.eraseIdx n)).length y2_, .slice x3 (vecsD s.tables).length y3_] := scn_shape ho4.rd
           have B4 : Below w.heap.size w w4 := Below.trans (by (repeat (first | with_reducible exact Below.refl _ _ | with_reducible assumption | with_reducible refine Below.drew ?_ | with_reducible refine Below.setCell ?_ ?_ _ | with_reducible refine Below.alloc ?_ ?_ _)); all_goals first | (simp; done) | (simp; omega) | omega) (hb4.mono (by first | (simp; done) | (simp; omega) | omega))
           obtain ⟨k4, f4⟩ := bcell hb4
           (try simp at k4)
           (try simp at f4)
           have z4 := hb4.size
           (try simp at z4)
           have u4_0 : w.heap.size < w4.heap.size := by omega
           have u4_1 : w.heap.size + 1 < w4.heap.size := by omega
           have Q4 := Lib.hid (And.intro ho4 hb4)
           clear ho4 hb4))
    have qs : ∀ i, i < 7 → (w4.cell? ⟨w.heap.size + 1, 0 + i, none⟩).isSome = true := fun i hi => by
      have : i = 0 ∨ i = 1 ∨ i = 2 ∨ i = 3 ∨ i = 4 ∨ i = 5 ∨ i = 6 := by omega
      rcases this with rfl | rfl | rfl | rfl | rfl | rfl | rfl <;> go_simp
    have q0 : (((((((w4.setCell ⟨w.heap.size + 1, 0, none⟩ (.int .i64 s.low.1)).setCell ⟨w.heap.size + 1, 1, none⟩ (.int .i64 s.low.2)).setCell ⟨w.heap.size + 1, 2, none⟩ (.int .i64 s.high.1)).setCell ⟨w.heap.size + 1, 3, none⟩ (.int .i64 s.high.2)).setCell ⟨w.heap.size + 1, 4, none⟩ (.slice x1 (vecsD s.robot).length y1_)).setCell ⟨w.heap.size + 1, 5, none⟩ (.slice x2 (areasD (s.obst.eraseIdx n)).length y2_)).setCell ⟨w.heap.size + 1, 6, none⟩ (.slice x3 (vecsD s.tables).length y3_)).cell? ⟨w.heap.size + 1, 0, none⟩ = some (.int .i64 s.low.1) := (by have q := stN_cell (w.heap.size + 1) [.int .i64 s.low.1, .int .i64 s.low.2, .int .i64 s.high.1, .int .i64 s.high.2, .slice x1 (vecsD s.robot).length y1_, .slice x2 (areasD (s.obst.eraseIdx n)).length y2_, .slice x3 (vecsD s.tables).length y3_] w4 0 qs 0 (by simp); rw [Nat.zero_add] at q; exact q); have q1 : (((((((w4.setCell ⟨w.heap.size + 1, 0, none⟩ (.int .i64 s.low.1)).setCell ⟨w.heap.size + 1, 1, none⟩ (.int .i64 s.low.2)).setCell ⟨w.heap.size + 1, 2, none⟩ (.int .i64 s.high.1)).setCell ⟨w.heap.size + 1, 3, none⟩ (.int .i64 s.high.2)).setCell ⟨w.heap.size + 1, 4, none⟩ (.slice x1 (vecsD s.robot).length y1_)).setCell ⟨w.heap.size + 1, 5, none⟩ (.slice x2 (areasD (s.obst.eraseIdx n)).length y2_)).setCell ⟨w.heap.size + 1, 6, none⟩ (.slice x3 (vecsD s.tables).length y3_)).cell? ⟨w.heap.size + 1, 1, none⟩ = some (.int .i64 s.low.2) := (by have q := stN_cell (w.heap.size + 1) [.int .i64 s.low.1, .int .i64 s.low.2, .int .i64 s.high.1, .int .i64 s.high.2, .slice x1 (vecsD s.robot).length y1_, .slice x2 (areasD (s.obst.eraseIdx n)).length y2_, .slice x3 (vecsD s.tables).length y3_] w4 0 qs 1 (by simp); rw [Nat.zero_add] at q; exact q); have q2 : (((((((w4.setCell ⟨w.heap.size + 1, 0, none⟩ (.int .i64 s.low.1)).setCell ⟨w.heap.size + 1, 1, none⟩ (.int .i64 s.low.2)).setCell ⟨w.heap.size + 1, 2, none⟩ (.int .i64 s.high.1)).setCell ⟨w.heap.size + 1, 3, none⟩ (.int .i64 s.high.2)).setCell ⟨w.heap.size + 1, 4, none⟩ (.slice x1 (vecsD s.robot).length y1_)).setCell ⟨w.heap.size + 1, 5, none⟩ (.slice x2 (areasD (s.obst.eraseIdx n)).length y2_)).setCell ⟨w.heap.size + 1, 6, none⟩ (.slice x3 (vecsD s.tables).length y3_)).cell? ⟨w.heap.size + 1, 2, none⟩ = some (.int .i64 s.high.1) := (by have q := stN_cell (w.heap.size + 1) [.int .i64 s.low.1, .int .i64 s.low.2, .int .i64 s.high.1, .int .i64 s.high.2, .slice x1 (vecsD s.robot).length y1_, .slice x2 (areasD (s.obst.eraseIdx n)).length y2_, .slice x3 (vecsD s.tables).length y3_] w4 0 qs 2 (by simp); rw [Nat.zero_add] at q; exact q); have q3 : (((((((w4.setCell ⟨w.heap.size + 1, 0, none⟩ (.int .i64 s.low.1)).setCell ⟨w.heap.size + 1, 1, none⟩ (.int .i64 s.low.2)).setCell ⟨w.heap.size + 1, 2, none⟩ (.int .i64 s.high.1)).setCell ⟨w.heap.size + 1, 3, none⟩ (.int .i64 s.high.2)).setCell ⟨w.heap.size + 1, 4, none⟩ (.slice x1 (vecsD s.robot).length y1_)).setCell ⟨w.heap.size + 1, 5, none⟩ (.slice x2 (areasD (s.obst.eraseIdx n)).length y2_)).setCell ⟨w.heap.size + 1, 6, none⟩ (.slice x3 (vecsD s.tables).length y3_)).cell? ⟨w.heap.size + 1, 3, none⟩ = some (.int .i64 s.high.2) := (by have q := stN_cell (w.heap.size + 1) [.int .i64 s.low.1, .int .i64 s.low.2, .int .i64 s.high.1, .int .i64 s.high.2, .slice x1 (vecsD s.robot).length y1_, .slice x2 (areasD (s.obst.eraseIdx n)).length y2_, .slice x3 (vecsD s.tables).length y3_] w4 0 qs 3 (by simp); rw [Nat.zero_add] at q; exact q); have q4 : (((((((w4.setCell ⟨w.heap.size + 1, 0, none⟩ (.int .i64 s.low.1)).setCell ⟨w.heap.size + 1, 1, none⟩ (.int .i64 s.low.2)).setCell ⟨w.heap.size + 1, 2, none⟩ (.int .i64 s.high.1)).setCell ⟨w.heap.size + 1, 3, none⟩ (.int .i64 s.high.2)).setCell ⟨w.heap.size + 1, 4, none⟩ (.slice x1 (vecsD s.robot).length y1_)).setCell ⟨w.heap.size + 1, 5, none⟩ (.slice x2 (areasD (s.obst.eraseIdx n)).length y2_)).setCell ⟨w.heap.size + 1, 6, none⟩ (.slice x3 (vecsD s.tables).length y3_)).cell? ⟨w.heap.size + 1, 4, none⟩ = some (.slice x1 (vecsD s.robot).length y1_) := (by have q := stN_cell (w.heap.size + 1) [.int .i64 s.low.1, .int .i64 s.low.2, .int .i64 s.high.1, .int .i64 s.high.2, .slice x1 (vecsD s.robot).length y1_, .slice x2 (areasD (s.obst.eraseIdx n)).length y2_, .slice x3 (vecsD s.tables).length y3_] w4 0 qs 4 (by simp); rw [Nat.zero_add] at q; exact q); have q5 : (((((((w4.setCell ⟨w.heap.size + 1, 0, none⟩ (.int .i64 s.low.1)).setCell ⟨w.heap.size + 1, 1, none⟩ (.int .i64 s.low.2)).setCell ⟨w.heap.size + 1, 2, none⟩ (.int .i64 s.high.1)).setCell ⟨w.heap.size + 1, 3, none⟩ (.int .i64 s.high.2)).setCell ⟨w.heap.size + 1, 4, none⟩ (.slice x1 (vecsD s.robot).length y1_)).setCell ⟨w.heap.size + 1, 5, none⟩ (.slice x2 (areasD (s.obst.eraseIdx n)).length y2_)).setCell ⟨w.heap.size + 1, 6, none⟩ (.slice x3 (vecsD s.tables).length y3_)).cell? ⟨w.heap.size + 1, 5, none⟩ = some (.slice x2 (areasD (s.obst.eraseIdx n)).length y2_) := (by have q := stN_cell (w.heap.size + 1) [.int .i64 s.low.1, .int .i64 s.low.2, .int .i64 s.high.1, .int .i64 s.high.2, .slice x1 (vecsD s.robot).length y1_, .slice x2 (areasD (s.obst.eraseIdx n)).length y2_, .slice x3 (vecsD s.tables).length y3_] w4 0 qs 5 (by simp); rw [Nat.zero_add] at q; exact q); have q6 : (((((((w4.setCell ⟨w.heap.size + 1, 0, none⟩ (.int .i64 s.low.1)).setCell ⟨w.heap.size + 1, 1, none⟩ (.int .i64 s.low.2)).setCell ⟨w.heap.size + 1, 2, none⟩ (.int .i64 s.high.1)).setCell ⟨w.heap.size + 1, 3, none⟩ (.int .i64 s.high.2)).setCell ⟨w.heap.size + 1, 4, none⟩ (.slice x1 (vecsD s.robot).length y1_)).setCell ⟨w.heap.size + 1, 5, none⟩ (.slice x2 (areasD (s.obst.eraseIdx n)).length y2_)).setCell ⟨w.heap.size + 1, 6, none⟩ (.slice x3 (vecsD s.tables).length y3_)).cell? ⟨w.heap.size + 1, 6, none⟩ = some (.slice x3 (vecsD s.tables).length y3_) := (by have q := stN_cell (w.heap.size + 1) [.int .i64 s.low.1, .int .i64 s.low.2, .int .i64 s.high.1, .int .i64 s.high.2, .slice x1 (vecsD s.robot).length y1_, .slice x2 (areasD (s.obst.eraseIdx n)).length y2_, .slice x3 (vecsD s.tables).length y3_] w4 0 qs 6 (by simp); rw [Nat.zero_add] at q; exact q)
    have HQ := Lib.hid (And.intro q0 (And.intro q1 (And.intro q2 (And.intro q3 (And.intro q4 (And.intro q5 q6))))))
    clear q0 q1 q2 q3 q4 q5 q6 qs
    go_wp2
    obtain ⟨q0, q1, q2, q3, q4, q5, q6⟩ := HQ.out
    refine bodyPost_ret (v := .tuple #[.agg #[.int .i64 s.low.1, .int .i64 s.low.2, .int .i64 s.high.1, .int .i64 s.high.2, .slice x1 (vecsD s.robot).length y1_, .slice x2 (areasD (s.obst.eraseIdx n)).length y2_, .slice x3 (vecsD s.tables).length y3_], .bool true]) (by simp [results, Try.results32, go_sem, q0, q1, q2, q3, q4, q5, q6]) rfl ⟨_, rfl, ?_, ?_⟩
    · have hr : res = withOb s (s.obst.eraseIdx n) := HRES.out.symm
      rw [hr]
      refine Own.mono (lo := w3.heap.size) (hi := w4.heap.size) ?_ (by omega) (by simp only [World.size_setCell]; omega)
      refine Q4.out.1.only (S := fun b => b = w.heap.size + 1) ?_ (fun k hk => .inl (by subst hk; exact u3_1))
      · repeat (first | with_reducible exact OnlyIn.refl _ _ | with_reducible refine OnlyIn.setCell ?_ ?_ _)
        all_goals rfl
    · exact (by (repeat (first | with_reducible exact Below.refl _ _ | with_reducible assumption | with_reducible refine Below.drew ?_ | with_reducible refine Below.setCell ?_ ?_ _ | with_reducible refine Below.alloc ?_ ?_ _)); all_goals first | (simp; done) | (simp; omega) | omega)
end Go.Proofs.Ytemgpfojmdncjaa
