/-
  Contract of the reference's copy of a scene.
-/
import Derived.Test.YtemgpfojmdncjaaCopyS
namespace Go.Proofs.Ytemgpfojmdncjaa
open Go.RowKit
attribute [local go_sem ↓] Go.wp_at_zero Go.wp_at_succ

set_option maxRecDepth 100000 in
set_option maxHeartbeats 8000000 in
theorem l10Copy_c (s : Scn) (h1 : s.robot.length ≤ 1048576) (h2 : s.obst.length ≤ 1048576) (h3 : ∀ x ∈ s.obst, x.length ≤ 1048576) (h4 : s.tables.length ≤ 1048576) (v : Value) (w : World) (hv : SceneAt w v s) :
    Calls Try.prog 75 #[v] w fun e w' => ∃ v', e = .returned v' ∧ (∀ W', OnlyIn (fun b => b < w.heap.size) w' W' → SceneAt W' v' s) ∧ Below w.heap.size w w' := by
  obtain ⟨r, o, t, rfl, hr, ho, ht⟩ := hv
  have HA := Lib.hid (And.intro hr (And.intro ho ht))
  obtain ⟨ra, rcap, rfl, _, _, _⟩ := hr.open
  obtain ⟨oa, ocap, rfl, _, _, _⟩ := ho.open
  obtain ⟨ta, tcap, rfl, _, _, _⟩ := ht.open
  clear hr ho ht
  have H3 := Lib.hid h3; clear h3
  go_enter Try.func75, Try.ntmps75
  go_wp2
  go_region_held3 (fun w' => w'.cell? ⟨w.heap.size, 0, none⟩ = some (.int .i64 s.low.1) ∧ w'.cell? ⟨w.heap.size, 1, none⟩ = some (.int .i64 s.low.2) ∧ w'.cell? ⟨w.heap.size, 2, none⟩ = some (.int .i64 s.high.1) ∧ w'.cell? ⟨w.heap.size, 3, none⟩ = some (.int .i64 s.high.2) ∧ w'.cell? ⟨w.heap.size, 4, none⟩ = some (.slice ra s.robot.length rcap) ∧ w'.cell? ⟨w.heap.size, 5, none⟩ = some (.slice oa s.obst.length ocap) ∧ w'.cell? ⟨w.heap.size, 6, none⟩ = some (.slice ta s.tables.length tcap)) ((refine ⟨?_, ?_, ?_, ?_, ?_, ?_, ?_⟩ <;> go_simp))
    (first
      | (refine step_appMany elemVec (by rfl) _ _ (by rfl) _ _ _ [.int, .int] [] _ (by rfl) (Own.emptyAt (by repeat (first | with_reducible refine HasObj.drew ?_ | (refine HasObj.new ?_; (simp; done)) | with_reducible refine HasObj.old ?_ | with_reducible refine HasObj.below ?_ QB.out.2 | (refine HasObj.far ?_ QA.out.2.1 (by simp))))) (vecsD s.robot) (.slice ra s.robot.length rcap) (by rfl) rfl (s.robot.map vecRow) (List.replicate s.robot.length []) (HA.out.1.below (by (repeat (first | with_reducible exact Below.refl _ _ | with_reducible assumption | with_reducible refine Below.drew ?_ | with_reducible refine Below.setCell ?_ ?_ _ | with_reducible refine Below.alloc ?_ ?_ _)); all_goals first | (simp; done) | (simp; omega) | omega)) (by simp [vecsD]) (by simp [vecsD]) (vecFp _ _) (by simp) (by simp) (Nat.le_succ _) (Nat.le_refl _) (by simp) (by simp [vecsD]; omega) (by decide) ?_
         intro v1 wA hqA hgA hpA
         rw [List.nil_append] at hqA
         obtain ⟨a1, c1, rfl⟩ := hqA.shape
         obtain ⟨kA, fA⟩ : (∀ b o, b < w.heap.size + 1 + 1 → wA.cell? ⟨b, o, none⟩ = World.cell? _ ⟨b, o, none⟩) ∧ (∀ b o, b < w.heap.size + 1 + 1 → wA.frozen? ⟨b, o, none⟩ = World.frozen? _ ⟨b, o, none⟩) := ⟨fun b o hb => hgA.cells.1 b o (Nat.lt_of_lt_of_le hb (by first | (simp; done) | (simp; omega) | omega)) (by omega), fun b o hb => hgA.cells.2.1 b o (Nat.lt_of_lt_of_le hb (by first | (simp; done) | (simp; omega) | omega)) (by omega)⟩
         have BA : Below w.heap.size w wA := Below.trans (by (repeat (first | with_reducible exact Below.refl _ _ | with_reducible assumption | with_reducible refine Below.drew ?_ | with_reducible refine Below.setCell ?_ ?_ _ | with_reducible refine Below.alloc ?_ ?_ _)); all_goals first | (simp; done) | (simp; omega) | omega) (hgA.below (B := w.heap.size) (fun b hb => by have q := (Option.some.inj hb); simp at q; omega) (by first | (simp; done) | (simp; omega) | omega))
         have zA := hgA.size
         (try simp at zA)
         have uA_0 : w.heap.size < wA.heap.size := by omega
         have uA_1 : w.heap.size + 1 < wA.heap.size := by omega
         have uA_2 : w.heap.size < wA.heap.size + 1 := by omega
         have uA_3 : w.heap.size + 1 < wA.heap.size + 1 := by omega
         have QA := Lib.hid (And.intro hqA (And.intro hgA hpA))
         clear hqA hgA hpA)
      | (go_at_call 77
         (refine (l10Lists_c s.obst h2 H3.out _ _ ?_).mono ?_)
         · exact HA.out.2.1.below (by (repeat (first | with_reducible exact Below.refl _ _ | with_reducible assumption | with_reducible refine Below.drew ?_ | with_reducible refine Below.setCell ?_ ?_ _ | with_reducible refine Below.alloc ?_ ?_ _)); all_goals first | (simp; done) | (simp; omega) | omega)
         rintro e wB ⟨q2, rfl, hqB, hbB⟩
         have BB : Below w.heap.size w wB := Below.trans (by (repeat (first | with_reducible exact Below.refl _ _ | with_reducible assumption | with_reducible refine Below.drew ?_ | with_reducible refine Below.setCell ?_ ?_ _ | with_reducible refine Below.alloc ?_ ?_ _)); all_goals first | (simp; done) | (simp; omega) | omega) (hbB.mono (by first | (simp; done) | (simp; omega) | omega))
         obtain ⟨kB, fB⟩ := bcell hbB
         (try simp at kB)
         (try simp at fB)
         have zB := hbB.size
         (try simp at zB)
         have uB_0 : w.heap.size < wB.heap.size := by omega
         have uB_1 : w.heap.size + 1 < wB.heap.size := by omega
         have uB_2 : w.heap.size < wB.heap.size + 1 := by omega
         have uB_3 : w.heap.size + 1 < wB.heap.size + 1 := by omega
         obtain ⟨a2, c2, rfl⟩ := hqB.shape
         have QB := Lib.hid (And.intro hqB hbB)
         clear hqB hbB)
      | (refine step_appMany elemVec (by rfl) _ _ (by rfl) _ _ _ [.int, .int] [] _ (by rfl) (Own.emptyAt (by repeat (first | with_reducible refine HasObj.drew ?_ | (refine HasObj.new ?_; (simp; done)) | with_reducible refine HasObj.old ?_ | with_reducible refine HasObj.below ?_ QB.out.2 | (refine HasObj.far ?_ QA.out.2.1 (by simp))))) (vecsD s.tables) (.slice ta s.tables.length tcap) (by rfl) rfl (s.tables.map vecRow) (List.replicate s.tables.length []) (HA.out.2.2.below (by (repeat (first | with_reducible exact Below.refl _ _ | with_reducible assumption | with_reducible refine Below.drew ?_ | with_reducible refine Below.setCell ?_ ?_ _ | with_reducible refine Below.alloc ?_ ?_ _)); all_goals first | (simp; done) | (simp; omega) | omega)) (by simp [vecsD]) (by simp [vecsD]) (vecFp _ _) (by simp) (by simp) (Nat.le_succ _) (Nat.le_refl _) (by first | (simp; done) | (simp; omega) | omega) (by simp [vecsD]; omega) (by decide) ?_
         intro v3 wC hqC hgC hpC
         rw [List.nil_append] at hqC
         obtain ⟨a3, c3, rfl⟩ := hqC.shape
         obtain ⟨kC, fC⟩ : (∀ b o, b < w.heap.size + 1 + 1 → wC.cell? ⟨b, o, none⟩ = World.cell? _ ⟨b, o, none⟩) ∧ (∀ b o, b < w.heap.size + 1 + 1 → wC.frozen? ⟨b, o, none⟩ = World.frozen? _ ⟨b, o, none⟩) := ⟨fun b o hb => hgC.cells.1 b o (Nat.lt_of_lt_of_le hb (by first | (simp; done) | (simp; omega) | omega)) (by omega), fun b o hb => hgC.cells.2.1 b o (Nat.lt_of_lt_of_le hb (by first | (simp; done) | (simp; omega) | omega)) (by omega)⟩
         have BC : Below w.heap.size w wC := Below.trans (by (repeat (first | with_reducible exact Below.refl _ _ | with_reducible assumption | with_reducible refine Below.drew ?_ | with_reducible refine Below.setCell ?_ ?_ _ | with_reducible refine Below.alloc ?_ ?_ _)); all_goals first | (simp; done) | (simp; omega) | omega) (hgC.below (B := w.heap.size) (fun b hb => by have q := (Option.some.inj hb); simp at q; omega) (by first | (simp; done) | (simp; omega) | omega))
         have zC := hgC.size
         (try simp at zC)
         have uC_0 : w.heap.size < wC.heap.size := by omega
         have uC_1 : w.heap.size + 1 < wC.heap.size := by omega
         have uC_2 : w.heap.size < wC.heap.size + 1 := by omega
         have uC_3 : w.heap.size + 1 < wC.heap.size + 1 := by omega
         have QC := Lib.hid (And.intro hqC (And.intro hgC hpC))
         clear hqC hgC hpC))
  all_goals
    have p1 : ∀ b, (Value.slice a1 (vecsD s.robot).length c1).ownBlock = some b → b < wA.heap.size ∧ w.heap.size + 2 ≤ b := fun b hb => ⟨(QA.out.1.blk hb).2, by have := (QA.out.1.blk hb).1; omega⟩
    have t1 : VecsAt wC (.slice a1 (vecsD s.robot).length c1) s.robot := ((((Own.vecs QA.out.1).below (by (repeat (first | with_reducible exact Below.refl _ _ | with_reducible assumption | with_reducible refine Below.drew ?_ | with_reducible refine Below.setCell ?_ ?_ _ | with_reducible refine Below.alloc ?_ ?_ _)); all_goals first | (simp; done) | (simp; omega) | omega)).below QB.out.2).below (by (repeat (first | with_reducible exact Below.refl _ _ | with_reducible assumption | with_reducible refine Below.drew ?_ | with_reducible refine Below.setCell ?_ ?_ _ | with_reducible refine Below.alloc ?_ ?_ _)); all_goals first | (simp; done) | (simp; omega) | omega)).only QC.out.2.1 (fun b hb e => by
      have e' := Option.some.inj e
      have p := p1 b hb
      have q := QA.out.2.2
      rw [hb] at q
      rcases q with q | q <;> (have q' := Option.some.inj q; (try simp at q' e'); omega))
    have t2 := (QB.out.1.below (by (repeat (first | with_reducible exact Below.refl _ _ | with_reducible assumption | with_reducible refine Below.drew ?_ | with_reducible refine Below.setCell ?_ ?_ _ | with_reducible refine Below.alloc ?_ ?_ _)); all_goals first | (simp; done) | (simp; omega) | omega)).only QC.out.2.1 (fun b e => by
      have e' := Option.some.inj e
      (try simp at e'); (try simp); omega)
    have t3 : VecsAt wC (.slice a3 (vecsD s.tables).length c3) s.tables := Own.vecs QC.out.1
    have p2 : ∀ b, (Value.slice a2 (areasD s.obst).length c2).ownBlock = some b → w.heap.size + 2 ≤ b := fun b hb => by have := (QB.out.1.blk hb).1; (try simp at this); omega
    have HT := Lib.hid (And.intro t1 (And.intro t2 t3))
    have qs : ∀ i, i < 7 → (wC.cell? ⟨w.heap.size + 1, 0 + i, none⟩).isSome = true := fun i hi => by
      have : i = 0 ∨ i = 1 ∨ i = 2 ∨ i = 3 ∨ i = 4 ∨ i = 5 ∨ i = 6 := by omega
      rcases this with rfl | rfl | rfl | rfl | rfl | rfl | rfl <;> go_simp
    have q0 : (((((((wC.setCell ⟨w.heap.size + 1, 0, none⟩ (.int .i64 s.low.1)).setCell ⟨w.heap.size + 1, 1, none⟩ (.int .i64 s.low.2)).setCell ⟨w.heap.size + 1, 2, none⟩ (.int .i64 s.high.1)).setCell ⟨w.heap.size + 1, 3, none⟩ (.int .i64 s.high.2)).setCell ⟨w.heap.size + 1, 4, none⟩ (.slice a1 (vecsD s.robot).length c1)).setCell ⟨w.heap.size + 1, 5, none⟩ (.slice a2 (areasD s.obst).length c2)).setCell ⟨w.heap.size + 1, 6, none⟩ (.slice a3 (vecsD s.tables).length c3)).cell? ⟨w.heap.size + 1, 0, none⟩ = some (.int .i64 s.low.1) := (by have q := stN_cell (w.heap.size + 1) [.int .i64 s.low.1, .int .i64 s.low.2, .int .i64 s.high.1, .int .i64 s.high.2, .slice a1 (vecsD s.robot).length c1, .slice a2 (areasD s.obst).length c2, .slice a3 (vecsD s.tables).length c3] wC 0 qs 0 (by simp); rw [Nat.zero_add] at q; exact q); have q1 : (((((((wC.setCell ⟨w.heap.size + 1, 0, none⟩ (.int .i64 s.low.1)).setCell ⟨w.heap.size + 1, 1, none⟩ (.int .i64 s.low.2)).setCell ⟨w.heap.size + 1, 2, none⟩ (.int .i64 s.high.1)).setCell ⟨w.heap.size + 1, 3, none⟩ (.int .i64 s.high.2)).setCell ⟨w.heap.size + 1, 4, none⟩ (.slice a1 (vecsD s.robot).length c1)).setCell ⟨w.heap.size + 1, 5, none⟩ (.slice a2 (areasD s.obst).length c2)).setCell ⟨w.heap.size + 1, 6, none⟩ (.slice a3 (vecsD s.tables).length c3)).cell? ⟨w.heap.size + 1, 1, none⟩ = some (.int .i64 s.low.2) := (by have q := stN_cell (w.heap.size + 1) [.int .i64 s.low.1, .int .i64 s.low.2, .int .i64 s.high.1, .int .i64 s.high.2, .slice a1 (vecsD s.robot).length c1, .slice a2 (areasD s.obst).length c2, .slice a3 (vecsD s.tables).length c3] wC 0 qs 1 (by simp); rw [Nat.zero_add] at q; exact q); have q2 : (((((((wC.setCell ⟨w.heap.size + 1, 0, none⟩ (.int .i64 s.low.1)).setCell ⟨w.heap.size + 1, 1, none⟩ (.int .i64 s.low.2)).setCell ⟨w.heap.size + 1, 2, none⟩ (.int .i64 s.high.1)).setCell ⟨w.heap.size + 1, 3, none⟩ (.int .i64 s.high.2)).setCell ⟨w.heap.size + 1, 4, none⟩ (.slice a1 (vecsD s.robot).length c1)).setCell ⟨w.heap.size + 1, 5, none⟩ (.slice a2 (areasD s.obst).length c2)).setCell ⟨w.heap.size + 1, 6, none⟩ (.slice a3 (vecsD s.tables).length c3)).cell? ⟨w.heap.size + 1, 2, none⟩ = some (.int .i64 s.high.1) := (by have q := stN_cell (w.heap.size + 1) [.int .i64 s.low.1, .int .i64 s.low.2, .int .i64 s.high.1, .int .i64 s.high.2, .slice a1 (vecsD s.robot).length c1, .slice a2 (areasD s.obst).length c2, .slice a3 (vecsD s.tables).length c3] wC 0 qs 2 (by simp); rw [Nat.zero_add] at q; exact q); have q3 : (((((((wC.setCell ⟨w.heap.size + 1, 0, none⟩ (.int .i64 s.low.1)).setCell ⟨w.heap.size + 1, 1, none⟩ (.int .i64 s.low.2)).setCell ⟨w.heap.size + 1, 2, none⟩ (.int .i64 s.high.1)).setCell ⟨w.heap.size + 1, 3, none⟩ (.int .i64 s.high.2)).setCell ⟨w.heap.size + 1, 4, none⟩ (.slice a1 (vecsD s.robot).length c1)).setCell ⟨w.heap.size + 1, 5, none⟩ (.slice a2 (areasD s.obst).length c2)).setCell ⟨w.heap.size + 1, 6, none⟩ (.slice a3 (vecsD s.tables).length c3)).cell? ⟨w.heap.size + 1, 3, none⟩ = some (.int .i64 s.high.2) := (by have q := stN_cell (w.heap.size + 1) [.int .i64 s.low.1, .int .i64 s.low.2, .int .i64 s.high.1, .int .i64 s.high.2, .slice a1 (vecsD s.robot).length c1, .slice a2 (areasD s.obst).length c2, .slice a3 (vecsD s.tables).length c3] wC 0 qs 3 (by simp); rw [Nat.zero_add] at q; exact q); have q4 : (((((((wC.setCell ⟨w.heap.size + 1, 0, none⟩ (.int .i64 s.low.1)).setCell ⟨w.heap.size + 1, 1, none⟩ (.int .i64 s.low.2)).setCell ⟨w.heap.size + 1, 2, none⟩ (.int .i64 s.high.1)).setCell ⟨w.heap.size + 1, 3, none⟩ (.int .i64 s.high.2)).setCell ⟨w.heap.size + 1, 4, none⟩ (.slice a1 (vecsD s.robot).length c1)).setCell ⟨w.heap.size + 1, 5, none⟩ (.slice a2 (areasD s.obst).length c2)).setCell ⟨w.heap.size + 1, 6, none⟩ (.slice a3 (vecsD s.tables).length c3)).cell? ⟨w.heap.size + 1, 4, none⟩ = some (.slice a1 (vecsD s.robot).length c1) := (by have q := stN_cell (w.heap.size + 1) [.int .i64 s.low.1, .int .i64 s.low.2, .int .i64 s.high.1, .int .i64 s.high.2, .slice a1 (vecsD s.robot).length c1, .slice a2 (areasD s.obst).length c2, .slice a3 (vecsD s.tables).length c3] wC 0 qs 4 (by simp); rw [Nat.zero_add] at q; exact q); have q5 : (((((((wC.setCell ⟨w.heap.size + 1, 0, none⟩ (.int .i64 s.low.1)).setCell ⟨w.heap.size + 1, 1, none⟩ (.int .i64 s.low.2)).setCell ⟨w.heap.size + 1, 2, none⟩ (.int .i64 s.high.1)).setCell ⟨w.heap.size + 1, 3, none⟩ (.int .i64 s.high.2)).setCell ⟨w.heap.size + 1, 4, none⟩ (.slice a1 (vecsD s.robot).length c1)).setCell ⟨w.heap.size + 1, 5, none⟩ (.slice a2 (areasD s.obst).length c2)).setCell ⟨w.heap.size + 1, 6, none⟩ (.slice a3 (vecsD s.tables).length c3)).cell? ⟨w.heap.size + 1, 5, none⟩ = some (.slice a2 (areasD s.obst).length c2) := (by have q := stN_cell (w.heap.size + 1) [.int .i64 s.low.1, .int .i64 s.low.2, .int .i64 s.high.1, .int .i64 s.high.2, .slice a1 (vecsD s.robot).length c1, .slice a2 (areasD s.obst).length c2, .slice a3 (vecsD s.tables).length c3] wC 0 qs 5 (by simp); rw [Nat.zero_add] at q; exact q); have q6 : (((((((wC.setCell ⟨w.heap.size + 1, 0, none⟩ (.int .i64 s.low.1)).setCell ⟨w.heap.size + 1, 1, none⟩ (.int .i64 s.low.2)).setCell ⟨w.heap.size + 1, 2, none⟩ (.int .i64 s.high.1)).setCell ⟨w.heap.size + 1, 3, none⟩ (.int .i64 s.high.2)).setCell ⟨w.heap.size + 1, 4, none⟩ (.slice a1 (vecsD s.robot).length c1)).setCell ⟨w.heap.size + 1, 5, none⟩ (.slice a2 (areasD s.obst).length c2)).setCell ⟨w.heap.size + 1, 6, none⟩ (.slice a3 (vecsD s.tables).length c3)).cell? ⟨w.heap.size + 1, 6, none⟩ = some (.slice a3 (vecsD s.tables).length c3) := (by have q := stN_cell (w.heap.size + 1) [.int .i64 s.low.1, .int .i64 s.low.2, .int .i64 s.high.1, .int .i64 s.high.2, .slice a1 (vecsD s.robot).length c1, .slice a2 (areasD s.obst).length c2, .slice a3 (vecsD s.tables).length c3] wC 0 qs 6 (by simp); rw [Nat.zero_add] at q; exact q)
    have HQ := Lib.hid (And.intro q0 (And.intro q1 (And.intro q2 (And.intro q3 (And.intro q4 (And.intro q5 q6))))))
    clear q0 q1 q2 q3 q4 q5 q6 qs t1 t2 t3
    go_wp2
    obtain ⟨q0, q1, q2, q3, q4, q5, q6⟩ := HQ.out
    refine bodyPost_ret (v := .agg #[.int .i64 s.low.1, .int .i64 s.low.2, .int .i64 s.high.1, .int .i64 s.high.2, .slice a1 (vecsD s.robot).length c1, .slice a2 (areasD s.obst).length c2, .slice a3 (vecsD s.tables).length c3]) (by simp [results, Try.results75, go_sem, q0, q1, q2, q3, q4, q5, q6]) rfl ⟨_, rfl, ?_, ?_⟩
    · intro W' hW
      have hW2 := hW.mono (T := fun b => b < w.heap.size + 2) (fun b hb => Nat.lt_of_lt_of_le hb (Nat.le_add_right _ _))
      have hc : OnlyIn (fun b => b < w.heap.size + 2) wC W' := by
        refine OnlyIn.trans ?_ hW2
        repeat (first | with_reducible exact OnlyIn.refl _ _ | with_reducible refine OnlyIn.setCell ?_ ?_ _)
        all_goals (show _ < _; simp)
      exact ⟨_, _, _, rfl, HT.out.1.only hc (fun b hb e => by have := p1 b hb; omega), VecSSAt.only HT.out.2.1 hc (fun b e => .inl (by (try simp); omega)), HT.out.2.2.only hc (fun b hb e => by have := (QC.out.1.blk hb).1; (try simp at this); omega)⟩
    · exact (by (repeat (first | with_reducible exact Below.refl _ _ | with_reducible assumption | with_reducible refine Below.drew ?_ | with_reducible refine Below.setCell ?_ ?_ _ | with_reducible refine Below.alloc ?_ ?_ _)); all_goals first | (simp; done) | (simp; omega) | omega)
end Go.Proofs.Ytemgpfojmdncjaa
