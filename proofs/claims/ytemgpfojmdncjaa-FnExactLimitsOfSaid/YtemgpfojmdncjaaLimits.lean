/-
  Contracts of LimitsOf, of the program and of the reference.
-/
import Derived.Test.YtemgpfojmdncjaaWidth
import Derived.WalkSpells
namespace Go.Proofs.Ytemgpfojmdncjaa
open Go.RowKit

theorem turnPoly_bd {m : Int} {l : List V2} (h : l.all (insB m) = true) (k : Nat) : ∀ p ∈ turnPoly l k, -m ≤ p.1 ∧ p.1 ≤ m ∧ -m ≤ p.2 ∧ p.2 ≤ m := by
  intro p hp
  simp only [turnPoly, List.mem_map] at hp
  obtain ⟨q, hq, rfl⟩ := hp
  exact rotN_bd (insB_bd (List.all_eq_true.1 h q hq)) k

theorem low_high_bd {m : Int} {l : List V2} (hm : 0 ≤ m) (h : ∀ p ∈ l, -m ≤ p.1 ∧ p.1 ≤ m ∧ -m ≤ p.2 ∧ p.2 ≤ m) :
    (-m ≤ (lowOf l).1 ∧ (lowOf l).1 ≤ m ∧ -m ≤ (lowOf l).2 ∧ (lowOf l).2 ≤ m) ∧ (-m ≤ (highOf l).1 ∧ (highOf l).1 ≤ m ∧ -m ≤ (highOf l).2 ∧ (highOf l).2 ≤ m) := by
  have hz : -m ≤ (l.getD 0 (0, 0)).1 ∧ (l.getD 0 (0, 0)).1 ≤ m ∧ -m ≤ (l.getD 0 (0, 0)).2 ∧ (l.getD 0 (0, 0)).2 ≤ m := by
    cases l with
    | nil => simp; omega
    | cons x r => exact h x (by simp)
  exact ⟨foldl_min_bd l _ hz h, foldl_max_bd l _ hz h⟩

theorem validScn_room {s : Scn} (h : validScn s = true) : (-200 ≤ s.low.1 ∧ s.low.1 ≤ 200 ∧ -200 ≤ s.low.2 ∧ s.low.2 ≤ 200) ∧ (-200 ≤ s.high.1 ∧ s.high.1 ≤ 200 ∧ -200 ≤ s.high.2 ∧ s.high.2 ≤ 200) := by
  simp only [validScn, Bool.and_eq_true, decide_eq_true_eq, List.all_cons, List.all_nil] at h
  exact ⟨insB_bd h.1.1.1.1.1, insB_bd h.1.1.1.1.2.1⟩

/-- The result of LimitsOf as a value. -/
def limVal (s : Scn) (h : Int) : Value := .tuple #[.agg #[.int .i64 (limitsBox s h).1.1, .int .i64 (limitsBox s h).1.2, .int .i64 (limitsBox s h).2.1, .int .i64 (limitsBox s h).2.2], .bool (limitsOk s h)]

theorem limVal_no {s : Scn} {h : Int} (hn : limitsOk s h = false) : limVal s h = .tuple #[.agg #[.int .i64 0, .int .i64 0, .int .i64 0, .int .i64 0], .bool false] := by simp [limVal, limitsBox, hn]
theorem limVal_yes {s : Scn} {h : Int} {k : Nat} {a b c d : Int} (hy : limitsOk s h = true) (hk : h.toNat = k) (hb : boxOf s k = ((a, b), (c, d))) : limVal s h = .tuple #[.agg #[.int .i64 a, .int .i64 b, .int .i64 c, .int .i64 d], .bool true] := by
  simp [limVal, limitsBox, hy, hk, hb]

set_option maxRecDepth 100000 in
set_option maxHeartbeats 4000000 in
theorem LimitsOf_c (s : Scn) (h : Int) (v : Value) (w : World) (hv : SceneAt w v s) :
    Calls Try.prog 17 #[v, .int .i64 h] w fun e w' => e = .returned (limVal s h) ∧ Below w.heap.size w w' := by
  have HV := Lib.hid hv
  obtain ⟨r, o, t, rfl, hr, ho, ht⟩ := hv
  obtain ⟨ra, rcap, rfl, _, _, _⟩ := hr.open
  obtain ⟨oa, ocap, rfl, _, _, _⟩ := ho.open
  obtain ⟨ta, tcap, rfl, _, _, _⟩ := ht.open
  clear hr ho ht
  have hsn := fun (w : World) (a : Option Addr) (n c n' c' : Nat) => Lib.run_eql_slice_nil (P := Try.prog) w 36 31 a n c n' c' Try.underlying36
  cases h1 : (validScn s && inR h 0 3)
  · have hno : limitsOk s h = false := by simp only [limitsOk, h1]; rfl
    rw [limVal_no hno]
    have H1 := Lib.hid h1; clear h1 hno
    go_enter Try.func17, Try.ntmps17
    go_wp2_with fail
    refine (RobotAt_c s h _ _ (HV.out.below (((Below.refl _ _).alloc (Nat.le_refl _) _).alloc (by simp) _))).mono ?_
    rintro e w1 ⟨v', rfl, _, hnil, h1⟩
    have B1 : Below w.heap.size w w1 := Below.trans (by repeat (first | exact Below.refl _ _ | assumption | refine Below.drew ?_ | refine Below.setCell ?_ (by first | (simp; done) | (simp; omega) | omega) _ | refine Below.alloc ?_ (by first | (simp; done) | (simp; omega) | omega) _)) (h1.mono (by first | (simp; done) | (simp; omega) | omega))
    have S1 := h1.size
    have T1 := B1.size
    try simp at S1
    obtain ⟨k1, f1⟩ := bcell h1
    try simp at k1
    try simp at f1
    have Hc1 := Lib.hid h1
    clear h1
    have u1_0 : w.heap.size < w1.heap.size := by omega
    have u1_1 : w.heap.size + 1 < w1.heap.size := by omega
    obtain rfl := hnil H1.out
    clear hnil
    have hr0 : w1.cell? ⟨w.heap.size + 1, 0, none⟩ = some (.int .i64 0) := by go_simp
    have hr1 : w1.cell? ⟨w.heap.size + 1, 1, none⟩ = some (.int .i64 0) := by go_simp
    have hr2 : w1.cell? ⟨w.heap.size + 1, 2, none⟩ = some (.int .i64 0) := by go_simp
    have hr3 : w1.cell? ⟨w.heap.size + 1, 3, none⟩ = some (.int .i64 0) := by go_simp
    have hf0 : w1.frozen? ⟨w.heap.size + 1, 0, none⟩ = false := by go_simp
    have hf1 : w1.frozen? ⟨w.heap.size + 1, 1, none⟩ = false := by go_simp
    have hf2 : w1.frozen? ⟨w.heap.size + 1, 2, none⟩ = false := by go_simp
    have hf3 : w1.frozen? ⟨w.heap.size + 1, 3, none⟩ = false := by go_simp
    clear k1 f1
    have k0 : ((((w1.setCell ⟨w.heap.size + 1, 0, none⟩ (.int .i64 0)).setCell ⟨w.heap.size + 1, 1, none⟩ (.int .i64 0)).setCell ⟨w.heap.size + 1, 2, none⟩ (.int .i64 0)).setCell ⟨w.heap.size + 1, 3, none⟩ (.int .i64 0)).cell? ⟨w.heap.size + 1, 0, none⟩ = some (.int .i64 0) := by go_simp
    have k1 : ((((w1.setCell ⟨w.heap.size + 1, 0, none⟩ (.int .i64 0)).setCell ⟨w.heap.size + 1, 1, none⟩ (.int .i64 0)).setCell ⟨w.heap.size + 1, 2, none⟩ (.int .i64 0)).setCell ⟨w.heap.size + 1, 3, none⟩ (.int .i64 0)).cell? ⟨w.heap.size + 1, 1, none⟩ = some (.int .i64 0) := by go_simp
    have k2 : ((((w1.setCell ⟨w.heap.size + 1, 0, none⟩ (.int .i64 0)).setCell ⟨w.heap.size + 1, 1, none⟩ (.int .i64 0)).setCell ⟨w.heap.size + 1, 2, none⟩ (.int .i64 0)).setCell ⟨w.heap.size + 1, 3, none⟩ (.int .i64 0)).cell? ⟨w.heap.size + 1, 2, none⟩ = some (.int .i64 0) := by go_simp
    have k3 : ((((w1.setCell ⟨w.heap.size + 1, 0, none⟩ (.int .i64 0)).setCell ⟨w.heap.size + 1, 1, none⟩ (.int .i64 0)).setCell ⟨w.heap.size + 1, 2, none⟩ (.int .i64 0)).setCell ⟨w.heap.size + 1, 3, none⟩ (.int .i64 0)).cell? ⟨w.heap.size + 1, 3, none⟩ = some (.int .i64 0) := by go_simp
    have KK := Lib.hid (And.intro k0 (And.intro k1 (And.intro k2 k3)))
    clear k0 k1 k2 k3
    go_wp2
    obtain ⟨k0, k1, k2, k3⟩ := KK.out
    exact bodyPost_ret (v := .tuple #[.agg #[.int .i64 0, .int .i64 0, .int .i64 0, .int .i64 0], .bool false]) (by simp [results, Try.results17, go_sem, k0, k1, k2, k3]) rfl ⟨rfl, (((B1.setCell (by simp) _).setCell (by simp) _).setCell (by simp) _).setCell (by simp) _⟩
  · have hvh := h1
    rw [Bool.and_eq_true] at hvh
    obtain ⟨hval, hhd⟩ := hvh
    obtain ⟨n, rfl⟩ := Int.eq_ofNat_of_zero_le (inR_iff.1 hhd).1
    have hn : n ≤ 3 := by have := (inR_iff.1 hhd).2; omega
    have hrob := validScn_robot hval
    have hroom := validScn_room hval
    have hturn := turnPoly_bd hrob.2.2 n
    have hlh := low_high_bd (by omega) hturn
    have hra : robotAt s n = turnPoly s.robot n := by simp only [robotAt, h1]; rfl
    have hlen : 0 < (turnPoly s.robot n).length := by have := (isPoly_vecs hrob.1).1; simp [turnPoly]; omega
    have hok : limitsOk s n = boxOpen (boxOf s n) := by simp only [limitsOk, h1]; rfl
    obtain ⟨⟨sl1, sl2, sl3, sl4⟩, sh1, sh2, sh3, sh4⟩ := hroom
    obtain ⟨p, q, hlo⟩ : ∃ p q, lowOf (turnPoly s.robot n) = (p, q) := ⟨_, _, rfl⟩
    obtain ⟨p', q', hhi⟩ : ∃ p q, highOf (turnPoly s.robot n) = (p, q) := ⟨_, _, rfl⟩
    have hbox : boxOf s n = ((s.low.1 - p, s.low.2 - q), (s.high.1 - p', s.high.2 - q')) := by simp only [boxOf, hlo, hhi]
    rw [hlo, hhi] at hlh
    obtain ⟨⟨b1, b2, b3, b4⟩, b5, b6, b7, b8⟩ := hlh
    simp only at b1 b2 b3 b4 b5 b6 b7 b8
    have HRA := Lib.hid hra
    have HLEN := Lib.hid hlen
    have HOK := Lib.hid hok
    have HBX := Lib.hid hbox
    have HLO := Lib.hid (And.intro hlo hhi)
    clear hra hlen hok hbox hlo hhi hrob hturn hval hhd h1
    go_enter Try.func17, Try.ntmps17
    go_wp2_with fail
    refine (RobotAt_c s n _ _ (HV.out.below (((Below.refl _ _).alloc (Nat.le_refl _) _).alloc (by simp) _))).mono ?_
    rintro e w1 ⟨v', rfl, hown, _, h1⟩
    have B1 : Below w.heap.size w w1 := Below.trans (by repeat (first | exact Below.refl _ _ | assumption | refine Below.drew ?_ | refine Below.setCell ?_ (by first | (simp; done) | (simp; omega) | omega) _ | refine Below.alloc ?_ (by first | (simp; done) | (simp; omega) | omega) _)) (h1.mono (by first | (simp; done) | (simp; omega) | omega))
    have S1 := h1.size
    have T1 := B1.size
    try simp at S1
    obtain ⟨k1, f1⟩ := bcell h1
    try simp at k1
    try simp at f1
    have Hc1 := Lib.hid h1
    clear h1
    have u1_0 : w.heap.size < w1.heap.size := by omega
    have u1_1 : w.heap.size + 1 < w1.heap.size := by omega
    rw [HRA.out] at hown
    have HVA := Lib.hid hown.at
    have hsh : ∃ g cap, v' = .slice (some ⟨g, 0, none⟩) (turnPoly s.robot n).length cap := by
      rcases hown.2 with ⟨_, h0⟩ | ⟨g, cap, _, hv, _⟩
      · have := HLEN.out; omega
      · exact ⟨g, cap, hv⟩
    obtain ⟨g, cap, rfl⟩ := hsh
    clear hown
    go_wp2_with fail
    refine (widthOf_c (turnPoly s.robot n) HLEN.out _ _ HVA.out).mono ?_
    rintro e w2 ⟨rfl, h2⟩
    have B2 : Below w.heap.size w w2 := Below.trans (by repeat (first | exact Below.refl _ _ | assumption | refine Below.drew ?_ | refine Below.setCell ?_ (by first | (simp; done) | (simp; omega) | omega) _ | refine Below.alloc ?_ (by first | (simp; done) | (simp; omega) | omega) _)) (h2.mono (by first | (simp; done) | (simp; omega) | omega))
    have S2 := h2.size
    have T2 := B2.size
    try simp at S2
    obtain ⟨k2, f2⟩ := bcell h2
    try simp at k2
    try simp at f2
    have Hc2 := Lib.hid h2
    clear h2
    have u2_0 : w.heap.size < w2.heap.size := by omega
    have u2_1 : w.heap.size + 1 < w2.heap.size := by omega
    rw [HLO.out.1, HLO.out.2]
    simp only
    have hr0 : w2.cell? ⟨w.heap.size + 1, 0, none⟩ = some (.int .i64 0) := by go_simp
    have hr1 : w2.cell? ⟨w.heap.size + 1, 1, none⟩ = some (.int .i64 0) := by go_simp
    have hr2 : w2.cell? ⟨w.heap.size + 1, 2, none⟩ = some (.int .i64 0) := by go_simp
    have hr3 : w2.cell? ⟨w.heap.size + 1, 3, none⟩ = some (.int .i64 0) := by go_simp
    have hf0 : w2.frozen? ⟨w.heap.size + 1, 0, none⟩ = false := by go_simp
    have hf1 : w2.frozen? ⟨w.heap.size + 1, 1, none⟩ = false := by go_simp
    have hf2 : w2.frozen? ⟨w.heap.size + 1, 2, none⟩ = false := by go_simp
    have hf3 : w2.frozen? ⟨w.heap.size + 1, 3, none⟩ = false := by go_simp
    have hb0 : w2.cell? ⟨w.heap.size, 0, none⟩ = some (.int .i64 s.low.1) := by go_simp
    have hb1 : w2.cell? ⟨w.heap.size, 1, none⟩ = some (.int .i64 s.low.2) := by go_simp
    have hb2 : w2.cell? ⟨w.heap.size, 2, none⟩ = some (.int .i64 s.high.1) := by go_simp
    have hb3 : w2.cell? ⟨w.heap.size, 3, none⟩ = some (.int .i64 s.high.2) := by go_simp
    clear k1 f1 k2 f2
    by_cases ho1 : s.low.1 - p < s.high.1 - p'
    · by_cases ho2 : s.low.2 - q < s.high.2 - q'
      · have hy : limitsOk s n = true := by rw [HOK.out, HBX.out]; simp [boxOpen, ho1, ho2]
        have HY := Lib.hid hy
        clear hy
        have u5 : w.heap.size + 1 < w2.heap.size + 1 := by omega
        have u6 : w.heap.size + 1 < w2.heap.size + 1 + 1 := by omega
        have k0 : (((((((w2.setCell ⟨w.heap.size + 1, 0, none⟩ (.int .i64 (s.low.1 - p))).setCell ⟨w.heap.size + 1, 1, none⟩ (.int .i64 (s.low.2 - q))).setCell ⟨w.heap.size + 1, 2, none⟩ (.int .i64 (s.high.1 - p'))).setCell ⟨w.heap.size + 1, 3, none⟩ (.int .i64 (s.high.2 - q'))).alloc (.cells #[.int .i64 p, .int .i64 q] 31)).alloc (.cells #[.int .i64 p', .int .i64 q'] 31)).alloc (.cells #[.int .i64 (s.low.1 - p), .int .i64 (s.low.2 - q), .int .i64 (s.high.1 - p'), .int .i64 (s.high.2 - q')] 33)).cell? ⟨w.heap.size + 1, 0, none⟩ = some (.int .i64 (s.low.1 - p)) := by go_simp
        have k1 : (((((((w2.setCell ⟨w.heap.size + 1, 0, none⟩ (.int .i64 (s.low.1 - p))).setCell ⟨w.heap.size + 1, 1, none⟩ (.int .i64 (s.low.2 - q))).setCell ⟨w.heap.size + 1, 2, none⟩ (.int .i64 (s.high.1 - p'))).setCell ⟨w.heap.size + 1, 3, none⟩ (.int .i64 (s.high.2 - q'))).alloc (.cells #[.int .i64 p, .int .i64 q] 31)).alloc (.cells #[.int .i64 p', .int .i64 q'] 31)).alloc (.cells #[.int .i64 (s.low.1 - p), .int .i64 (s.low.2 - q), .int .i64 (s.high.1 - p'), .int .i64 (s.high.2 - q')] 33)).cell? ⟨w.heap.size + 1, 1, none⟩ = some (.int .i64 (s.low.2 - q)) := by go_simp
        have k2 : (((((((w2.setCell ⟨w.heap.size + 1, 0, none⟩ (.int .i64 (s.low.1 - p))).setCell ⟨w.heap.size + 1, 1, none⟩ (.int .i64 (s.low.2 - q))).setCell ⟨w.heap.size + 1, 2, none⟩ (.int .i64 (s.high.1 - p'))).setCell ⟨w.heap.size + 1, 3, none⟩ (.int .i64 (s.high.2 - q'))).alloc (.cells #[.int .i64 p, .int .i64 q] 31)).alloc (.cells #[.int .i64 p', .int .i64 q'] 31)).alloc (.cells #[.int .i64 (s.low.1 - p), .int .i64 (s.low.2 - q), .int .i64 (s.high.1 - p'), .int .i64 (s.high.2 - q')] 33)).cell? ⟨w.heap.size + 1, 2, none⟩ = some (.int .i64 (s.high.1 - p')) := by go_simp
        have k3 : (((((((w2.setCell ⟨w.heap.size + 1, 0, none⟩ (.int .i64 (s.low.1 - p))).setCell ⟨w.heap.size + 1, 1, none⟩ (.int .i64 (s.low.2 - q))).setCell ⟨w.heap.size + 1, 2, none⟩ (.int .i64 (s.high.1 - p'))).setCell ⟨w.heap.size + 1, 3, none⟩ (.int .i64 (s.high.2 - q'))).alloc (.cells #[.int .i64 p, .int .i64 q] 31)).alloc (.cells #[.int .i64 p', .int .i64 q'] 31)).alloc (.cells #[.int .i64 (s.low.1 - p), .int .i64 (s.low.2 - q), .int .i64 (s.high.1 - p'), .int .i64 (s.high.2 - q')] 33)).cell? ⟨w.heap.size + 1, 3, none⟩ = some (.int .i64 (s.high.2 - q')) := by go_simp
        have KK := Lib.hid (And.intro k0 (And.intro k1 (And.intro k2 k3)))
        clear k0 k1 k2 k3
        go_wp2
        obtain ⟨k0, k1, k2, k3⟩ := KK.out
        refine bodyPost_ret (v := .tuple #[.agg #[.int .i64 (s.low.1 - p), .int .i64 (s.low.2 - q), .int .i64 (s.high.1 - p'), .int .i64 (s.high.2 - q')], .bool true]) (by simp [results, Try.results17, go_sem, k0, k1, k2, k3]) rfl ⟨?_, (((((((B2.setCell (by simp) _).setCell (by simp) _).setCell (by simp) _).setCell (by simp) _).alloc (by simp; omega) _).alloc (by simp; omega) _).alloc (by simp; omega) _)⟩
        rw [limVal_yes HY.out (by simp) HBX.out]
      · have hy : limitsOk s n = false := by rw [HOK.out, HBX.out]; simp [boxOpen, ho2]
        have HY := Lib.hid hy
        clear hy
        have u5 : w.heap.size + 1 < w2.heap.size + 1 := by omega
        have u6 : w.heap.size + 1 < w2.heap.size + 1 + 1 := by omega
        have k0 : (((((((w2.setCell ⟨w.heap.size + 1, 0, none⟩ (.int .i64 (0))).setCell ⟨w.heap.size + 1, 1, none⟩ (.int .i64 (0))).setCell ⟨w.heap.size + 1, 2, none⟩ (.int .i64 (0))).setCell ⟨w.heap.size + 1, 3, none⟩ (.int .i64 (0))).alloc (.cells #[.int .i64 p, .int .i64 q] 31)).alloc (.cells #[.int .i64 p', .int .i64 q'] 31)).alloc (.cells #[.int .i64 (s.low.1 - p), .int .i64 (s.low.2 - q), .int .i64 (s.high.1 - p'), .int .i64 (s.high.2 - q')] 33)).cell? ⟨w.heap.size + 1, 0, none⟩ = some (.int .i64 (0)) := by go_simp
        have k1 : (((((((w2.setCell ⟨w.heap.size + 1, 0, none⟩ (.int .i64 (0))).setCell ⟨w.heap.size + 1, 1, none⟩ (.int .i64 (0))).setCell ⟨w.heap.size + 1, 2, none⟩ (.int .i64 (0))).setCell ⟨w.heap.size + 1, 3, none⟩ (.int .i64 (0))).alloc (.cells #[.int .i64 p, .int .i64 q] 31)).alloc (.cells #[.int .i64 p', .int .i64 q'] 31)).alloc (.cells #[.int .i64 (s.low.1 - p), .int .i64 (s.low.2 - q), .int .i64 (s.high.1 - p'), .int .i64 (s.high.2 - q')] 33)).cell? ⟨w.heap.size + 1, 1, none⟩ = some (.int .i64 (0)) := by go_simp
        have k2 : (((((((w2.setCell ⟨w.heap.size + 1, 0, none⟩ (.int .i64 (0))).setCell ⟨w.heap.size + 1, 1, none⟩ (.int .i64 (0))).setCell ⟨w.heap.size + 1, 2, none⟩ (.int .i64 (0))).setCell ⟨w.heap.size + 1, 3, none⟩ (.int .i64 (0))).alloc (.cells #[.int .i64 p, .int .i64 q] 31)).alloc (.cells #[.int .i64 p', .int .i64 q'] 31)).alloc (.cells #[.int .i64 (s.low.1 - p), .int .i64 (s.low.2 - q), .int .i64 (s.high.1 - p'), .int .i64 (s.high.2 - q')] 33)).cell? ⟨w.heap.size + 1, 2, none⟩ = some (.int .i64 (0)) := by go_simp
        have k3 : (((((((w2.setCell ⟨w.heap.size + 1, 0, none⟩ (.int .i64 (0))).setCell ⟨w.heap.size + 1, 1, none⟩ (.int .i64 (0))).setCell ⟨w.heap.size + 1, 2, none⟩ (.int .i64 (0))).setCell ⟨w.heap.size + 1, 3, none⟩ (.int .i64 (0))).alloc (.cells #[.int .i64 p, .int .i64 q] 31)).alloc (.cells #[.int .i64 p', .int .i64 q'] 31)).alloc (.cells #[.int .i64 (s.low.1 - p), .int .i64 (s.low.2 - q), .int .i64 (s.high.1 - p'), .int .i64 (s.high.2 - q')] 33)).cell? ⟨w.heap.size + 1, 3, none⟩ = some (.int .i64 (0)) := by go_simp
        have KK := Lib.hid (And.intro k0 (And.intro k1 (And.intro k2 k3)))
        clear k0 k1 k2 k3
        go_wp2
        obtain ⟨k0, k1, k2, k3⟩ := KK.out
        refine bodyPost_ret (v := .tuple #[.agg #[.int .i64 (0), .int .i64 (0), .int .i64 (0), .int .i64 (0)], .bool false]) (by simp [results, Try.results17, go_sem, k0, k1, k2, k3]) rfl ⟨?_, (((((((B2.setCell (by simp) _).setCell (by simp) _).setCell (by simp) _).setCell (by simp) _).alloc (by simp; omega) _).alloc (by simp; omega) _).alloc (by simp; omega) _)⟩
        rw [limVal_no HY.out]
    · have hy : limitsOk s n = false := by rw [HOK.out, HBX.out]; simp [boxOpen, ho1]
      have HY := Lib.hid hy
      clear hy
      have u5 : w.heap.size + 1 < w2.heap.size + 1 := by omega
      have u6 : w.heap.size + 1 < w2.heap.size + 1 + 1 := by omega
      have k0 : (((((((w2.setCell ⟨w.heap.size + 1, 0, none⟩ (.int .i64 (0))).setCell ⟨w.heap.size + 1, 1, none⟩ (.int .i64 (0))).setCell ⟨w.heap.size + 1, 2, none⟩ (.int .i64 (0))).setCell ⟨w.heap.size + 1, 3, none⟩ (.int .i64 (0))).alloc (.cells #[.int .i64 p, .int .i64 q] 31)).alloc (.cells #[.int .i64 p', .int .i64 q'] 31)).alloc (.cells #[.int .i64 (s.low.1 - p), .int .i64 (s.low.2 - q), .int .i64 (s.high.1 - p'), .int .i64 (s.high.2 - q')] 33)).cell? ⟨w.heap.size + 1, 0, none⟩ = some (.int .i64 (0)) := by go_simp
      have k1 : (((((((w2.setCell ⟨w.heap.size + 1, 0, none⟩ (.int .i64 (0))).setCell ⟨w.heap.size + 1, 1, none⟩ (.int .i64 (0))).setCell ⟨w.heap.size + 1, 2, none⟩ (.int .i64 (0))).setCell ⟨w.heap.size + 1, 3, none⟩ (.int .i64 (0))).alloc (.cells #[.int .i64 p, .int .i64 q] 31)).alloc (.cells #[.int .i64 p', .int .i64 q'] 31)).alloc (.cells #[.int .i64 (s.low.1 - p), .int .i64 (s.low.2 - q), .int .i64 (s.high.1 - p'), .int .i64 (s.high.2 - q')] 33)).cell? ⟨w.heap.size + 1, 1, none⟩ = some (.int .i64 (0)) := by go_simp
      have k2 : (((((((w2.setCell ⟨w.heap.size + 1, 0, none⟩ (.int .i64 (0))).setCell ⟨w.heap.size + 1, 1, none⟩ (.int .i64 (0))).setCell ⟨w.heap.size + 1, 2, none⟩ (.int .i64 (0))).setCell ⟨w.heap.size + 1, 3, none⟩ (.int .i64 (0))).alloc (.cells #[.int .i64 p, .int .i64 q] 31)).alloc (.cells #[.int .i64 p', .int .i64 q'] 31)).alloc (.cells #[.int .i64 (s.low.1 - p), .int .i64 (s.low.2 - q), .int .i64 (s.high.1 - p'), .int .i64 (s.high.2 - q')] 33)).cell? ⟨w.heap.size + 1, 2, none⟩ = some (.int .i64 (0)) := by go_simp
      have k3 : (((((((w2.setCell ⟨w.heap.size + 1, 0, none⟩ (.int .i64 (0))).setCell ⟨w.heap.size + 1, 1, none⟩ (.int .i64 (0))).setCell ⟨w.heap.size + 1, 2, none⟩ (.int .i64 (0))).setCell ⟨w.heap.size + 1, 3, none⟩ (.int .i64 (0))).alloc (.cells #[.int .i64 p, .int .i64 q] 31)).alloc (.cells #[.int .i64 p', .int .i64 q'] 31)).alloc (.cells #[.int .i64 (s.low.1 - p), .int .i64 (s.low.2 - q), .int .i64 (s.high.1 - p'), .int .i64 (s.high.2 - q')] 33)).cell? ⟨w.heap.size + 1, 3, none⟩ = some (.int .i64 (0)) := by go_simp
      have KK := Lib.hid (And.intro k0 (And.intro k1 (And.intro k2 k3)))
      clear k0 k1 k2 k3
      go_wp2
      obtain ⟨k0, k1, k2, k3⟩ := KK.out
      refine bodyPost_ret (v := .tuple #[.agg #[.int .i64 (0), .int .i64 (0), .int .i64 (0), .int .i64 (0)], .bool false]) (by simp [results, Try.results17, go_sem, k0, k1, k2, k3]) rfl ⟨?_, (((((((B2.setCell (by simp) _).setCell (by simp) _).setCell (by simp) _).setCell (by simp) _).alloc (by simp; omega) _).alloc (by simp; omega) _).alloc (by simp; omega) _)⟩
      rw [limVal_no HY.out]
set_option maxRecDepth 100000 in
set_option maxHeartbeats 4000000 in
theorem sLimitsOf_c (s : Scn) (h : Int) (v : Value) (w : World) (hv : SceneAt w v s) :
    Calls Try.prog 15 #[v, .int .i64 h] w fun e w' => e = .returned (limVal s h) ∧ Below w.heap.size w w' := by
  have HV := Lib.hid hv
  obtain ⟨r, o, t, rfl, hr, ho, ht⟩ := hv
  obtain ⟨ra, rcap, rfl, _, _, _⟩ := hr.open
  obtain ⟨oa, ocap, rfl, _, _, _⟩ := ho.open
  obtain ⟨ta, tcap, rfl, _, _, _⟩ := ht.open
  clear hr ho ht
  cases h1 : (validScn s && inR h 0 3)
  · have hno : limitsOk s h = false := by simp only [limitsOk, h1]; rfl
    rw [limVal_no hno]
    have H1 := Lib.hid h1; clear h1 hno
    go_enter Try.func15, Try.ntmps15
    go_wp2_with fail
    refine (sRobotAt_c s h _ _ (HV.out.below (((Below.refl _ _).alloc (Nat.le_refl _) _).alloc (by simp) _))).mono ?_
    rintro e w1 ⟨v', rfl, _, hnil, h1⟩
    have B1 : Below w.heap.size w w1 := Below.trans (by repeat (first | exact Below.refl _ _ | assumption | refine Below.drew ?_ | refine Below.setCell ?_ (by first | (simp; done) | (simp; omega) | omega) _ | refine Below.alloc ?_ (by first | (simp; done) | (simp; omega) | omega) _)) (h1.mono (by first | (simp; done) | (simp; omega) | omega))
    have S1 := h1.size
    have T1 := B1.size
    try simp at S1
    obtain ⟨k1, f1⟩ := bcell h1
    try simp at k1
    try simp at f1
    have Hc1 := Lib.hid h1
    clear h1
    have u1_0 : w.heap.size < w1.heap.size := by omega
    have u1_1 : w.heap.size + 1 < w1.heap.size := by omega
    obtain rfl := hnil H1.out
    clear hnil
    go_wp2_with fail
    refine (WidthOf_no [] (by decide) _ _ ⟨none, 0, rfl, by simp, by decide, by simp, .inl rfl⟩).mono ?_
    rintro e w2 ⟨rfl, h2⟩
    have B2 : Below w.heap.size w w2 := Below.trans (by repeat (first | exact Below.refl _ _ | assumption | refine Below.drew ?_ | refine Below.setCell ?_ (by first | (simp; done) | (simp; omega) | omega) _ | refine Below.alloc ?_ (by first | (simp; done) | (simp; omega) | omega) _)) (h2.mono (by first | (simp; done) | (simp; omega) | omega))
    have S2 := h2.size
    have T2 := B2.size
    try simp at S2
    obtain ⟨k2, f2⟩ := bcell h2
    try simp at k2
    try simp at f2
    have Hc2 := Lib.hid h2
    clear h2
    have u2_0 : w.heap.size < w2.heap.size := by omega
    have u2_1 : w.heap.size + 1 < w2.heap.size := by omega
    have hr0 : w2.cell? ⟨w.heap.size + 1, 0, none⟩ = some (.int .i64 0) := by go_simp
    have hr1 : w2.cell? ⟨w.heap.size + 1, 1, none⟩ = some (.int .i64 0) := by go_simp
    have hr2 : w2.cell? ⟨w.heap.size + 1, 2, none⟩ = some (.int .i64 0) := by go_simp
    have hr3 : w2.cell? ⟨w.heap.size + 1, 3, none⟩ = some (.int .i64 0) := by go_simp
    have hf0 : w2.frozen? ⟨w.heap.size + 1, 0, none⟩ = false := by go_simp
    have hf1 : w2.frozen? ⟨w.heap.size + 1, 1, none⟩ = false := by go_simp
    have hf2 : w2.frozen? ⟨w.heap.size + 1, 2, none⟩ = false := by go_simp
    have hf3 : w2.frozen? ⟨w.heap.size + 1, 3, none⟩ = false := by go_simp
    clear k1 f1 k2 f2
    have u5 : w.heap.size + 1 < w2.heap.size + 1 := by omega
    have k0 : ((((((w2.setCell ⟨w.heap.size + 1, 0, none⟩ (.int .i64 0)).setCell ⟨w.heap.size + 1, 1, none⟩ (.int .i64 0)).setCell ⟨w.heap.size + 1, 2, none⟩ (.int .i64 0)).setCell ⟨w.heap.size + 1, 3, none⟩ (.int .i64 0)).alloc (.cells #[.int .i64 0, .int .i64 0] 31)).alloc (.cells #[.int .i64 0, .int .i64 0] 31)).cell? ⟨w.heap.size + 1, 0, none⟩ = some (.int .i64 0) := by go_simp
    have k1 : ((((((w2.setCell ⟨w.heap.size + 1, 0, none⟩ (.int .i64 0)).setCell ⟨w.heap.size + 1, 1, none⟩ (.int .i64 0)).setCell ⟨w.heap.size + 1, 2, none⟩ (.int .i64 0)).setCell ⟨w.heap.size + 1, 3, none⟩ (.int .i64 0)).alloc (.cells #[.int .i64 0, .int .i64 0] 31)).alloc (.cells #[.int .i64 0, .int .i64 0] 31)).cell? ⟨w.heap.size + 1, 1, none⟩ = some (.int .i64 0) := by go_simp
    have k2 : ((((((w2.setCell ⟨w.heap.size + 1, 0, none⟩ (.int .i64 0)).setCell ⟨w.heap.size + 1, 1, none⟩ (.int .i64 0)).setCell ⟨w.heap.size + 1, 2, none⟩ (.int .i64 0)).setCell ⟨w.heap.size + 1, 3, none⟩ (.int .i64 0)).alloc (.cells #[.int .i64 0, .int .i64 0] 31)).alloc (.cells #[.int .i64 0, .int .i64 0] 31)).cell? ⟨w.heap.size + 1, 2, none⟩ = some (.int .i64 0) := by go_simp
    have k3 : ((((((w2.setCell ⟨w.heap.size + 1, 0, none⟩ (.int .i64 0)).setCell ⟨w.heap.size + 1, 1, none⟩ (.int .i64 0)).setCell ⟨w.heap.size + 1, 2, none⟩ (.int .i64 0)).setCell ⟨w.heap.size + 1, 3, none⟩ (.int .i64 0)).alloc (.cells #[.int .i64 0, .int .i64 0] 31)).alloc (.cells #[.int .i64 0, .int .i64 0] 31)).cell? ⟨w.heap.size + 1, 3, none⟩ = some (.int .i64 0) := by go_simp
    have KK := Lib.hid (And.intro k0 (And.intro k1 (And.intro k2 k3)))
    clear k0 k1 k2 k3
    go_wp2
    obtain ⟨k0, k1, k2, k3⟩ := KK.out
    exact bodyPost_ret (v := .tuple #[.agg #[.int .i64 0, .int .i64 0, .int .i64 0, .int .i64 0], .bool false]) (by simp [results, Try.results15, go_sem, k0, k1, k2, k3]) rfl ⟨rfl, (((((B2.setCell (by simp) _).setCell (by simp) _).setCell (by simp) _).setCell (by simp) _).alloc (by simp; omega) _).alloc (by simp; omega) _⟩
  · have hvh := h1
    rw [Bool.and_eq_true] at hvh
    obtain ⟨hval, hhd⟩ := hvh
    obtain ⟨n, rfl⟩ := Int.eq_ofNat_of_zero_le (inR_iff.1 hhd).1
    have hn : n ≤ 3 := by have := (inR_iff.1 hhd).2; omega
    have hrob := validScn_robot hval
    have hroom := validScn_room hval
    have hturn := turnPoly_bd hrob.2.2 n
    have hlh := low_high_bd (by omega) hturn
    have hra : robotAt s n = turnPoly s.robot n := by simp only [robotAt, h1]; rfl
    have hlen : 0 < (turnPoly s.robot n).length := by have := (isPoly_vecs hrob.1).1; simp [turnPoly]; omega
    have hok : limitsOk s n = boxOpen (boxOf s n) := by simp only [limitsOk, h1]; rfl
    obtain ⟨⟨sl1, sl2, sl3, sl4⟩, sh1, sh2, sh3, sh4⟩ := hroom
    obtain ⟨p, q, hlo⟩ : ∃ p q, lowOf (turnPoly s.robot n) = (p, q) := ⟨_, _, rfl⟩
    obtain ⟨p', q', hhi⟩ : ∃ p q, highOf (turnPoly s.robot n) = (p, q) := ⟨_, _, rfl⟩
    have hbox : boxOf s n = ((s.low.1 - p, s.low.2 - q), (s.high.1 - p', s.high.2 - q')) := by simp only [boxOf, hlo, hhi]
    rw [hlo, hhi] at hlh
    obtain ⟨⟨b1, b2, b3, b4⟩, b5, b6, b7, b8⟩ := hlh
    simp only at b1 b2 b3 b4 b5 b6 b7 b8
    have hpt : isPoly (turnPoly s.robot n) = true := by rw [isPoly_turn]; exact hrob.1
    have HPT := Lib.hid hpt
    clear hpt
    have HRA := Lib.hid hra
    have HLEN := Lib.hid hlen
    have HOK := Lib.hid hok
    have HBX := Lib.hid hbox
    have HLO := Lib.hid (And.intro hlo hhi)
    clear hra hlen hok hbox hlo hhi hrob hturn hval hhd h1
    go_enter Try.func15, Try.ntmps15
    go_wp2_with fail
    refine (sRobotAt_c s n _ _ (HV.out.below (((Below.refl _ _).alloc (Nat.le_refl _) _).alloc (by simp) _))).mono ?_
    rintro e w1 ⟨v', rfl, hown, _, h1⟩
    have B1 : Below w.heap.size w w1 := Below.trans (by repeat (first | exact Below.refl _ _ | assumption | refine Below.drew ?_ | refine Below.setCell ?_ (by first | (simp; done) | (simp; omega) | omega) _ | refine Below.alloc ?_ (by first | (simp; done) | (simp; omega) | omega) _)) (h1.mono (by first | (simp; done) | (simp; omega) | omega))
    have S1 := h1.size
    have T1 := B1.size
    try simp at S1
    obtain ⟨k1, f1⟩ := bcell h1
    try simp at k1
    try simp at f1
    have Hc1 := Lib.hid h1
    clear h1
    have u1_0 : w.heap.size < w1.heap.size := by omega
    have u1_1 : w.heap.size + 1 < w1.heap.size := by omega
    rw [HRA.out] at hown
    have HVA := Lib.hid hown.at
    have hsh : ∃ g cap, v' = .slice (some ⟨g, 0, none⟩) (turnPoly s.robot n).length cap := by
      rcases hown.2 with ⟨_, h0⟩ | ⟨g, cap, _, hv, _⟩
      · have := HLEN.out; omega
      · exact ⟨g, cap, hv⟩
    obtain ⟨g, cap, rfl⟩ := hsh
    clear hown
    go_wp2_with fail
    refine (WidthOf_yes (turnPoly s.robot n) HPT.out _ _ HVA.out).mono ?_
    rintro e w2 ⟨rfl, h2⟩
    have B2 : Below w.heap.size w w2 := Below.trans (by repeat (first | exact Below.refl _ _ | assumption | refine Below.drew ?_ | refine Below.setCell ?_ (by first | (simp; done) | (simp; omega) | omega) _ | refine Below.alloc ?_ (by first | (simp; done) | (simp; omega) | omega) _)) (h2.mono (by first | (simp; done) | (simp; omega) | omega))
    have S2 := h2.size
    have T2 := B2.size
    try simp at S2
    obtain ⟨k2, f2⟩ := bcell h2
    try simp at k2
    try simp at f2
    have Hc2 := Lib.hid h2
    clear h2
    have u2_0 : w.heap.size < w2.heap.size := by omega
    have u2_1 : w.heap.size + 1 < w2.heap.size := by omega
    rw [HLO.out.1, HLO.out.2]
    simp only
    have hr0 : w2.cell? ⟨w.heap.size + 1, 0, none⟩ = some (.int .i64 0) := by go_simp
    have hr1 : w2.cell? ⟨w.heap.size + 1, 1, none⟩ = some (.int .i64 0) := by go_simp
    have hr2 : w2.cell? ⟨w.heap.size + 1, 2, none⟩ = some (.int .i64 0) := by go_simp
    have hr3 : w2.cell? ⟨w.heap.size + 1, 3, none⟩ = some (.int .i64 0) := by go_simp
    have hf0 : w2.frozen? ⟨w.heap.size + 1, 0, none⟩ = false := by go_simp
    have hf1 : w2.frozen? ⟨w.heap.size + 1, 1, none⟩ = false := by go_simp
    have hf2 : w2.frozen? ⟨w.heap.size + 1, 2, none⟩ = false := by go_simp
    have hf3 : w2.frozen? ⟨w.heap.size + 1, 3, none⟩ = false := by go_simp
    have hb0 : w2.cell? ⟨w.heap.size, 0, none⟩ = some (.int .i64 s.low.1) := by go_simp
    have hb1 : w2.cell? ⟨w.heap.size, 1, none⟩ = some (.int .i64 s.low.2) := by go_simp
    have hb2 : w2.cell? ⟨w.heap.size, 2, none⟩ = some (.int .i64 s.high.1) := by go_simp
    have hb3 : w2.cell? ⟨w.heap.size, 3, none⟩ = some (.int .i64 s.high.2) := by go_simp
    clear k1 f1 k2 f2
    by_cases ho1 : s.low.1 - p < s.high.1 - p'
    · by_cases ho2 : s.low.2 - q < s.high.2 - q'
      · have hy : limitsOk s n = true := by rw [HOK.out, HBX.out]; simp [boxOpen, ho1, ho2]
        have HY := Lib.hid hy
        clear hy
        have u5 : w.heap.size + 1 < w2.heap.size + 1 := by omega
        have u6 : w.heap.size + 1 < w2.heap.size + 1 + 1 := by omega
        have k0 : (((((((w2.setCell ⟨w.heap.size + 1, 0, none⟩ (.int .i64 (s.low.1 - p))).setCell ⟨w.heap.size + 1, 1, none⟩ (.int .i64 (s.low.2 - q))).setCell ⟨w.heap.size + 1, 2, none⟩ (.int .i64 (s.high.1 - p'))).setCell ⟨w.heap.size + 1, 3, none⟩ (.int .i64 (s.high.2 - q'))).alloc (.cells #[.int .i64 p, .int .i64 q] 31)).alloc (.cells #[.int .i64 p', .int .i64 q'] 31)).alloc (.cells #[.int .i64 (s.low.1 - p), .int .i64 (s.low.2 - q), .int .i64 (s.high.1 - p'), .int .i64 (s.high.2 - q')] 33)).cell? ⟨w.heap.size + 1, 0, none⟩ = some (.int .i64 (s.low.1 - p)) := by go_simp
        have k1 : (((((((w2.setCell ⟨w.heap.size + 1, 0, none⟩ (.int .i64 (s.low.1 - p))).setCell ⟨w.heap.size + 1, 1, none⟩ (.int .i64 (s.low.2 - q))).setCell ⟨w.heap.size + 1, 2, none⟩ (.int .i64 (s.high.1 - p'))).setCell ⟨w.heap.size + 1, 3, none⟩ (.int .i64 (s.high.2 - q'))).alloc (.cells #[.int .i64 p, .int .i64 q] 31)).alloc (.cells #[.int .i64 p', .int .i64 q'] 31)).alloc (.cells #[.int .i64 (s.low.1 - p), .int .i64 (s.low.2 - q), .int .i64 (s.high.1 - p'), .int .i64 (s.high.2 - q')] 33)).cell? ⟨w.heap.size + 1, 1, none⟩ = some (.int .i64 (s.low.2 - q)) := by go_simp
        have k2 : (((((((w2.setCell ⟨w.heap.size + 1, 0, none⟩ (.int .i64 (s.low.1 - p))).setCell ⟨w.heap.size + 1, 1, none⟩ (.int .i64 (s.low.2 - q))).setCell ⟨w.heap.size + 1, 2, none⟩ (.int .i64 (s.high.1 - p'))).setCell ⟨w.heap.size + 1, 3, none⟩ (.int .i64 (s.high.2 - q'))).alloc (.cells #[.int .i64 p, .int .i64 q] 31)).alloc (.cells #[.int .i64 p', .int .i64 q'] 31)).alloc (.cells #[.int .i64 (s.low.1 - p), .int .i64 (s.low.2 - q), .int .i64 (s.high.1 - p'), .int .i64 (s.high.2 - q')] 33)).cell? ⟨w.heap.size + 1, 2, none⟩ = some (.int .i64 (s.high.1 - p')) := by go_simp
        have k3 : (((((((w2.setCell ⟨w.heap.size + 1, 0, none⟩ (.int .i64 (s.low.1 - p))).setCell ⟨w.heap.size + 1, 1, none⟩ (.int .i64 (s.low.2 - q))).setCell ⟨w.heap.size + 1, 2, none⟩ (.int .i64 (s.high.1 - p'))).setCell ⟨w.heap.size + 1, 3, none⟩ (.int .i64 (s.high.2 - q'))).alloc (.cells #[.int .i64 p, .int .i64 q] 31)).alloc (.cells #[.int .i64 p', .int .i64 q'] 31)).alloc (.cells #[.int .i64 (s.low.1 - p), .int .i64 (s.low.2 - q), .int .i64 (s.high.1 - p'), .int .i64 (s.high.2 - q')] 33)).cell? ⟨w.heap.size + 1, 3, none⟩ = some (.int .i64 (s.high.2 - q')) := by go_simp
        have KK := Lib.hid (And.intro k0 (And.intro k1 (And.intro k2 k3)))
        clear k0 k1 k2 k3
        go_wp2
        obtain ⟨k0, k1, k2, k3⟩ := KK.out
        refine bodyPost_ret (v := .tuple #[.agg #[.int .i64 (s.low.1 - p), .int .i64 (s.low.2 - q), .int .i64 (s.high.1 - p'), .int .i64 (s.high.2 - q')], .bool true]) (by simp [results, Try.results15, go_sem, k0, k1, k2, k3]) rfl ⟨?_, (((((((B2.setCell (by simp) _).setCell (by simp) _).setCell (by simp) _).setCell (by simp) _).alloc (by simp; omega) _).alloc (by simp; omega) _).alloc (by simp; omega) _)⟩
        rw [limVal_yes HY.out (by simp) HBX.out]
      · have hy : limitsOk s n = false := by rw [HOK.out, HBX.out]; simp [boxOpen, ho2]
        have HY := Lib.hid hy
        clear hy
        have u5 : w.heap.size + 1 < w2.heap.size + 1 := by omega
        have u6 : w.heap.size + 1 < w2.heap.size + 1 + 1 := by omega
        have k0 : (((((((w2.setCell ⟨w.heap.size + 1, 0, none⟩ (.int .i64 (0))).setCell ⟨w.heap.size + 1, 1, none⟩ (.int .i64 (0))).setCell ⟨w.heap.size + 1, 2, none⟩ (.int .i64 (0))).setCell ⟨w.heap.size + 1, 3, none⟩ (.int .i64 (0))).alloc (.cells #[.int .i64 p, .int .i64 q] 31)).alloc (.cells #[.int .i64 p', .int .i64 q'] 31)).alloc (.cells #[.int .i64 (s.low.1 - p), .int .i64 (s.low.2 - q), .int .i64 (s.high.1 - p'), .int .i64 (s.high.2 - q')] 33)).cell? ⟨w.heap.size + 1, 0, none⟩ = some (.int .i64 (0)) := by go_simp
        have k1 : (((((((w2.setCell ⟨w.heap.size + 1, 0, none⟩ (.int .i64 (0))).setCell ⟨w.heap.size + 1, 1, none⟩ (.int .i64 (0))).setCell ⟨w.heap.size + 1, 2, none⟩ (.int .i64 (0))).setCell ⟨w.heap.size + 1, 3, none⟩ (.int .i64 (0))).alloc (.cells #[.int .i64 p, .int .i64 q] 31)).alloc (.cells #[.int .i64 p', .int .i64 q'] 31)).alloc (.cells #[.int .i64 (s.low.1 - p), .int .i64 (s.low.2 - q), .int .i64 (s.high.1 - p'), .int .i64 (s.high.2 - q')] 33)).cell? ⟨w.heap.size + 1, 1, none⟩ = some (.int .i64 (0)) := by go_simp
        have k2 : (((((((w2.setCell ⟨w.heap.size + 1, 0, none⟩ (.int .i64 (0))).setCell ⟨w.heap.size + 1, 1, none⟩ (.int .i64 (0))).setCell ⟨w.heap.size + 1, 2, none⟩ (.int .i64 (0))).setCell ⟨w.heap.size + 1, 3, none⟩ (.int .i64 (0))).alloc (.cells #[.int .i64 p, .int .i64 q] 31)).alloc (.cells #[.int .i64 p', .int .i64 q'] 31)).alloc (.cells #[.int .i64 (s.low.1 - p), .int .i64 (s.low.2 - q), .int .i64 (s.high.1 - p'), .int .i64 (s.high.2 - q')] 33)).cell? ⟨w.heap.size + 1, 2, none⟩ = some (.int .i64 (0)) := by go_simp
        have k3 : (((((((w2.setCell ⟨w.heap.size + 1, 0, none⟩ (.int .i64 (0))).setCell ⟨w.heap.size + 1, 1, none⟩ (.int .i64 (0))).setCell ⟨w.heap.size + 1, 2, none⟩ (.int .i64 (0))).setCell ⟨w.heap.size + 1, 3, none⟩ (.int .i64 (0))).alloc (.cells #[.int .i64 p, .int .i64 q] 31)).alloc (.cells #[.int .i64 p', .int .i64 q'] 31)).alloc (.cells #[.int .i64 (s.low.1 - p), .int .i64 (s.low.2 - q), .int .i64 (s.high.1 - p'), .int .i64 (s.high.2 - q')] 33)).cell? ⟨w.heap.size + 1, 3, none⟩ = some (.int .i64 (0)) := by go_simp
        have KK := Lib.hid (And.intro k0 (And.intro k1 (And.intro k2 k3)))
        clear k0 k1 k2 k3
        go_wp2
        obtain ⟨k0, k1, k2, k3⟩ := KK.out
        refine bodyPost_ret (v := .tuple #[.agg #[.int .i64 (0), .int .i64 (0), .int .i64 (0), .int .i64 (0)], .bool false]) (by simp [results, Try.results15, go_sem, k0, k1, k2, k3]) rfl ⟨?_, (((((((B2.setCell (by simp) _).setCell (by simp) _).setCell (by simp) _).setCell (by simp) _).alloc (by simp; omega) _).alloc (by simp; omega) _).alloc (by simp; omega) _)⟩
        rw [limVal_no HY.out]
    · have hy : limitsOk s n = false := by rw [HOK.out, HBX.out]; simp [boxOpen, ho1]
      have HY := Lib.hid hy
      clear hy
      have u5 : w.heap.size + 1 < w2.heap.size + 1 := by omega
      have u6 : w.heap.size + 1 < w2.heap.size + 1 + 1 := by omega
      have k0 : (((((((w2.setCell ⟨w.heap.size + 1, 0, none⟩ (.int .i64 (0))).setCell ⟨w.heap.size + 1, 1, none⟩ (.int .i64 (0))).setCell ⟨w.heap.size + 1, 2, none⟩ (.int .i64 (0))).setCell ⟨w.heap.size + 1, 3, none⟩ (.int .i64 (0))).alloc (.cells #[.int .i64 p, .int .i64 q] 31)).alloc (.cells #[.int .i64 p', .int .i64 q'] 31)).alloc (.cells #[.int .i64 (s.low.1 - p), .int .i64 (s.low.2 - q), .int .i64 (s.high.1 - p'), .int .i64 (s.high.2 - q')] 33)).cell? ⟨w.heap.size + 1, 0, none⟩ = some (.int .i64 (0)) := by go_simp
      have k1 : (((((((w2.setCell ⟨w.heap.size + 1, 0, none⟩ (.int .i64 (0))).setCell ⟨w.heap.size + 1, 1, none⟩ (.int .i64 (0))).setCell ⟨w.heap.size + 1, 2, none⟩ (.int .i64 (0))).setCell ⟨w.heap.size + 1, 3, none⟩ (.int .i64 (0))).alloc (.cells #[.int .i64 p, .int .i64 q] 31)).alloc (.cells #[.int .i64 p', .int .i64 q'] 31)).alloc (.cells #[.int .i64 (s.low.1 - p), .int .i64 (s.low.2 - q), .int .i64 (s.high.1 - p'), .int .i64 (s.high.2 - q')] 33)).cell? ⟨w.heap.size + 1, 1, none⟩ = some (.int .i64 (0)) := by go_simp
      have k2 : (((((((w2.setCell ⟨w.heap.size + 1, 0, none⟩ (.int .i64 (0))).setCell ⟨w.heap.size + 1, 1, none⟩ (.int .i64 (0))).setCell ⟨w.heap.size + 1, 2, none⟩ (.int .i64 (0))).setCell ⟨w.heap.size + 1, 3, none⟩ (.int .i64 (0))).alloc (.cells #[.int .i64 p, .int .i64 q] 31)).alloc (.cells #[.int .i64 p', .int .i64 q'] 31)).alloc (.cells #[.int .i64 (s.low.1 - p), .int .i64 (s.low.2 - q), .int .i64 (s.high.1 - p'), .int .i64 (s.high.2 - q')] 33)).cell? ⟨w.heap.size + 1, 2, none⟩ = some (.int .i64 (0)) := by go_simp
      have k3 : (((((((w2.setCell ⟨w.heap.size + 1, 0, none⟩ (.int .i64 (0))).setCell ⟨w.heap.size + 1, 1, none⟩ (.int .i64 (0))).setCell ⟨w.heap.size + 1, 2, none⟩ (.int .i64 (0))).setCell ⟨w.heap.size + 1, 3, none⟩ (.int .i64 (0))).alloc (.cells #[.int .i64 p, .int .i64 q] 31)).alloc (.cells #[.int .i64 p', .int .i64 q'] 31)).alloc (.cells #[.int .i64 (s.low.1 - p), .int .i64 (s.low.2 - q), .int .i64 (s.high.1 - p'), .int .i64 (s.high.2 - q')] 33)).cell? ⟨w.heap.size + 1, 3, none⟩ = some (.int .i64 (0)) := by go_simp
      have KK := Lib.hid (And.intro k0 (And.intro k1 (And.intro k2 k3)))
      clear k0 k1 k2 k3
      go_wp2
      obtain ⟨k0, k1, k2, k3⟩ := KK.out
      refine bodyPost_ret (v := .tuple #[.agg #[.int .i64 (0), .int .i64 (0), .int .i64 (0), .int .i64 (0)], .bool false]) (by simp [results, Try.results15, go_sem, k0, k1, k2, k3]) rfl ⟨?_, (((((((B2.setCell (by simp) _).setCell (by simp) _).setCell (by simp) _).setCell (by simp) _).alloc (by simp; omega) _).alloc (by simp; omega) _).alloc (by simp; omega) _)⟩
      rw [limVal_no HY.out]
end Go.Proofs.Ytemgpfojmdncjaa
