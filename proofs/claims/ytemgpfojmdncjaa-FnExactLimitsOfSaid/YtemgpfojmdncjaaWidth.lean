/-
  Contracts of the extent of a polygon.
-/
import Derived.Test.YtemgpfojmdncjaaRobot
import Derived.RegionTactic
import Derived.BigRegion
import Derived.Outline
namespace Go.Proofs.Ytemgpfojmdncjaa
open Go.RowKit

theorem l07Min_c (a b : Int) (w : World) : Calls Try.prog 105 #[.int .i64 a, .int .i64 b] w fun e w' => e = .returned (.int .i64 (min a b)) ∧ w = w' := by
  by_cases h : a < b
  · have e : min a b = a := by omega
    rw [e]; clear e
    go_enter Try.func105, Try.ntmps105
    go_wp2
    go_ret
    exact ⟨rfl, rfl⟩
  · have e : min a b = b := by omega
    rw [e]; clear e
    go_enter Try.func105, Try.ntmps105
    go_wp2
    go_ret
    exact ⟨rfl, rfl⟩
theorem l07Max_c (a b : Int) (w : World) : Calls Try.prog 106 #[.int .i64 a, .int .i64 b] w fun e w' => e = .returned (.int .i64 (max a b)) ∧ w = w' := by
  by_cases h : b < a
  · have e : max a b = a := by omega
    rw [e]; clear e
    go_enter Try.func106, Try.ntmps106
    go_wp2
    go_ret
    exact ⟨rfl, rfl⟩
  · have e : max a b = b := by omega
    rw [e]; clear e
    go_enter Try.func106, Try.ntmps106
    go_wp2
    go_ret
    exact ⟨rfl, rfl⟩

theorem min_if (a b : Int) : min a b = if b < a then b else a := by split <;> omega
theorem max_if (a b : Int) : max a b = if a < b then b else a := by split <;> omega

set_option maxRecDepth 100000 in
set_option maxHeartbeats 2000000 in
theorem widthOf_c (l : List V2) (h0 : 0 < l.length) (v : Value) (w : World) (hv : VecsAt w v l) :
    Calls Try.prog 59 #[v] w fun e w' => e = .returned (.tuple #[.agg #[.int .i64 (lowOf l).1, .int .i64 (lowOf l).2], .agg #[.int .i64 (highOf l).1, .int .i64 (highOf l).2]]) ∧ Below w.heap.size w w' := by
  obtain ⟨a, cap, rfl, hl, hc, hcell⟩ := hv.open
  obtain ⟨b, off, rfl, hbs, c0, c1⟩ := hcell 0 h0
  have HC := Lib.hid hcell; clear hcell hv
  obtain ⟨x, y, hxy⟩ : ∃ x y, l.getD 0 (0, 0) = (x, y) := ⟨_, _, rfl⟩
  rw [hxy] at c0 c1
  simp only [Nat.zero_mul, Nat.add_zero] at c0 c1
  have HX := Lib.hid hxy; clear hxy
  have n1 : b < w.heap.size + 1 := by omega
  have n2 : b < w.heap.size + 1 + 1 := by omega
  have n3 : b < w.heap.size + 1 + 1 + 1 := by omega
  have n4 : b < w.heap.size + 1 + 1 + 1 + 1 := by omega
  go_enter Try.func59, Try.ntmps59
  go_wp2
  go_region
  · go_wp2
    have hW : Below w.heap.size w (((((w.alloc (.cells #[.int .i64 0, .int .i64 0] 31)).alloc (.cells #[.int .i64 0, .int .i64 0] 31)).alloc (.cells #[.int .i64 x, .int .i64 y] 31)).alloc (.cells #[.int .i64 x, .int .i64 y] 31)).drew) := (by repeat (first | exact Below.refl _ _ | assumption | refine Below.drew ?_ | refine Below.setCell ?_ (by first | (simp; done) | (simp; omega) | omega) _ | refine Below.alloc ?_ (by first | (simp; done) | (simp; omega) | omega) _))
    have a0 : BoxAt (((((w.alloc (.cells #[.int .i64 0, .int .i64 0] 31)).alloc (.cells #[.int .i64 0, .int .i64 0] 31)).alloc (.cells #[.int .i64 x, .int .i64 y] 31)).alloc (.cells #[.int .i64 x, .int .i64 y] 31)).drew) (w.heap.size + 1 + 1) (x, y) := ⟨by go_simp, by go_simp, by go_simp, by go_simp⟩
    have a1 : BoxAt (((((w.alloc (.cells #[.int .i64 0, .int .i64 0] 31)).alloc (.cells #[.int .i64 0, .int .i64 0] 31)).alloc (.cells #[.int .i64 x, .int .i64 y] 31)).alloc (.cells #[.int .i64 x, .int .i64 y] 31)).drew) (w.heap.size + 1 + 1 + 1) (x, y) := ⟨by go_simp, by go_simp, by go_simp, by go_simp⟩
    have a2 : BoxAt (((((w.alloc (.cells #[.int .i64 0, .int .i64 0] 31)).alloc (.cells #[.int .i64 0, .int .i64 0] 31)).alloc (.cells #[.int .i64 x, .int .i64 y] 31)).alloc (.cells #[.int .i64 x, .int .i64 y] 31)).drew) (w.heap.size) (0, 0) := ⟨by go_simp, by go_simp, by go_simp, by go_simp⟩
    have a3 : BoxAt (((((w.alloc (.cells #[.int .i64 0, .int .i64 0] 31)).alloc (.cells #[.int .i64 0, .int .i64 0] 31)).alloc (.cells #[.int .i64 x, .int .i64 y] 31)).alloc (.cells #[.int .i64 x, .int .i64 y] 31)).drew) (w.heap.size + 1) (0, 0) := ⟨by go_simp, by go_simp, by go_simp, by go_simp⟩
    have hsz : w.heap.size + 1 + 1 + 1 < ((((((w.alloc (.cells #[.int .i64 0, .int .i64 0] 31)).alloc (.cells #[.int .i64 0, .int .i64 0] 31)).alloc (.cells #[.int .i64 x, .int .i64 y] 31)).alloc (.cells #[.int .i64 x, .int .i64 y] 31)).drew)).heap.size := by simp
    have HI := Lib.hid (And.intro hW (And.intro a0 (And.intro a1 (And.intro a2 (And.intro a3 hsz)))))
    clear hW a0 a1 a2 a3 hsz c0 c1
    go_loopw [16] (fun i wr => ∃ k : Nat, k ≤ l.length ∧ i = .int .i64 k ∧ Below w.heap.size w wr ∧ BoxAt wr (w.heap.size + 1 + 1) ((l.take k).foldl minV (x, y)) ∧ BoxAt wr (w.heap.size + 1 + 1 + 1) ((l.take k).foldl maxV (x, y)) ∧ BoxAt wr (w.heap.size) (0, 0) ∧ BoxAt wr (w.heap.size + 1) (0, 0) ∧ w.heap.size + 1 + 1 + 1 < wr.heap.size) (fun i _ => l.length - (intOf i).toNat)
    case atStart => exact ⟨0, Nat.zero_le _, rfl, by simpa using HI.out⟩
    case round =>
      clear HI
      obtain ⟨k, hk, rfl, hb, hLo, hHi, ⟨r0, r1, r2, r3⟩, ⟨s0, s1, s2, s3⟩, hs⟩ := hrel
      simp only at r0 r1 s0 s1
      have q0 : w.heap.size < wr.heap.size := by omega
      have q1 : w.heap.size + 1 < wr.heap.size := by omega
      have q2 : w.heap.size + 1 + 1 < wr.heap.size := by omega
      by_cases hlt : k < l.length
      · obtain ⟨b2, off2, he, _, c0, c1⟩ := HC.out k hlt
        obtain ⟨rfl, rfl⟩ : b2 = b ∧ off2 = off := by simpa [eq_comm] using he
        clear he
        have d0 := (hb.cell (p := ⟨b2, off2 + k * 2, none⟩) hbs).trans c0
        have d1 := (hb.cell (p := ⟨b2, off2 + k * 2 + 1, none⟩) hbs).trans c1
        have e1 := foldl_take_snoc minV (x, y) l (0, 0) k hlt
        have e2 := foldl_take_snoc maxV (x, y) l (0, 0) k hlt
        obtain ⟨u, v, hxy⟩ : ∃ x y, l.getD k (0, 0) = (x, y) := ⟨_, _, rfl⟩
        rw [hxy] at d0 d1 e1 e2
        simp only at d0 d1
        obtain ⟨lx, ly, hlo⟩ : ∃ a b, (l.take k).foldl minV (x, y) = (a, b) := ⟨_, _, rfl⟩
        obtain ⟨hx, hy, hhi⟩ : ∃ a b, (l.take k).foldl maxV (x, y) = (a, b) := ⟨_, _, rfl⟩
        rw [hlo] at hLo e1
        rw [hhi] at hHi e2
        obtain ⟨l0, l1, l2, l3⟩ := hLo
        obtain ⟨h0', h1', h2', h3'⟩ := hHi
        simp only at l0 l1 h0' h1'
        have E1 := Lib.hid e1
        have E2 := Lib.hid e2
        have HB := Lib.hid hb
        have T9 := hb.size
        have hz : b2 < wr.heap.size := by omega
        clear e1 e2 hxy hlo hhi c0 c1 hb
        go_wp2
        go_roundw
        case rel =>
          refine ⟨k + 1, by omega, by go_num, ?_, ?_, ?_, ?_, ?_, ?_⟩
          · exact ((((HB.out.setCell (by simp; omega) _).setCell (by simp; omega) _).setCell (by simp; omega) _).setCell (by simp; omega) _).alloc (by simp; omega) _
          · rw [E1.out]
            simp only [minV, min_if]
            exact ⟨by go_simp, by go_simp, by go_simp, by go_simp⟩
          · rw [E2.out]
            simp only [maxV, max_if]
            exact ⟨by go_simp, by go_simp, by go_simp, by go_simp⟩
          · exact ⟨by go_simp, by go_simp, by go_simp, by go_simp⟩
          · exact ⟨by go_simp, by go_simp, by go_simp, by go_simp⟩
          · simp; omega
        case measure => simp [intOf]; omega
      · have hke : k = l.length := by omega
        have e1 : (l.take k).foldl minV (x, y) = lowOf l := by rw [hke, List.take_length, lowOf, HX.out]
        have e2 : (l.take k).foldl maxV (x, y) = highOf l := by rw [hke, List.take_length, highOf, HX.out]
        rw [e1] at hLo
        rw [e2] at hHi
        obtain ⟨lx, ly, hlo⟩ : ∃ a b, lowOf l = (a, b) := ⟨_, _, rfl⟩
        obtain ⟨hx, hy, hhi⟩ : ∃ a b, highOf l = (a, b) := ⟨_, _, rfl⟩
        rw [hlo] at hLo
        rw [hhi] at hHi
        obtain ⟨l0, l1, l2, l3⟩ := hLo
        obtain ⟨h0', h1', h2', h3'⟩ := hHi
        simp only at l0 l1 h0' h1'
        have HE := Lib.hid (And.intro hlo hhi)
        have HB := Lib.hid hb
        clear e1 e2 hlo hhi hke hb
        go_wp2
        go_region
        all_goals
          have k0 : (((((wr.setCell ⟨w.heap.size, 0, none⟩ (.int .i64 lx)).setCell ⟨w.heap.size, 1, none⟩ (.int .i64 ly)).setCell ⟨w.heap.size + 1, 0, none⟩ (.int .i64 hx)).setCell ⟨w.heap.size + 1, 1, none⟩ (.int .i64 hy)).drew).cell? ⟨w.heap.size, 0, none⟩ = some (.int .i64 lx) := by go_simp
          have k1 : (((((wr.setCell ⟨w.heap.size, 0, none⟩ (.int .i64 lx)).setCell ⟨w.heap.size, 1, none⟩ (.int .i64 ly)).setCell ⟨w.heap.size + 1, 0, none⟩ (.int .i64 hx)).setCell ⟨w.heap.size + 1, 1, none⟩ (.int .i64 hy)).drew).cell? ⟨w.heap.size, 1, none⟩ = some (.int .i64 ly) := by go_simp
          have k2 : (((((wr.setCell ⟨w.heap.size, 0, none⟩ (.int .i64 lx)).setCell ⟨w.heap.size, 1, none⟩ (.int .i64 ly)).setCell ⟨w.heap.size + 1, 0, none⟩ (.int .i64 hx)).setCell ⟨w.heap.size + 1, 1, none⟩ (.int .i64 hy)).drew).cell? ⟨w.heap.size + 1, 0, none⟩ = some (.int .i64 hx) := by go_simp
          have k3 : (((((wr.setCell ⟨w.heap.size, 0, none⟩ (.int .i64 lx)).setCell ⟨w.heap.size, 1, none⟩ (.int .i64 ly)).setCell ⟨w.heap.size + 1, 0, none⟩ (.int .i64 hx)).setCell ⟨w.heap.size + 1, 1, none⟩ (.int .i64 hy)).drew).cell? ⟨w.heap.size + 1, 1, none⟩ = some (.int .i64 hy) := by go_simp
          go_wp2
          refine bodyPost_ret (v := .tuple #[.agg #[.int .i64 lx, .int .i64 ly], .agg #[.int .i64 hx, .int .i64 hy]]) (by simp [results, Try.results59, go_sem, k0, k1, k2, k3]) rfl ⟨?_, ?_⟩
          · rw [HE.out.1, HE.out.2]
          · exact ((((HB.out.setCell (by simp) _).setCell (by simp) _).setCell (by simp) _).setCell (by simp) _).drew
  · go_wp2
    have hW : Below w.heap.size w (((((w.alloc (.cells #[.int .i64 0, .int .i64 0] 31)).alloc (.cells #[.int .i64 0, .int .i64 0] 31)).alloc (.cells #[.int .i64 x, .int .i64 y] 31)).alloc (.cells #[.int .i64 x, .int .i64 y] 31)).drew) := (by repeat (first | exact Below.refl _ _ | assumption | refine Below.drew ?_ | refine Below.setCell ?_ (by first | (simp; done) | (simp; omega) | omega) _ | refine Below.alloc ?_ (by first | (simp; done) | (simp; omega) | omega) _))
    have a0 : BoxAt (((((w.alloc (.cells #[.int .i64 0, .int .i64 0] 31)).alloc (.cells #[.int .i64 0, .int .i64 0] 31)).alloc (.cells #[.int .i64 x, .int .i64 y] 31)).alloc (.cells #[.int .i64 x, .int .i64 y] 31)).drew) (w.heap.size + 1 + 1 + 1) (x, y) := ⟨by go_simp, by go_simp, by go_simp, by go_simp⟩
    have a1 : BoxAt (((((w.alloc (.cells #[.int .i64 0, .int .i64 0] 31)).alloc (.cells #[.int .i64 0, .int .i64 0] 31)).alloc (.cells #[.int .i64 x, .int .i64 y] 31)).alloc (.cells #[.int .i64 x, .int .i64 y] 31)).drew) (w.heap.size + 1 + 1) (x, y) := ⟨by go_simp, by go_simp, by go_simp, by go_simp⟩
    have a2 : BoxAt (((((w.alloc (.cells #[.int .i64 0, .int .i64 0] 31)).alloc (.cells #[.int .i64 0, .int .i64 0] 31)).alloc (.cells #[.int .i64 x, .int .i64 y] 31)).alloc (.cells #[.int .i64 x, .int .i64 y] 31)).drew) (w.heap.size) (0, 0) := ⟨by go_simp, by go_simp, by go_simp, by go_simp⟩
    have a3 : BoxAt (((((w.alloc (.cells #[.int .i64 0, .int .i64 0] 31)).alloc (.cells #[.int .i64 0, .int .i64 0] 31)).alloc (.cells #[.int .i64 x, .int .i64 y] 31)).alloc (.cells #[.int .i64 x, .int .i64 y] 31)).drew) (w.heap.size + 1) (0, 0) := ⟨by go_simp, by go_simp, by go_simp, by go_simp⟩
    have hsz : w.heap.size + 1 + 1 + 1 < ((((((w.alloc (.cells #[.int .i64 0, .int .i64 0] 31)).alloc (.cells #[.int .i64 0, .int .i64 0] 31)).alloc (.cells #[.int .i64 x, .int .i64 y] 31)).alloc (.cells #[.int .i64 x, .int .i64 y] 31)).drew)).heap.size := by simp
    have HI := Lib.hid (And.intro hW (And.intro a0 (And.intro a1 (And.intro a2 (And.intro a3 hsz)))))
    clear hW a0 a1 a2 a3 hsz c0 c1
    go_loopw [16] (fun i wr => ∃ k : Nat, k ≤ l.length ∧ i = .int .i64 k ∧ Below w.heap.size w wr ∧ BoxAt wr (w.heap.size + 1 + 1 + 1) ((l.take k).foldl minV (x, y)) ∧ BoxAt wr (w.heap.size + 1 + 1) ((l.take k).foldl maxV (x, y)) ∧ BoxAt wr (w.heap.size) (0, 0) ∧ BoxAt wr (w.heap.size + 1) (0, 0) ∧ w.heap.size + 1 + 1 + 1 < wr.heap.size) (fun i _ => l.length - (intOf i).toNat)
    case atStart => exact ⟨0, Nat.zero_le _, rfl, by simpa using HI.out⟩
    case round =>
      clear HI
      obtain ⟨k, hk, rfl, hb, hLo, hHi, ⟨r0, r1, r2, r3⟩, ⟨s0, s1, s2, s3⟩, hs⟩ := hrel
      simp only at r0 r1 s0 s1
      have q0 : w.heap.size < wr.heap.size := by omega
      have q1 : w.heap.size + 1 < wr.heap.size := by omega
      have q2 : w.heap.size + 1 + 1 < wr.heap.size := by omega
      by_cases hlt : k < l.length
      · obtain ⟨b2, off2, he, _, c0, c1⟩ := HC.out k hlt
        obtain ⟨rfl, rfl⟩ : b2 = b ∧ off2 = off := by simpa [eq_comm] using he
        clear he
        have d0 := (hb.cell (p := ⟨b2, off2 + k * 2, none⟩) hbs).trans c0
        have d1 := (hb.cell (p := ⟨b2, off2 + k * 2 + 1, none⟩) hbs).trans c1
        have e1 := foldl_take_snoc minV (x, y) l (0, 0) k hlt
        have e2 := foldl_take_snoc maxV (x, y) l (0, 0) k hlt
        obtain ⟨u, v, hxy⟩ : ∃ x y, l.getD k (0, 0) = (x, y) := ⟨_, _, rfl⟩
        rw [hxy] at d0 d1 e1 e2
        simp only at d0 d1
        obtain ⟨lx, ly, hlo⟩ : ∃ a b, (l.take k).foldl minV (x, y) = (a, b) := ⟨_, _, rfl⟩
        obtain ⟨hx, hy, hhi⟩ : ∃ a b, (l.take k).foldl maxV (x, y) = (a, b) := ⟨_, _, rfl⟩
        rw [hlo] at hLo e1
        rw [hhi] at hHi e2
        obtain ⟨l0, l1, l2, l3⟩ := hLo
        obtain ⟨h0', h1', h2', h3'⟩ := hHi
        simp only at l0 l1 h0' h1'
        have E1 := Lib.hid e1
        have E2 := Lib.hid e2
        have HB := Lib.hid hb
        have T9 := hb.size
        have hz : b2 < wr.heap.size := by omega
        clear e1 e2 hxy hlo hhi c0 c1 hb
        go_wp2
        go_roundw
        case rel =>
          refine ⟨k + 1, by omega, by go_num, ?_, ?_, ?_, ?_, ?_, ?_⟩
          · exact ((((HB.out.setCell (by simp; omega) _).setCell (by simp; omega) _).setCell (by simp; omega) _).setCell (by simp; omega) _).alloc (by simp; omega) _
          · rw [E1.out]
            simp only [minV, min_if]
            exact ⟨by go_simp, by go_simp, by go_simp, by go_simp⟩
          · rw [E2.out]
            simp only [maxV, max_if]
            exact ⟨by go_simp, by go_simp, by go_simp, by go_simp⟩
          · exact ⟨by go_simp, by go_simp, by go_simp, by go_simp⟩
          · exact ⟨by go_simp, by go_simp, by go_simp, by go_simp⟩
          · simp; omega
        case measure => simp [intOf]; omega
      · have hke : k = l.length := by omega
        have e1 : (l.take k).foldl minV (x, y) = lowOf l := by rw [hke, List.take_length, lowOf, HX.out]
        have e2 : (l.take k).foldl maxV (x, y) = highOf l := by rw [hke, List.take_length, highOf, HX.out]
        rw [e1] at hLo
        rw [e2] at hHi
        obtain ⟨lx, ly, hlo⟩ : ∃ a b, lowOf l = (a, b) := ⟨_, _, rfl⟩
        obtain ⟨hx, hy, hhi⟩ : ∃ a b, highOf l = (a, b) := ⟨_, _, rfl⟩
        rw [hlo] at hLo
        rw [hhi] at hHi
        obtain ⟨l0, l1, l2, l3⟩ := hLo
        obtain ⟨h0', h1', h2', h3'⟩ := hHi
        simp only at l0 l1 h0' h1'
        have HE := Lib.hid (And.intro hlo hhi)
        have HB := Lib.hid hb
        clear e1 e2 hlo hhi hke hb
        go_wp2
        go_region
        all_goals
          have k0 : (((((wr.setCell ⟨w.heap.size, 0, none⟩ (.int .i64 lx)).setCell ⟨w.heap.size, 1, none⟩ (.int .i64 ly)).setCell ⟨w.heap.size + 1, 0, none⟩ (.int .i64 hx)).setCell ⟨w.heap.size + 1, 1, none⟩ (.int .i64 hy)).drew).cell? ⟨w.heap.size, 0, none⟩ = some (.int .i64 lx) := by go_simp
          have k1 : (((((wr.setCell ⟨w.heap.size, 0, none⟩ (.int .i64 lx)).setCell ⟨w.heap.size, 1, none⟩ (.int .i64 ly)).setCell ⟨w.heap.size + 1, 0, none⟩ (.int .i64 hx)).setCell ⟨w.heap.size + 1, 1, none⟩ (.int .i64 hy)).drew).cell? ⟨w.heap.size, 1, none⟩ = some (.int .i64 ly) := by go_simp
          have k2 : (((((wr.setCell ⟨w.heap.size, 0, none⟩ (.int .i64 lx)).setCell ⟨w.heap.size, 1, none⟩ (.int .i64 ly)).setCell ⟨w.heap.size + 1, 0, none⟩ (.int .i64 hx)).setCell ⟨w.heap.size + 1, 1, none⟩ (.int .i64 hy)).drew).cell? ⟨w.heap.size + 1, 0, none⟩ = some (.int .i64 hx) := by go_simp
          have k3 : (((((wr.setCell ⟨w.heap.size, 0, none⟩ (.int .i64 lx)).setCell ⟨w.heap.size, 1, none⟩ (.int .i64 ly)).setCell ⟨w.heap.size + 1, 0, none⟩ (.int .i64 hx)).setCell ⟨w.heap.size + 1, 1, none⟩ (.int .i64 hy)).drew).cell? ⟨w.heap.size + 1, 1, none⟩ = some (.int .i64 hy) := by go_simp
          go_wp2
          refine bodyPost_ret (v := .tuple #[.agg #[.int .i64 lx, .int .i64 ly], .agg #[.int .i64 hx, .int .i64 hy]]) (by simp [results, Try.results59, go_sem, k0, k1, k2, k3]) rfl ⟨?_, ?_⟩
          · rw [HE.out.1, HE.out.2]
          · exact ((((HB.out.setCell (by simp) _).setCell (by simp) _).setCell (by simp) _).setCell (by simp) _).drew

theorem WidthOf_no (l : List V2) (hp : isPoly l = false) (v : Value) (w : World) (hv : VecsAt w v l) :
    Calls Try.prog 55 #[v] w fun e w' => e = .returned (.tuple #[.agg #[.int .i64 0, .int .i64 0], .agg #[.int .i64 0, .int .i64 0], .bool false]) ∧ Below w.heap.size w w' := by
  have HV := Lib.hid hv
  obtain ⟨a, cap, rfl, hl, hc, _⟩ := hv.open
  clear hv
  go_enter Try.func55, Try.ntmps55
  go_wp2_with fail
  refine (sIsPolygon_c l _ _ (HV.out.below (((Below.refl _ _).alloc (Nat.le_refl _) _).alloc (by simp) _))).mono ?_
  rintro e w1 ⟨rfl, h1⟩
  have B1 : Below w.heap.size w w1 := Below.trans (by repeat (first | exact Below.refl _ _ | assumption | refine Below.drew ?_ | refine Below.setCell ?_ (by first | (simp; done) | (simp; omega) | omega) _ | refine Below.alloc ?_ (by first | (simp; done) | (simp; omega) | omega) _)) (h1.mono (by first | (simp; done) | (simp; omega) | omega))
  have S1 := h1.size
  have T1 := B1.size
  try simp at S1
  obtain ⟨k1, f1⟩ := bcell h1
  try simp at k1
  try simp at f1
  have Hc1 := Lib.hid h1
  clear h1
  have u1_0 : w.heap.size < w1.heap.size := by omega
  have u1_1 : w.heap.size + 1 < w1.heap.size := by omega
  have hr0 : w1.cell? ⟨w.heap.size, 0, none⟩ = some (.int .i64 0) := by go_simp
  have hr1 : w1.cell? ⟨w.heap.size, 1, none⟩ = some (.int .i64 0) := by go_simp
  have hr2 : w1.cell? ⟨w.heap.size + 1, 0, none⟩ = some (.int .i64 0) := by go_simp
  have hr3 : w1.cell? ⟨w.heap.size + 1, 1, none⟩ = some (.int .i64 0) := by go_simp
  have hf0 : w1.frozen? ⟨w.heap.size, 0, none⟩ = false := by go_simp
  have hf1 : w1.frozen? ⟨w.heap.size, 1, none⟩ = false := by go_simp
  have hf2 : w1.frozen? ⟨w.heap.size + 1, 0, none⟩ = false := by go_simp
  have hf3 : w1.frozen? ⟨w.heap.size + 1, 1, none⟩ = false := by go_simp
  clear k1 f1
  have k0 : ((((w1.setCell ⟨w.heap.size, 0, none⟩ (.int .i64 0)).setCell ⟨w.heap.size, 1, none⟩ (.int .i64 0)).setCell ⟨w.heap.size + 1, 0, none⟩ (.int .i64 0)).setCell ⟨w.heap.size + 1, 1, none⟩ (.int .i64 0)).cell? ⟨w.heap.size, 0, none⟩ = some (.int .i64 0) := by go_simp
  have k1' : ((((w1.setCell ⟨w.heap.size, 0, none⟩ (.int .i64 0)).setCell ⟨w.heap.size, 1, none⟩ (.int .i64 0)).setCell ⟨w.heap.size + 1, 0, none⟩ (.int .i64 0)).setCell ⟨w.heap.size + 1, 1, none⟩ (.int .i64 0)).cell? ⟨w.heap.size, 1, none⟩ = some (.int .i64 0) := by go_simp
  have k2 : ((((w1.setCell ⟨w.heap.size, 0, none⟩ (.int .i64 0)).setCell ⟨w.heap.size, 1, none⟩ (.int .i64 0)).setCell ⟨w.heap.size + 1, 0, none⟩ (.int .i64 0)).setCell ⟨w.heap.size + 1, 1, none⟩ (.int .i64 0)).cell? ⟨w.heap.size + 1, 0, none⟩ = some (.int .i64 0) := by go_simp
  have k3 : ((((w1.setCell ⟨w.heap.size, 0, none⟩ (.int .i64 0)).setCell ⟨w.heap.size, 1, none⟩ (.int .i64 0)).setCell ⟨w.heap.size + 1, 0, none⟩ (.int .i64 0)).setCell ⟨w.heap.size + 1, 1, none⟩ (.int .i64 0)).cell? ⟨w.heap.size + 1, 1, none⟩ = some (.int .i64 0) := by go_simp
  have K := Lib.hid (And.intro k0 (And.intro k1' (And.intro k2 k3)))
  clear k0 k1' k2 k3
  go_wp2
  obtain ⟨k0, k1', k2, k3⟩ := K.out
  exact bodyPost_ret (v := .tuple #[.agg #[.int .i64 0, .int .i64 0], .agg #[.int .i64 0, .int .i64 0], .bool false]) (by simp [results, Try.results55, go_sem, k0, k1', k2, k3]) rfl ⟨rfl, (((B1.setCell (by simp) _).setCell (by simp) _).setCell (by simp) _).setCell (by simp) _⟩

set_option maxRecDepth 100000 in
set_option maxHeartbeats 2000000 in
theorem WidthOf_yes (l : List V2) (hp : isPoly l = true) (v : Value) (w : World) (hv : VecsAt w v l) :
    Calls Try.prog 55 #[v] w fun e w' => e = .returned (.tuple #[.agg #[.int .i64 (lowOf l).1, .int .i64 (lowOf l).2], .agg #[.int .i64 (highOf l).1, .int .i64 (highOf l).2], .bool true]) ∧ Below w.heap.size w w' := by
  have HV := Lib.hid hv
  have h0 : 0 < l.length := by have := (isPoly_vecs hp).1; omega
  obtain ⟨a, cap, rfl, hl, hc, hcell⟩ := hv.open
  obtain ⟨b, off, rfl, hbs, c0, c1⟩ := hcell 0 h0
  have HC := Lib.hid hcell; clear hcell hv
  obtain ⟨x, y, hxy⟩ : ∃ x y, l.getD 0 (0, 0) = (x, y) := ⟨_, _, rfl⟩
  rw [hxy] at c0 c1
  simp only [Nat.zero_mul, Nat.add_zero] at c0 c1
  have HX := Lib.hid hxy; clear hxy
  go_enter Try.func55, Try.ntmps55
  go_wp2_with fail
  refine (sIsPolygon_c l _ _ (HV.out.below (((Below.refl _ _).alloc (Nat.le_refl _) _).alloc (by simp) _))).mono ?_
  rintro e w1 ⟨rfl, h1⟩
  have B1 : Below w.heap.size w w1 := Below.trans (by repeat (first | exact Below.refl _ _ | assumption | refine Below.drew ?_ | refine Below.setCell ?_ (by first | (simp; done) | (simp; omega) | omega) _ | refine Below.alloc ?_ (by first | (simp; done) | (simp; omega) | omega) _)) (h1.mono (by first | (simp; done) | (simp; omega) | omega))
  have S1 := h1.size
  have T1 := B1.size
  try simp at S1
  obtain ⟨k1, f1⟩ := bcell h1
  try simp at k1
  try simp at f1
  have Hc1 := Lib.hid h1
  clear h1
  have u1_0 : w.heap.size < w1.heap.size := by omega
  have u1_1 : w.heap.size + 1 < w1.heap.size := by omega
  have d0 := (B1.cell (p := ⟨b, off, none⟩) hbs).trans c0
  have d1 := (B1.cell (p := ⟨b, off + 1, none⟩) hbs).trans c1
  have z0 : b < w1.heap.size := by omega
  have z1 : b < w1.heap.size + 1 := by omega
  have z2 : w.heap.size < w1.heap.size + 1 := by omega
  have z3 : w.heap.size + 1 < w1.heap.size + 1 := by omega
  clear c0 c1
  have hr0 : w1.cell? ⟨w.heap.size, 0, none⟩ = some (.int .i64 0) := by go_simp
  have hr1 : w1.cell? ⟨w.heap.size, 1, none⟩ = some (.int .i64 0) := by go_simp
  have hr2 : w1.cell? ⟨w.heap.size + 1, 0, none⟩ = some (.int .i64 0) := by go_simp
  have hr3 : w1.cell? ⟨w.heap.size + 1, 1, none⟩ = some (.int .i64 0) := by go_simp
  have hf0 : w1.frozen? ⟨w.heap.size, 0, none⟩ = false := by go_simp
  have hf1 : w1.frozen? ⟨w.heap.size, 1, none⟩ = false := by go_simp
  have hf2 : w1.frozen? ⟨w.heap.size + 1, 0, none⟩ = false := by go_simp
  have hf3 : w1.frozen? ⟨w.heap.size + 1, 1, none⟩ = false := by go_simp
  go_wp2
  clear hp
  have hW : Below w.heap.size w ((w1.alloc (.cells #[.int .i64 x, .int .i64 y] 31)).alloc (.cells #[.int .i64 x, .int .i64 y] 31)) := (B1.alloc T1 _).alloc (by simp; omega) _
  have a0 : BoxAt ((w1.alloc (.cells #[.int .i64 x, .int .i64 y] 31)).alloc (.cells #[.int .i64 x, .int .i64 y] 31)) (w1.heap.size) (x, y) := ⟨by go_simp, by go_simp, by go_simp, by go_simp⟩
  have a1 : BoxAt ((w1.alloc (.cells #[.int .i64 x, .int .i64 y] 31)).alloc (.cells #[.int .i64 x, .int .i64 y] 31)) (w1.heap.size + 1) (x, y) := ⟨by go_simp, by go_simp, by go_simp, by go_simp⟩
  have a2 : BoxAt ((w1.alloc (.cells #[.int .i64 x, .int .i64 y] 31)).alloc (.cells #[.int .i64 x, .int .i64 y] 31)) (w.heap.size) (0, 0) := ⟨by go_simp, by go_simp, by go_simp, by go_simp⟩
  have a3 : BoxAt ((w1.alloc (.cells #[.int .i64 x, .int .i64 y] 31)).alloc (.cells #[.int .i64 x, .int .i64 y] 31)) (w.heap.size + 1) (0, 0) := ⟨by go_simp, by go_simp, by go_simp, by go_simp⟩
  have hsz : w1.heap.size + 1 < (((w1.alloc (.cells #[.int .i64 x, .int .i64 y] 31)).alloc (.cells #[.int .i64 x, .int .i64 y] 31))).heap.size := by simp
  have HI := Lib.hid (And.intro hW (And.intro a0 (And.intro a1 (And.intro a2 (And.intro a3 hsz)))))
  clear hW a0 a1 a2 a3 hsz d0 d1 hr0 hr1 hr2 hr3 hf0 hf1 hf2 hf3 k1 f1 B1 z0 z1 z2 z3
  go_loopw [22] (fun i wr => ∃ k : Nat, k ≤ l.length ∧ i = .int .i64 k ∧ Below w.heap.size w wr ∧ BoxAt wr (w1.heap.size) ((l.take k).foldl minV (x, y)) ∧ BoxAt wr (w1.heap.size + 1) ((l.take k).foldl maxV (x, y)) ∧ BoxAt wr (w.heap.size) (0, 0) ∧ BoxAt wr (w.heap.size + 1) (0, 0) ∧ w1.heap.size + 1 < wr.heap.size) (fun i _ => l.length - (intOf i).toNat)
  case atStart => exact ⟨0, Nat.zero_le _, rfl, by simpa using HI.out⟩
  case round =>
    clear HI
    obtain ⟨k, hk, rfl, hb, hLo, hHi, ⟨r0, r1, r2, r3⟩, ⟨s0, s1, s2, s3⟩, hs⟩ := hrel
    simp only at r0 r1 s0 s1
    have q0 : w.heap.size < wr.heap.size := by omega
    have q1 : w.heap.size + 1 < wr.heap.size := by omega
    have q2 : w1.heap.size < wr.heap.size := by omega
    have ne0 : w.heap.size < w1.heap.size := by omega
    have ne1 : w.heap.size + 1 < w1.heap.size := by omega
    have ne2 : w.heap.size < w1.heap.size + 1 := by omega
    have ne3 : w.heap.size + 1 < w1.heap.size + 1 := by omega
    by_cases hlt : k < l.length
    · obtain ⟨b2, off2, he, _, c0, c1⟩ := HC.out k hlt
      obtain ⟨rfl, rfl⟩ : b2 = b ∧ off2 = off := by simpa [eq_comm] using he
      clear he
      have d0 := (hb.cell (p := ⟨b2, off2 + k * 2, none⟩) hbs).trans c0
      have d1 := (hb.cell (p := ⟨b2, off2 + k * 2 + 1, none⟩) hbs).trans c1
      have e1 := foldl_take_snoc minV (x, y) l (0, 0) k hlt
      have e2 := foldl_take_snoc maxV (x, y) l (0, 0) k hlt
      obtain ⟨u, v, hxy⟩ : ∃ x y, l.getD k (0, 0) = (x, y) := ⟨_, _, rfl⟩
      rw [hxy] at d0 d1 e1 e2
      simp only at d0 d1
      obtain ⟨lx, ly, hlo⟩ : ∃ a b, (l.take k).foldl minV (x, y) = (a, b) := ⟨_, _, rfl⟩
      obtain ⟨hx, hy, hhi⟩ : ∃ a b, (l.take k).foldl maxV (x, y) = (a, b) := ⟨_, _, rfl⟩
      rw [hlo] at hLo e1
      rw [hhi] at hHi e2
      obtain ⟨l0, l1, l2, l3⟩ := hLo
      obtain ⟨h0', h1', h2', h3'⟩ := hHi
      simp only at l0 l1 h0' h1'
      have E1 := Lib.hid e1
      have E2 := Lib.hid e2
      have HB := Lib.hid hb
      have T9 := hb.size
      have hz : b2 < wr.heap.size := by omega
      clear e1 e2 hxy hlo hhi c0 c1 hb
      go_wp2_with (first | (go_at_call 105; refine (l07Min_c _ _ _).mono ?_; rintro e w' ⟨rfl, rfl⟩) | (go_at_call 106; refine (l07Max_c _ _ _).mono ?_; rintro e w' ⟨rfl, rfl⟩))
      go_roundw
      case rel =>
        refine ⟨k + 1, by omega, by go_num, ?_, ?_, ?_, ?_, ?_, ?_⟩
        · exact ((((HB.out.setCell (by simp; omega) _).setCell (by simp; omega) _).setCell (by simp; omega) _).setCell (by simp; omega) _).alloc (by simp; omega) _
        · rw [E1.out]
          simp only [minV]
          exact ⟨by go_simp, by go_simp, by go_simp, by go_simp⟩
        · rw [E2.out]
          simp only [maxV]
          exact ⟨by go_simp, by go_simp, by go_simp, by go_simp⟩
        · exact ⟨by go_simp, by go_simp, by go_simp, by go_simp⟩
        · exact ⟨by go_simp, by go_simp, by go_simp, by go_simp⟩
        · simp; omega
      case measure => simp [intOf]; omega
    · have hke : k = l.length := by omega
      have e1 : (l.take k).foldl minV (x, y) = lowOf l := by rw [hke, List.take_length, lowOf, HX.out]
      have e2 : (l.take k).foldl maxV (x, y) = highOf l := by rw [hke, List.take_length, highOf, HX.out]
      rw [e1] at hLo
      rw [e2] at hHi
      obtain ⟨lx, ly, hlo⟩ : ∃ a b, lowOf l = (a, b) := ⟨_, _, rfl⟩
      obtain ⟨hx, hy, hhi⟩ : ∃ a b, highOf l = (a, b) := ⟨_, _, rfl⟩
      rw [hlo] at hLo
      rw [hhi] at hHi
      obtain ⟨l0, l1, l2, l3⟩ := hLo
      obtain ⟨h0', h1', h2', h3'⟩ := hHi
      simp only at l0 l1 h0' h1'
      have HE := Lib.hid (And.intro hlo hhi)
      have HB := Lib.hid hb
      clear e1 e2 hlo hhi hke hb
      go_wp2
      go_region
      all_goals
        have k0 : (((((wr.setCell ⟨w.heap.size, 0, none⟩ (.int .i64 lx)).setCell ⟨w.heap.size, 1, none⟩ (.int .i64 ly)).setCell ⟨w.heap.size + 1, 0, none⟩ (.int .i64 hx)).setCell ⟨w.heap.size + 1, 1, none⟩ (.int .i64 hy)).drew).cell? ⟨w.heap.size, 0, none⟩ = some (.int .i64 lx) := by go_simp
        have k1 : (((((wr.setCell ⟨w.heap.size, 0, none⟩ (.int .i64 lx)).setCell ⟨w.heap.size, 1, none⟩ (.int .i64 ly)).setCell ⟨w.heap.size + 1, 0, none⟩ (.int .i64 hx)).setCell ⟨w.heap.size + 1, 1, none⟩ (.int .i64 hy)).drew).cell? ⟨w.heap.size, 1, none⟩ = some (.int .i64 ly) := by go_simp
        have k2 : (((((wr.setCell ⟨w.heap.size, 0, none⟩ (.int .i64 lx)).setCell ⟨w.heap.size, 1, none⟩ (.int .i64 ly)).setCell ⟨w.heap.size + 1, 0, none⟩ (.int .i64 hx)).setCell ⟨w.heap.size + 1, 1, none⟩ (.int .i64 hy)).drew).cell? ⟨w.heap.size + 1, 0, none⟩ = some (.int .i64 hx) := by go_simp
        have k3 : (((((wr.setCell ⟨w.heap.size, 0, none⟩ (.int .i64 lx)).setCell ⟨w.heap.size, 1, none⟩ (.int .i64 ly)).setCell ⟨w.heap.size + 1, 0, none⟩ (.int .i64 hx)).setCell ⟨w.heap.size + 1, 1, none⟩ (.int .i64 hy)).drew).cell? ⟨w.heap.size + 1, 1, none⟩ = some (.int .i64 hy) := by go_simp
        go_wp2
        refine bodyPost_ret (v := .tuple #[.agg #[.int .i64 lx, .int .i64 ly], .agg #[.int .i64 hx, .int .i64 hy], .bool true]) (by simp [results, Try.results55, go_sem, k0, k1, k2, k3]) rfl ⟨?_, ?_⟩
        · rw [HE.out.1, HE.out.2]
        · exact ((((HB.out.setCell (by simp) _).setCell (by simp) _).setCell (by simp) _).setCell (by simp) _).drew
end Go.Proofs.Ytemgpfojmdncjaa
