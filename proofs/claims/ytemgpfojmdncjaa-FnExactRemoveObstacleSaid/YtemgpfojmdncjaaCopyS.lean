/-
  Contracts of the reference's copies in new memory: areas, scenes.
-/
import Derived.Test.YtemgpfojmdncjaaCopyD
namespace Go.Proofs.Ytemgpfojmdncjaa
open Go.RowKit
attribute [local go_sem ↓] Go.wp_at_zero Go.wp_at_succ

set_option maxRecDepth 100000 in
set_option maxHeartbeats 2000000 in
theorem l10Lists_c (l : List (List V2)) (hlen : l.length ≤ 1048576) (hin : ∀ x ∈ l, x.length ≤ 1048576) (v : Value) (w : World) (hv : VecSSAt w v l) :
    Calls Try.prog 77 #[v] w fun e w' => ∃ v', e = .returned v' ∧ Own w' w.heap.size w'.heap.size [.sl 36 [.sl 31 [.int, .int]]] [.sl (areasD l)] [v'] ∧ Below w.heap.size w w' := by
  obtain ⟨a, cap, rfl, hl, hc, hcell⟩ := hv.open
  have HC := Lib.hid hcell; clear hcell hv
  have HIN := Lib.hid hin; clear hin
  go_enter Try.func77, Try.ntmps77
  go_wp2
  go_loopw [3, 9] (fun o i wr => ∃ j : Nat, j ≤ l.length ∧ i = .int .i64 j ∧ Own wr w.heap.size wr.heap.size [.sl 36 [.sl 31 [.int, .int]]] [.sl (areasD (l.take j))] [o] ∧ Below w.heap.size w wr) (fun _ i _ => l.length - (intOf i).toNat)
  case atStart => exact ⟨0, Nat.zero_le _, rfl, (Own.empty w w.heap.size 36 _ (Nat.le_refl _)).mono (Nat.le_refl _) (by simp), (Below.refl _ _).alloc (Nat.le_refl _) _⟩
  case round =>
    obtain ⟨j, hj, rfl, hown, hb⟩ := hrel
    obtain ⟨oa, oc, rfl⟩ := hown.shape
    by_cases hlt : j < l.length
    · obtain ⟨b, off, u, rfl, hbs, c0, hu⟩ := HC.out j hlt
      have d0 := (hb.cell (p := ⟨b, off + j, none⟩) hbs).trans c0
      have hsn : areasD (l.take (j + 1)) = areasD (l.take j) ++ [[.sl (vecsD (l.getD j []))]] := by
        rw [List.take_succ_eq_append_getElem hlt, areasD_append]; simp [List.getD, hlt, areasD]
      obtain ⟨P, hP⟩ : ∃ P, l.getD j [] = P := ⟨_, rfl⟩
      have hPl : P.length ≤ 1048576 := by
        rw [← hP]
        have := HIN.out l[j] (List.getElem_mem hlt)
        simpa [List.getD, List.getElem?_eq_getElem hlt] using this
      rw [hP] at hu hsn
      have HU := Lib.hid (((hu.below hb).below (w' := wr.alloc (.cells #[] 31)) ((Below.refl _ _).alloc (Nat.le_refl _) _)).rd 31)
      have HS := Lib.hid hsn
      have HO := Lib.hid hown
      have HB := Lib.hid hb
      have T9 := hb.size
      have hal : (areasD (l.take j)).length ≤ 1048576 := by rw [areasD_length]; simp; omega
      have HE := Lib.hid (Own.empty wr wr.heap.size 31 [.int, .int] (Nat.le_refl _))
      obtain ⟨rows, bss, a1, a2, a3, a4, a5⟩ := leaf_rows (by simp [Ty.leaf]) HU.out
      have HR := Lib.hid (And.intro a1 (And.intro a2 (And.intro a3 (And.intro a4 a5))))
      clear hown hP hsn c0 hb hu a1 a2 a3 a4 a5
      go_wp2_with (first
        | (at_builtin; refine wp_appMany elemVec rfl _ _ rfl wr.heap.size (wr.heap.size + 1) (wr.heap.size + 1) [.int, .int] [] _ rfl HE.out (vecsD P) _ rfl rfl rows bss HR.out.1 HR.out.2.1 HR.out.2.2.1 HR.out.2.2.2.1 (by rw [HR.out.2.2.2.2]; simp) (by rw [HR.out.2.2.2.2]; simp) (by omega) (by omega) (by simp) (by rw [vecsD_length]; simp; omega) (by decide) ?_; intro v1 w1 hq hg1 _; rw [List.nil_append] at hq; obtain ⟨qa, qc, rfl⟩ := hq.shape; have hb1 : Below wr.heap.size wr w1 := ((Below.refl wr.heap.size wr).alloc (Nat.le_refl _) (.cells #[] 31)).trans (hg1.below (B := wr.heap.size) (fun b hb => by have q : wr.heap.size = b := (Option.some.inj hb); omega) (by simp)); have T8 := hb1.size; have HQ := Lib.hid (And.intro hq hb1); clear hq hb1 hg1; have A0 : Below w1.heap.size w1 (w1.alloc (.cells #[.slice qa (vecsD P).length qc] 36)) := (Below.refl _ _).alloc (Nat.le_refl _) _; have HA0 := Lib.hid A0; clear A0)
        | (at_builtin; refine wp_appOne elemAreas rfl _ _ rfl w.heap.size wr.heap.size w1.heap.size _ _ _ rfl ((HO.out.below HQ.out.2).below HA0.out) w1.heap.size [.sl (vecsD P)] [.slice qa (vecsD P).length qc] rfl rfl ?c1 (HQ.out.1.below HA0.out) (by omega) (by omega) (by simp) (by omega) (by decide) ?_; rotate_left 1; intro v1 w3 hown3 hg3 _))
      case c1 =>
        intro m hm
        obtain rfl : m = 0 := by omega
        go_simp
      have HN := Lib.hid hown3
      have HB3 := Lib.hid (((HB.out.trans (HQ.out.2.mono T9)).trans (HA0.out.mono (by omega))).trans (hg3.below (B := w.heap.size) (fun b hb => (HO.out.blk hb).1) (by simp; omega)))
      clear hown3 hg3
      go_wp2
      go_roundw
      case rel => exact ⟨j + 1, by omega, by go_num, by rw [HS.out]; exact HN.out, HB3.out⟩
      case measure => simp [intOf]; omega
    · have HF := Lib.hid (And.intro hown hb)
      clear hown hb
      go_wp2
      go_ret
      refine ⟨_, rfl, ?_, HF.out.2⟩
      have h := HF.out.1
      have e : areasD (l.take j) = areasD l := by rw [List.take_of_length_le (by omega)]
      rw [e] at h ⊢
      exact h

/-- A nil slice or an empty one appended to an empty slice of the call's own. -/
theorem vecs_rows {w : World} {v : Value} {l : List V2} (h : VecsAt w v l) : ∃ (rows : List (List Value)) (bss : List (List Nat)), SlAt [Ty.int, Ty.int].length w v rows ∧ rows.length = (vecsD l).length ∧ bss.length = (vecsD l).length ∧ (∀ k, k < (vecsD l).length → FpRow w [.int, .int] ((vecsD l).getD k []) (rows.getD k []) (bss.getD k [])) ∧ bss.flatten = [] :=
  leaf_rows (by simp [Ty.leaf]) (h.rd 0)

end Go.Proofs.Ytemgpfojmdncjaa
