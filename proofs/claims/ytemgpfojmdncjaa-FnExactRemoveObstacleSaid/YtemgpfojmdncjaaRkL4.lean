/-
  Words for ReverseMotion. Over any program.
-/
import Derived.Test.YtemgpfojmdncjaaRkL3
namespace Go.Proofs.Ytemgpfojmdncjaa
set_option linter.unusedVariables false
set_option linter.unusedSimpArgs false
open Go.RowKit

def copyL (l : List (List Dat)) : List (List Dat) := l.map fun r => (plOf r).row
theorem copyL_succ {l : List (List Dat)} {k : Nat} (h : k < l.length) : copyL (l.take k) ++ [(plOf (l.getD k [])).row] = copyL (l.take (k + 1)) := by
  unfold copyL
  rw [take_snoc' l [] k h, List.map_append]
  rfl
def revS (p : PlD) (l : List (List Dat)) (i : Nat) : List (List Dat) :=
  if (plOf (l.getD i [])).h = 0 then [PlD.row ⟨0, (afterL p l i).pt⟩]
  else if (plOf (l.getD i [])).h = 1 ∨ (plOf (l.getD i [])).h = -1 then [PlD.row ⟨-(plOf (l.getD i [])).h, (plOf (l.getD i [])).pt⟩]
  else []
def revL (p : PlD) (l : List (List Dat)) : Nat → List (List Dat)
  | 0 => []
  | k + 1 => revL p l k ++ revS p l (l.length - 1 - k)
theorem revS_mem {p : PlD} {l : List (List Dat)} {i : Nat} {r : List Dat} (h : r ∈ revS p l i) : ∃ x : PlD, r = x.row ∧ (x = ⟨0, (afterL p l i).pt⟩ ∨ x = ⟨-(plOf (l.getD i [])).h, (plOf (l.getD i [])).pt⟩) := by
  unfold revS at h
  split at h
  · simp only [List.mem_singleton] at h; exact ⟨_, h, .inl rfl⟩
  · split at h
    · simp only [List.mem_singleton] at h; exact ⟨_, h, .inr rfl⟩
    · simp at h
theorem revS_len (p : PlD) (l : List (List Dat)) (i : Nat) : (revS p l i).length ≤ 1 := by
  unfold revS
  split
  · simp
  · split <;> simp
theorem revL_len (p : PlD) (l : List (List Dat)) : ∀ k, (revL p l k).length ≤ k
  | 0 => by simp [revL]
  | k + 1 => by
    have := revL_len p l k
    have := revS_len p l (l.length - 1 - k)
    simp only [revL, List.length_append]
    omega
theorem revL_mem {p : PlD} {l : List (List Dat)} : ∀ {k : Nat} {r : List Dat}, k ≤ l.length → r ∈ revL p l k → ∃ i, i < l.length ∧ r ∈ revS p l i
  | 0, r, _, h => by simp [revL] at h
  | k + 1, r, hk, h => by
    simp only [revL, List.mem_append] at h
    rcases h with h | h
    · exact revL_mem (by omega) h
    · exact ⟨_, by omega, h⟩
theorem copyL_revL {p : PlD} {l : List (List Dat)} {k : Nat} (hk : k ≤ l.length) : copyL (revL p l k) = revL p l k := by
  unfold copyL
  conv => rhs; rw [← List.map_id (revL p l k)]
  refine List.map_congr_left fun r hr => ?_
  obtain ⟨i, hi, hr⟩ := revL_mem hk hr
  obtain ⟨x, rfl, _⟩ := revS_mem hr
  rfl
theorem revL_all {p : PlD} {l : List (List Dat)} {Q : PlD → Prop} (h0 : ∀ (n : Int) x, Q x → Q ⟨n, x.pt⟩) (h1 : ∀ i, Q (afterL p l i)) (h2 : ∀ i, i < l.length → Q (plOf (l.getD i []))) {k : Nat} (hk : k ≤ l.length) {r : List Dat} (h : r ∈ revL p l k) : ∃ x : PlD, r = x.row ∧ Q x := by
  obtain ⟨i, hi, hr⟩ := revL_mem hk h
  obtain ⟨x, rfl, hx⟩ := revS_mem hr
  refine ⟨x, rfl, ?_⟩
  rcases hx with rfl | rfl
  · exact h0 _ _ (h1 i)
  · exact h0 _ _ (h2 i hi)
theorem revL_ok {p : PlD} {l : List (List Dat)} (hp : p.ok) (hl : stepsOk l) {k : Nat} (hk : k ≤ l.length) : stepsOk (revL p l k) := by
  refine ⟨by have := revL_len p l k; have := hl.1; omega, fun j hj => ?_⟩
  have hm : (revL p l k).getD j [] ∈ revL p l k := by simp [List.getD, hj]
  obtain ⟨x, e, hx⟩ := revL_all (Q := PlD.ok) (fun _ _ h => h) (fun i => afterL_ok hp hl i) (fun i hi => hl.2 i hi) hk hm
  rw [e]; exact hx
theorem revL_eq {p : PlD} {l : List (List Dat)} {k : Nat} (hk : k < l.length) {x : List (List Dat)} (h : x = revS p l (l.length - 1 - k)) : revL p l k ++ x = revL p l (k + 1) := by rw [h]; rfl
theorem rev_zero {p : PlD} {l : List (List Dat)} {k i : Nat} {n : Int} (hk : k < l.length) (hi : i = l.length - 1 - k) (h : ((l.getD i []).getD 0 (.int 0)).n = 0) (hn : n = 0) : revL p l k ++ [PlD.row ⟨n, (afterL p l i).pt⟩] = revL p l (k + 1) := by
  subst hi; subst hn
  refine revL_eq hk ?_
  have h : (plOf (l.getD (l.length - 1 - k) [])).h = 0 := h
  unfold revS
  rw [if_pos h]
theorem rev_turn {p : PlD} {l : List (List Dat)} {k i : Nat} {n : Int} (hk : k < l.length) (hi : i = l.length - 1 - k) (h : ((l.getD i []).getD 0 (.int 0)).n = 1 ∨ ((l.getD i []).getD 0 (.int 0)).n = -1) (hn : n = -((l.getD i []).getD 0 (.int 0)).n) : revL p l k ++ [PlD.row ⟨n, (plOf (l.getD i [])).pt⟩] = revL p l (k + 1) := by
  subst hi; subst hn
  refine revL_eq hk ?_
  unfold revS
  have h : (plOf (l.getD (l.length - 1 - k) [])).h = 1 ∨ (plOf (l.getD (l.length - 1 - k) [])).h = -1 := h
  rw [if_neg (by omega), if_pos h]
  rfl
theorem rev_turn_w {p : PlD} {l : List (List Dat)} {k i : Nat} (hk : k < l.length) (hi : i = l.length - 1 - k) (h : ((l.getD i []).getD 0 (.int 0)).n = 1 ∨ ((l.getD i []).getD 0 (.int 0)).n = -1) : revL p l k ++ [PlD.row ⟨IntKind.i64.wrap (0 - ((l.getD i []).getD 0 (.int 0)).n), (plOf (l.getD i [])).pt⟩] = revL p l (k + 1) :=
  rev_turn hk hi h (by rw [wrap64 (by omega) (by omega)]; omega)
theorem rev_zero_w {p : PlD} {l : List (List Dat)} {k i : Nat} (hk : k < l.length) (hi : i = l.length - 1 - k) (h : ((l.getD i []).getD 0 (.int 0)).n = 0) : revL p l k ++ [PlD.row ⟨IntKind.i64.wrap (0 - ((l.getD i []).getD 0 (.int 0)).n), (afterL p l i).pt⟩] = revL p l (k + 1) :=
  rev_zero hk hi h (by rw [wrap64 (by omega) (by omega)]; omega)
theorem rev_zero_0 {p : PlD} {l : List (List Dat)} {k i : Nat} (hk : k < l.length) (hi : i = l.length - 1 - k) (h : ((l.getD i []).getD 0 (.int 0)).n = 0) : revL p l k ++ [PlD.row ⟨0, (afterL p l i).pt⟩] = revL p l (k + 1) :=
  rev_zero hk hi h rfl
theorem rev_none {p : PlD} {l : List (List Dat)} {k i : Nat} (hi : i = l.length - 1 - k) (h : ((l.getD i []).getD 0 (.int 0)).n ≠ 0 ∧ ((l.getD i []).getD 0 (.int 0)).n ≠ 1 ∧ ((l.getD i []).getD 0 (.int 0)).n ≠ -1) : revL p l k = revL p l (k + 1) := by
  subst hi
  have : revS p l (l.length - 1 - k) = [] := by
    have h : (plOf (l.getD (l.length - 1 - k) [])).h ≠ 0 ∧ (plOf (l.getD (l.length - 1 - k) [])).h ≠ 1 ∧ (plOf (l.getD (l.length - 1 - k) [])).h ≠ -1 := h
    unfold revS
    rw [if_neg h.1, if_neg (fun e => e.elim h.2.1 h.2.2)]
  simp only [revL, this, List.append_nil]
theorem toNat_sub {n k : Nat} (h : k < n) : ((n : Int) - 1 - (k : Int)).toNat = n - 1 - k := by omega
theorem cntRows_mid {e : Nat} {ts : List Ty} {l : List (List Dat)} (h : Dat.has (.sl e ts) (.sl l)) (hl : l.length ≤ 1048576) (hr : ∀ k, k < l.length → szRow (l.getD k []) ≤ 1048576) (hK : KRow ts ≤ 1000) : (cntRows l : Int) ≤ 2000000000000000 := by
  have key : ∀ k, k ≤ l.length → szRows (l.take k) ≤ k * 1048576 := by
    intro k
    induction k with
    | zero => intro _; simp [szRows]
    | succ k ih =>
      intro hk
      rw [szRows_take l k (by omega)]
      have := ih (by omega)
      have := hr k (by omega)
      omega
  have h1 := key l.length (Nat.le_refl _)
  rw [List.take_length] at h1
  have h2 := cnt_le _ _ h
  simp only [Dat.cnt, Ty.K, Dat.sz] at h2
  have h3 : KRow ts * (1 + (l.length + szRows l)) ≤ 1000 * (1 + (l.length + szRows l)) := Nat.mul_le_mul_right _ hK
  omega
theorem rev_good {e e' e2 : Nat} {w : World} {v : Value} {p : PlD} {l : List (List Dat)} (hp : plGood e p) (h : Rd w (.sl e2 (plTs e)) (.sl l) v) (hs : l.length + szRows l ≤ 1048576) : Dat.has (.sl e' (plTs e)) (.sl (revL p l l.length)) ∧ (cntRows (revL p l l.length) : Int) ≤ 2000000000000000 := by
  have hall : ∀ j, j < (revL p l l.length).length → ∃ x : PlD, (revL p l l.length).getD j [] = x.row ∧ plGood e x := fun j hj =>
    revL_all (Q := plGood e) (fun n _ h => h.at n) (fun i => hp.afterL h hs i) (fun i hi => plGood.of_row h hs hi) (Nat.le_refl _) (by simp [List.getD, hj])
  have hlen := revL_len p l l.length
  have hh : Dat.has (.sl e' (plTs e)) (.sl (revL p l l.length)) := by
    simp only [Dat.has]
    refine ⟨by omega, fun k hk => ?_⟩
    obtain ⟨x, e1, hx⟩ := hall k hk
    rw [e1]; exact hx.has
  refine ⟨hh, cntRows_mid hh (by omega) (fun k hk => ?_) (by simp [plTs, KRow, Ty.K])⟩
  obtain ⟨x, e1, hx⟩ := hall k hk
  rw [e1]; exact hx.2
end Go.Proofs.Ytemgpfojmdncjaa
