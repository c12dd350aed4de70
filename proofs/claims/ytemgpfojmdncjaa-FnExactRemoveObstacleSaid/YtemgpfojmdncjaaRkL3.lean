/-
  Words for the laws: marks are few; placements after steps. Over any program.
-/
import Derived.Test.YtemgpfojmdncjaaRkL2
namespace Go.Proofs.Ytemgpfojmdncjaa
set_option linter.unusedVariables false
set_option linter.unusedSimpArgs false
open Go.RowKit

mutual
def Ty.K : Ty → Nat
  | .sl _ ts => KRow ts
  | _ => 1
def KRow : List Ty → Nat
  | [] => 0
  | t :: ts => t.K + KRow ts
end
mutual
theorem cnt_le : ∀ (t : Ty) (d : Dat), Dat.has t d → d.cnt ≤ t.K * (1 + d.sz)
  | .int, d, h => by cases d <;> simp [Dat.has, Dat.cnt, Ty.K] at h ⊢
  | .bool, d, h => by cases d <;> simp [Dat.has, Dat.cnt, Ty.K] at h ⊢
  | .str, d, h => by cases d <;> simp [Dat.has, Dat.cnt, Ty.K] at h ⊢
  | .sl e ts, d, h => by
    cases d with
    | sl ls =>
      simp only [Dat.has] at h
      simp only [Dat.cnt, Ty.K, Dat.sz]
      have key : ∀ k, k ≤ ls.length → cntRows (ls.take k) ≤ KRow ts * (k + szRows (ls.take k)) := by
        intro k
        induction k with
        | zero => intro _; simp [cntRows]
        | succ k ih =>
          intro hk
          rw [cntRows_take ls k (by omega), szRows_take ls k (by omega)]
          have h1 := ih (by omega)
          have h2 := cntRow_le ts _ (h.2 k (by omega))
          rw [Nat.mul_add] at h1 h2
          rw [Nat.mul_add, Nat.mul_add, Nat.mul_add]
          omega
      have := key ls.length (Nat.le_refl _)
      rw [List.take_length] at this
      refine Nat.le_trans this ?_
      exact Nat.mul_le_mul_left _ (by omega)
    | _ => simp [Dat.has] at h
theorem cntRow_le : ∀ (ts : List Ty) (ds : List Dat), hasRow ts ds → cntRow ds ≤ KRow ts * (1 + szRow ds)
  | [], ds, h => by cases ds <;> simp [hasRow, cntRow] at h ⊢
  | t :: ts, [], h => by simp [hasRow] at h
  | t :: ts, d :: ds, h => by
    simp only [hasRow] at h
    have h1 := cnt_le t d h.1
    have h2 := cntRow_le ts ds h.2
    simp only [cntRow, KRow, szRow]
    have h3 : t.K * (1 + d.sz) ≤ t.K * (1 + (d.sz + szRow ds)) := Nat.mul_le_mul_left _ (by omega)
    have h4 : KRow ts * (1 + szRow ds) ≤ KRow ts * (1 + (d.sz + szRow ds)) := Nat.mul_le_mul_left _ (by omega)
    rw [Nat.add_mul]
    omega
end
theorem cntV_le_row : ∀ ds : List Dat, cntV ds ≤ cntRow ds
  | [] => Nat.le_refl _
  | d :: ds => by
    simp only [cntV, cntRow]
    have := cntV_le_row ds
    have : d.cntV ≤ d.cnt := by cases d <;> simp [Dat.cntV, Dat.cnt]
    omega
theorem cntV_small {ts : List Ty} {ds : List Dat} (h : hasRow ts ds) (hs : szRow ds ≤ 1048576) (hK : KRow ts ≤ 1000) : (cntV ds : Int) ≤ 2000000000 := by
  have h1 := cntV_le_row ds
  have h2 := cntRow_le ts ds h
  have h3 : KRow ts * (1 + szRow ds) ≤ 1000 * (1 + szRow ds) := Nat.mul_le_mul_right _ hK
  omega
theorem cntRows_small {e : Nat} {ts : List Ty} {l : List (List Dat)} (h : Dat.has (.sl e ts) (.sl l)) (hs : l.length + szRows l ≤ 1048576) (hK : KRow ts ≤ 1000) : (cntRows l : Int) ≤ 2000000000 := by
  have h2 := cnt_le _ _ h
  simp only [Dat.cnt, Ty.K, Dat.sz] at h2
  have h3 : KRow ts * (1 + (l.length + szRows l)) ≤ 1000 * (1 + (l.length + szRows l)) := Nat.mul_le_mul_right _ hK
  omega

/-! ## Placements -/
theorem afterL_ind {Q : PlD → Prop} {p : PlD} {ls : List (List Dat)} (hp : Q p) (hs : ∀ q x, Q q → Q x → Q (afterS q x)) (hl : ∀ k, k < ls.length → Q (plOf (ls.getD k []))) : ∀ k, Q (afterL p ls k) := by
  have key : ∀ k, k ≤ ls.length → Q (afterL p ls k) := by
    intro k
    induction k with
    | zero => intro _; exact hp
    | succ k ih =>
      intro hk
      rw [afterL_succ (by omega)]
      exact hs _ _ (ih (by omega)) (hl k (by omega))
  intro k
  by_cases hk : k ≤ ls.length
  · exact key k hk
  · rw [afterL_all (by omega)]; exact key _ (Nat.le_refl _)
def plTs (e : Nat) : List Ty := [.int, .bool, .sl e [.int], .sl e [.int], .bool, .sl e [.int], .sl e [.int]]
/-- Some world holds it, and it is of a size that the laws take. -/
def plGood (e : Nat) (p : PlD) : Prop := (∃ w vs, RdRow w (plTs e) p.row vs) ∧ szRow p.row ≤ 1048576
theorem plGood.has {e : Nat} {p : PlD} (h : plGood e p) : hasRow (plTs e) p.row := by obtain ⟨⟨w, vs, h⟩, _⟩ := h; exact RdRow.has _ _ _ h
theorem plGood.ok {e : Nat} {p : PlD} (h : plGood e p) : p.ok := by
  have := h.2
  simp only [PlD.row, szRow, Dat.sz] at this
  refine ⟨⟨?_, ?_⟩, ⟨?_, ?_⟩⟩ <;> omega
theorem plGood.cnt {e : Nat} {p : PlD} (h : plGood e p) : (cntV p.row : Int) ≤ 2000000000 := cntV_small h.has h.2 (by simp [KRow, plTs, Ty.K])
theorem plGood.at {e : Nat} {p : PlD} (n : Int) (h : plGood e p) : plGood e ⟨n, p.pt⟩ := by
  obtain ⟨⟨w, vs, h⟩, hs⟩ := h
  refine ⟨?_, by simpa [PlD.row, szRow, Dat.sz] using hs⟩
  simp only [PlD.row, plTs] at h ⊢
  obtain ⟨v, vs, rfl, h1, h2⟩ := RdRow.cons2 h
  exact ⟨w, .int .i64 n :: vs, RdRow.mk_cons (Rd.mk_int n) h2⟩
theorem plGood.after {e : Nat} {q x : PlD} (hq : plGood e q) (hx : plGood e x) : plGood e (afterS q x) := by
  unfold afterS
  split
  · exact hx.at q.h
  · split
    · exact hq.at _
    · exact hq
theorem szRow_getD_le {l : List (List Dat)} {k : Nat} (hk : k < l.length) : szRow (l.getD k []) ≤ szRows l := szRows_getD hk
theorem plGood.of_row {e e' : Nat} {w : World} {v : Value} {l : List (List Dat)} (h : Rd w (.sl e' (plTs e)) (.sl l) v) (hs : l.length + szRows l ≤ 1048576) {k : Nat} (hk : k < l.length) : plGood e (plOf (l.getD k [])) := by
  simp only [Rd] at h
  obtain ⟨rows, _, _, h⟩ := h
  have h := h k hk
  have hr := plOf_row (RdRow.has _ _ _ h)
  rw [plGood, hr]
  exact ⟨⟨w, _, h⟩, by have := szRows_getD (a := l) hk; omega⟩
theorem plGood.afterL {e e' : Nat} {w : World} {v : Value} {p : PlD} {l : List (List Dat)} (hp : plGood e p) (h : Rd w (.sl e' (plTs e)) (.sl l) v) (hs : l.length + szRows l ≤ 1048576) (k : Nat) : plGood e (afterL p l k) :=
  afterL_ind hp (fun _ _ h1 h2 => h1.after h2) (fun _ hk => plGood.of_row h hs hk) k
theorem stepsOk_of {e e' : Nat} {w : World} {v : Value} {l : List (List Dat)} (h : Rd w (.sl e' (plTs e)) (.sl l) v) (hs : l.length + szRows l ≤ 1048576) : stepsOk l :=
  ⟨by omega, fun _ hk => (plGood.of_row h hs hk).ok⟩
theorem szR_ge {a : Nat} {n : Int} (h : 0 ≤ szR a n) : szR a n = n - a ∧ (a : Int) ≤ n := by
  unfold szR at *
  split at h
  · omega
  · rename_i hn; rw [if_neg hn]; exact ⟨rfl, by omega⟩
end Go.Proofs.Ytemgpfojmdncjaa
