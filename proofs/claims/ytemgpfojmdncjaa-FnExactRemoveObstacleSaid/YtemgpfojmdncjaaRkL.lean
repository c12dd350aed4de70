/-
  Words for the reckoner's promises: how data read, small laws. Over any program.
-/
import Derived.Test.YtemgpfojmdncjaaExB
import Derived.Test.YtemgpfojmdncjaaDatS
namespace Go.Proofs.Ytemgpfojmdncjaa
set_option linter.unusedVariables false
set_option linter.unusedSimpArgs false
open Go.RowKit

theorem by_nf {p q : Prop} (h : p = q) (hq : q) : p := h ▸ hq
theorem wrap64 {x : Int} (h1 : -9223372036854775808 ≤ x) (h2 : x ≤ 9223372036854775807) : IntKind.i64.wrap x = x := by
  rw [IntKind.wrap_i64]; omega
theorem row_eq {a b : List (List Dat)} (h : a = b) : b = a := h.symm

/-- A fraction, a point, a placement or a step, as they lie in a row of cells. -/
structure RatD where
  neg : Bool
  num : List (List Dat)
  den : List (List Dat)
structure PtD where
  x : RatD
  y : RatD
structure PlD where
  h : Int
  pt : PtD
def PlD.row (p : PlD) : List Dat := [.int p.h, .bool p.pt.x.neg, .sl p.pt.x.num, .sl p.pt.x.den, .bool p.pt.y.neg, .sl p.pt.y.num, .sl p.pt.y.den]
def plOf (r : List Dat) : PlD := ⟨(r.getD 0 (.int 0)).n, ⟨⟨(r.getD 1 (.int 0)).b, (r.getD 2 (.int 0)).r, (r.getD 3 (.int 0)).r⟩, ⟨(r.getD 4 (.int 0)).b, (r.getD 5 (.int 0)).r, (r.getD 6 (.int 0)).r⟩⟩⟩
def nextH (h t : Int) : Int := if (0 ≤ h ∧ h ≤ 3) ∧ (t = 1 ∨ t = -1) then Int.tmod (h + t + 4) 4 else -1
def afterS (p x : PlD) : PlD := if x.h = 0 then ⟨p.h, x.pt⟩ else if x.h = 1 ∨ x.h = -1 then ⟨nextH p.h x.h, p.pt⟩ else p
def afterL (p : PlD) (ls : List (List Dat)) (k : Nat) : PlD := (ls.take k).foldl (fun p r => afterS p (plOf r)) p
theorem afterL_succ {p : PlD} {ls : List (List Dat)} {k : Nat} (h : k < ls.length) : afterL p ls (k + 1) = afterS (afterL p ls k) (plOf (ls.getD k [])) := by
  unfold afterL
  rw [take_snoc' ls [] k h, List.foldl_append]
  rfl
def RatD.ok (r : RatD) : Prop := r.num.length ≤ 1073741824 ∧ r.den.length ≤ 1073741824
def PtD.ok (p : PtD) : Prop := p.x.ok ∧ p.y.ok
def PlD.ok (p : PlD) : Prop := p.pt.ok
def stepsOk (ls : List (List Dat)) : Prop := ls.length ≤ 1073741824 ∧ ∀ k, k < ls.length → (plOf (ls.getD k [])).ok
theorem afterL_ok {p : PlD} {ls : List (List Dat)} (hp : p.ok) (hl : stepsOk ls) : ∀ k, (afterL p ls k).ok := by
  have key : ∀ k, k ≤ ls.length → (afterL p ls k).ok := by
    intro k
    induction k with
    | zero => intro _; exact hp
    | succ k ih =>
      intro hk
      rw [afterL_succ (by omega)]
      unfold afterS
      split
      · exact hl.2 k (by omega)
      · split
        · exact ih (by omega)
        · exact ih (by omega)
  intro k
  by_cases hk : k ≤ ls.length
  · exact key k hk
  · have : afterL p ls k = afterL p ls ls.length := by
      unfold afterL
      rw [List.take_of_length_le (by omega), List.take_of_length_le (Nat.le_refl _)]
    rw [this]
    exact key _ (Nat.le_refl _)
theorem getD_take {α : Type} {l : List α} {d : α} {k n : Nat} (h : k < n) : (l.take n).getD k d = l.getD k d := by simp [List.getD, h]
theorem afterL_all {p : PlD} {ls : List (List Dat)} {k : Nat} (h : ls.length ≤ k) : afterL p ls k = afterL p ls ls.length := by
  unfold afterL
  rw [List.take_of_length_le h, List.take_of_length_le (Nat.le_refl _)]
theorem afterL_min {p : PlD} {ls : List (List Dat)} {k n : Nat} (h : k = min n ls.length) : afterL p ls k = afterL p ls n := by
  by_cases hn : n ≤ ls.length
  · rw [h, Nat.min_eq_left hn]
  · rw [h, Nat.min_eq_right (by omega), afterL_all (k := n) (by omega)]
end Go.Proofs.Ytemgpfojmdncjaa
