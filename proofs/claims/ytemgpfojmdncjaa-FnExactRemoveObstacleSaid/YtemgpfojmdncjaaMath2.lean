/-
  Quarter turns, the extent of corners, the rectangle of a robot. Nothing of a program is named here.
-/
import Derived.Test.YtemgpfojmdncjaaMath
namespace Go.Proofs.Ytemgpfojmdncjaa
set_option linter.unusedVariables false
set_option linter.unusedSimpArgs false

/-- A quarter turn, and k of them. -/
def rot (p : V2) : V2 := (-p.2, p.1)
def rotN : Nat → V2 → V2
  | 0, p => p
  | k + 1, p => rot (rotN k p)
theorem rotN_bd {m : Int} {p : V2} (h : -m ≤ p.1 ∧ p.1 ≤ m ∧ -m ≤ p.2 ∧ p.2 ≤ m) (k : Nat) : -m ≤ (rotN k p).1 ∧ (rotN k p).1 ≤ m ∧ -m ≤ (rotN k p).2 ∧ (rotN k p).2 ≤ m := by
  induction k with
  | zero => exact h
  | succ k ih => simp only [rotN, rot]; omega
theorem insB_rotN {m : Int} {p : V2} (h : insB m p = true) (k : Nat) : insB m (rotN k p) = true := by
  have := rotN_bd (insB_bd h) k
  simp only [insB, Bool.and_eq_true, inR_iff]; omega
theorem turnI_rot (a b c : V2) : turnI (rot a) (rot b) (rot c) = turnI a b c := by
  simp only [turnI, rot]; grind
theorem turnI_rotN (a b c : V2) (k : Nat) : turnI (rotN k a) (rotN k b) (rotN k c) = turnI a b c := by
  induction k with
  | zero => rfl
  | succ k ih => simp only [rotN, turnI_rot, ih]
def turnPoly (l : List V2) (k : Nat) : List V2 := l.map (rotN k)
theorem rotN_zero (k : Nat) : rotN k (0, 0) = (0, 0) := by
  induction k with
  | zero => rfl
  | succ k ih => simp [rotN, ih, rot]
theorem turnPoly_getD (l : List V2) (k i : Nat) : (turnPoly l k).getD i (0, 0) = rotN k (l.getD i (0, 0)) := by
  simp only [turnPoly, List.getD, List.getElem?_map]
  cases l[i]? <;> simp [rotN_zero]
theorem isVec_rot_iff (p : V2) : isVec (rot p) = isVec p := by
  rw [Bool.eq_iff_iff]
  simp only [isVec, insB, rot, Bool.and_eq_true, inR_iff]; omega
theorem isVec_rotN (p : V2) (k : Nat) : isVec (rotN k p) = isVec p := by
  induction k with
  | zero => rfl
  | succ k ih => simp only [rotN, isVec_rot_iff, ih]
theorem cornerOk_turn (l : List V2) (k i j : Nat) : cornerOk (turnPoly l k) i j = cornerOk l i j := by
  simp only [cornerOk, turnPoly_getD, turnI_rotN]
  simp only [turnPoly, List.length_map]
theorem isPoly_turn (l : List V2) (k : Nat) : isPoly (turnPoly l k) = isPoly l := by
  have h1 : (turnPoly l k).length = l.length := by simp [turnPoly]
  have h2 : (turnPoly l k).all isVec = l.all isVec := by
    simp only [turnPoly, List.all_map]
    congr 1
    funext p
    exact isVec_rotN p k
  have h3 : rowOk (turnPoly l k) = rowOk l := by
    funext i
    simp only [rowOk, h1]
    congr 1
    funext j
    exact cornerOk_turn l k i j
  simp only [isPoly, h1, h2, h3]

def minV (a b : V2) : V2 := (min a.1 b.1, min a.2 b.2)
def maxV (a b : V2) : V2 := (max a.1 b.1, max a.2 b.2)
def lowOf (l : List V2) : V2 := l.foldl minV (l.getD 0 (0, 0))
def highOf (l : List V2) : V2 := l.foldl maxV (l.getD 0 (0, 0))
theorem foldl_take_snoc {α β : Type} (f : β → α → β) (z : β) (l : List α) (d : α) (k : Nat) (hk : k < l.length) : (l.take (k + 1)).foldl f z = f ((l.take k).foldl f z) (l.getD k d) := by
  rw [List.take_succ_eq_append_getElem hk, List.foldl_append]
  simp [List.getD, List.getElem?_eq_getElem hk]
theorem foldl_min_bd {m : Int} (l : List V2) (z : V2) (hz : -m ≤ z.1 ∧ z.1 ≤ m ∧ -m ≤ z.2 ∧ z.2 ≤ m) (hl : ∀ p ∈ l, -m ≤ p.1 ∧ p.1 ≤ m ∧ -m ≤ p.2 ∧ p.2 ≤ m) :
    -m ≤ (l.foldl minV z).1 ∧ (l.foldl minV z).1 ≤ m ∧ -m ≤ (l.foldl minV z).2 ∧ (l.foldl minV z).2 ≤ m := by
  induction l generalizing z with
  | nil => exact hz
  | cons x r ih =>
    refine ih _ ?_ (fun p hp => hl p (by simp [hp]))
    have := hl x (by simp)
    simp only [minV]; omega
theorem foldl_max_bd {m : Int} (l : List V2) (z : V2) (hz : -m ≤ z.1 ∧ z.1 ≤ m ∧ -m ≤ z.2 ∧ z.2 ≤ m) (hl : ∀ p ∈ l, -m ≤ p.1 ∧ p.1 ≤ m ∧ -m ≤ p.2 ∧ p.2 ≤ m) :
    -m ≤ (l.foldl maxV z).1 ∧ (l.foldl maxV z).1 ≤ m ∧ -m ≤ (l.foldl maxV z).2 ∧ (l.foldl maxV z).2 ≤ m := by
  induction l generalizing z with
  | nil => exact hz
  | cons x r ih =>
    refine ih _ ?_ (fun p hp => hl p (by simp [hp]))
    have := hl x (by simp)
    simp only [maxV]; omega

/-- The room in which the robot's origin may be. -/
def boxOf (s : Scn) (k : Nat) : V2 × V2 :=
  let lo := lowOf (turnPoly s.robot k)
  let hi := highOf (turnPoly s.robot k)
  ((s.low.1 - lo.1, s.low.2 - lo.2), (s.high.1 - hi.1, s.high.2 - hi.2))
def boxOpen (b : V2 × V2) : Bool := decide (b.1.1 < b.2.1) && decide (b.1.2 < b.2.2)
/-- LimitsOf: the rectangle, and whether there is one. -/
def limitsOk (s : Scn) (h : Int) : Bool := validScn s && inR h 0 3 && boxOpen (boxOf s h.toNat)
def limitsBox (s : Scn) (h : Int) : V2 × V2 := if limitsOk s h then boxOf s h.toNat else ((0, 0), (0, 0))

end Go.Proofs.Ytemgpfojmdncjaa
