/-
  The plain mathematics of vectors and polygons: what the functions of the program and of the reference compute. Nothing of a program is named here.
-/
namespace Go.Proofs.Ytemgpfojmdncjaa
set_option linter.unusedVariables false
set_option linter.unusedSimpArgs false

abbrev V2 := Int × Int

/-- Whether a number lies in a range. -/
def inR (n lo hi : Int) : Bool := decide (lo ≤ n) && decide (n ≤ hi)
theorem inR_iff {n lo hi : Int} : inR n lo hi = true ↔ lo ≤ n ∧ n ≤ hi := by simp [inR]
theorem inR_true {n lo hi : Int} (h1 : lo ≤ n) (h2 : n ≤ hi) : inR n lo hi = true := by simp [inR, h1, h2]
theorem inR_low {n lo hi : Int} (h : n < lo) : inR n lo hi = false := by simp [inR]; omega
theorem inR_high {n lo hi : Int} (h : hi < n) : inR n lo hi = false := by simp [inR]; omega

/-- Both coordinates from -m to m. -/
def insB (m : Int) (p : V2) : Bool := inR p.1 (-m) m && inR p.2 (-m) m
def isVec (p : V2) : Bool := insB 1000 p
theorem insB_bd {m : Int} {p : V2} (h : insB m p = true) : -m ≤ p.1 ∧ p.1 ≤ m ∧ -m ≤ p.2 ∧ p.2 ≤ m := by
  simp only [insB, Bool.and_eq_true, inR_iff] at h; omega
theorem isVec_bd {p : V2} (h : isVec p = true) : -1000 ≤ p.1 ∧ p.1 ≤ 1000 ∧ -1000 ≤ p.2 ∧ p.2 ≤ 1000 := insB_bd h

/-- The turn of three vectors. -/
def turnI (a b c : V2) : Int := (b.1 - a.1) * (c.2 - a.2) - (b.2 - a.2) * (c.1 - a.1)

/-- Whether corner number j is on the proper side of the edge from corner i. -/
def cornerOk (l : List V2) (i j : Nat) : Bool :=
  decide (j = i) || decide (j = (i + 1) % l.length) || decide (0 < turnI (l.getD i (0, 0)) (l.getD ((i + 1) % l.length) (0, 0)) (l.getD j (0, 0)))
def rowOk (l : List V2) (i : Nat) : Bool := (List.range l.length).all (cornerOk l i)
def isPoly (l : List V2) : Bool := inR l.length 3 16 && l.all isVec && (List.range l.length).all (rowOk l)

/-- The first index whose element meets p, or -1. -/
def idxOf {α : Type} (p : α → Bool) : List α → Int
  | [] => -1
  | x :: r => if p x then 0 else if idxOf p r < 0 then -1 else idxOf p r + 1

theorem idxOf_ge {α : Type} (p : α → Bool) (l : List α) : -1 ≤ idxOf p l := by
  induction l with
  | nil => simp [idxOf]
  | cons x r ih => simp only [idxOf]; (repeat' split) <;> omega

theorem idxOf_none {α : Type} (p : α → Bool) (l : List α) (h : l.any p = false) : idxOf p l = -1 := by
  induction l with
  | nil => rfl
  | cons x r ih =>
    simp only [List.any_cons, Bool.or_eq_false_iff] at h
    simp [idxOf, h.1, ih h.2]

theorem idxOf_at {α : Type} (p : α → Bool) (l : List α) (d : α) (k : Nat) (hk : k < l.length) (h1 : (l.take k).any p = false) (h2 : p (l.getD k d) = true) : idxOf p l = k := by
  induction l generalizing k with
  | nil => simp at hk
  | cons x r ih =>
    cases k with
    | zero => simp [List.getD] at h2; simp [idxOf, h2]
    | succ k =>
      simp only [List.take_succ_cons, List.any_cons, Bool.or_eq_false_iff] at h1
      have := ih k (by simpa using hk) h1.2 (by simpa [List.getD] using h2)
      simp only [idxOf, h1.1, this]
      simp; omega

theorem idxOf_nonneg {α : Type} (p : α → Bool) (l : List α) : 0 ≤ idxOf p l ↔ l.any p = true := by
  induction l with
  | nil => simp [idxOf]
  | cons x r ih =>
    simp only [idxOf, List.any_cons, Bool.or_eq_true, ← ih]
    by_cases hx : p x = true
    · simp [hx]
    · by_cases h0 : idxOf p r < 0
      · simp [hx, h0]
      · simp [hx, h0]; omega
theorem idxOf_neg {α : Type} (p : α → Bool) (l : List α) : decide (0 ≤ idxOf p l) = l.any p := by
  rw [Bool.eq_iff_iff, decide_eq_true_iff, idxOf_nonneg]

theorem take_any_snoc {α : Type} (p : α → Bool) (l : List α) (d : α) (k : Nat) (hk : k < l.length) : (l.take (k + 1)).any p = ((l.take k).any p || p (l.getD k d)) := by
  rw [List.take_succ_eq_append_getElem hk, List.any_append]
  simp [List.getD, List.getElem?_eq_getElem hk]

theorem take_all_snoc {α : Type} (p : α → Bool) (l : List α) (d : α) (k : Nat) (hk : k < l.length) : (l.take (k + 1)).all p = ((l.take k).all p && p (l.getD k d)) := by
  rw [List.take_succ_eq_append_getElem hk, List.all_append]
  simp [List.getD, List.getElem?_eq_getElem hk]

theorem all_take_false {α : Type} (p : α → Bool) (l : List α) (d : α) (k : Nat) (hk : k < l.length) (h : p (l.getD k d) = false) : l.all p = false := by
  rw [List.all_eq_false]
  refine ⟨l[k], List.getElem_mem hk, ?_⟩
  simpa [List.getD, List.getElem?_eq_getElem hk] using h

theorem any_take_true {α : Type} (p : α → Bool) (l : List α) (d : α) (k : Nat) (hk : k < l.length) (h : p (l.getD k d) = true) : l.any p = true := by
  rw [List.any_eq_true]
  refine ⟨l[k], List.getElem_mem hk, ?_⟩
  simpa [List.getD, List.getElem?_eq_getElem hk] using h

theorem all_range_snoc (p : Nat → Bool) (k : Nat) : (List.range (k + 1)).all p = ((List.range k).all p && p k) := by
  rw [List.range_succ, List.all_append]; simp

theorem all_range_false (p : Nat → Bool) (n k : Nat) (hk : k < n) (h : p k = false) : (List.range n).all p = false := by
  rw [List.all_eq_false]; exact ⟨k, List.mem_range.2 hk, by simp [h]⟩

theorem all_getD {α : Type} {p : α → Bool} {l : List α} (h : l.all p = true) (d : α) (k : Nat) (hk : k < l.length) : p (l.getD k d) = true := by
  rw [List.all_eq_true] at h
  have := h l[k] (List.getElem_mem hk)
  simpa [List.getD, List.getElem?_eq_getElem hk] using this

theorem mul_bd {a b m n : Int} (ha : -m ≤ a ∧ a ≤ m) (hb : -n ≤ b ∧ b ≤ n) (hm : 0 ≤ m) (hn : 0 ≤ n) : -(m * n) ≤ a * b ∧ a * b ≤ m * n := by
  obtain ⟨a1, a2⟩ := ha
  obtain ⟨b1, b2⟩ := hb
  have h : (a * b).natAbs ≤ (m * n).natAbs := by
    rw [Int.natAbs_mul, Int.natAbs_mul]
    exact Nat.mul_le_mul (by omega) (by omega)
  have h0 : 0 ≤ m * n := Int.mul_nonneg hm hn
  omega


/-- A polygon of few corners with small coordinates. -/
def shape (m : Int) (l : List V2) : Bool := isPoly l && decide (l.length ≤ 5) && l.all (insB m)

/-- A scene. -/
structure Scn where
  low : V2
  high : V2
  robot : List V2
  obst : List (List V2)
  tables : List V2

def validScn (s : Scn) : Bool :=
  ([s.low, s.high].all (insB 200) && decide (s.low.1 < s.high.1) && decide (s.low.2 < s.high.2) && shape 20 s.robot) &&
  (s.obst.all (shape 200) && decide (s.obst.length ≤ 4) && decide (s.tables.length ≤ 3) && s.tables.all (insB 200))

end Go.Proofs.Ytemgpfojmdncjaa
