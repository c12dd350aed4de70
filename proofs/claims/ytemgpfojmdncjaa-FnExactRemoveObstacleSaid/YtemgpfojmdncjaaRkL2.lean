/-
  Words for the laws: sizes, typed rows. Over any program.
-/
import Derived.Test.YtemgpfojmdncjaaEx19
import Derived.Test.YtemgpfojmdncjaaRkL
namespace Go.Proofs.Ytemgpfojmdncjaa
set_option linter.unusedVariables false
set_option linter.unusedSimpArgs false
open Go.RowKit

structure BigD where
  neg : Bool
  num : List (List Dat)
/-- What is left after a size n: -1 if it is too great. -/
def szR (a : Nat) (n : Int) : Int := if n < (a : Int) then -1 else n - a
theorem vint {a b : Int} {k : IntKind} (h : a = b) : Value.int k a = Value.int k b := by rw [h]
theorem hasRow_leaf : ∀ {ts : List Ty} {ds : List Dat}, ts.all Ty.leaf = true → hasRow ts ds → ds.all (fun d => match d with | .str _ => false | _ => true) = true → szRow ds = 0
  | [], [], _, _, _ => rfl
  | [], _ :: _, _, h, _ => by simp [hasRow] at h
  | _ :: _, [], _, h, _ => by simp [hasRow] at h
  | t :: ts, d :: ds, hl, h, hs => by
    simp only [List.all_cons, Bool.and_eq_true] at hl hs
    simp only [hasRow] at h
    have := hasRow_leaf hl.2 h.2 hs.2
    cases t <;> cases d <;> simp_all [Dat.has, Ty.leaf, szRow, Dat.sz]
/-- No slice and no text. -/
def Ty.num : Ty → Bool
  | .int => true
  | .bool => true
  | _ => false
theorem hasRow_num : ∀ {ts : List Ty} {ds : List Dat}, ts.all Ty.num = true → hasRow ts ds → szRow ds = 0
  | [], [], _, _ => rfl
  | [], _ :: _, _, h => by simp [hasRow] at h
  | _ :: _, [], _, h => by simp [hasRow] at h
  | t :: ts, d :: ds, hl, h => by
    simp only [List.all_cons, Bool.and_eq_true] at hl
    simp only [hasRow] at h
    have := hasRow_num hl.2 h.2
    cases t <;> cases d <;> simp_all [Dat.has, Ty.num, szRow, Dat.sz]
theorem has_leaf {e : Nat} {ts : List Ty} {l : List (List Dat)} (hl : ts.all Ty.num = true) (h : Dat.has (.sl e ts) (.sl l)) : szRows l = 0 := by
  simp only [Dat.has] at h
  exact szRows_leaf fun k hk => hasRow_num hl (h.2 k hk)
theorem has_rows {e : Nat} {ts : List Ty} {l : List (List Dat)} (h : Dat.has (.sl e ts) (.sl l)) : ∀ k, k < l.length → hasRow ts (l.getD k []) := by
  simp only [Dat.has] at h; exact h.2
theorem has_len {e : Nat} {ts : List Ty} {l : List (List Dat)} (h : Dat.has (.sl e ts) (.sl l)) : l.length ≤ 9223372036854775807 := by
  simp only [Dat.has] at h; exact h.1
theorem hasRow.cons {t : Ty} {ts : List Ty} {ds : List Dat} (h : hasRow (t :: ts) ds) : ∃ d ds', ds = d :: ds' ∧ Dat.has t d ∧ hasRow ts ds' := by
  cases ds with
  | nil => simp [hasRow] at h
  | cons d ds => exact ⟨d, ds, rfl, by simpa [hasRow] using h⟩
theorem hasRow.nil {ds : List Dat} (h : hasRow [] ds) : ds = [] := by cases ds <;> simp [hasRow] at h ⊢
theorem Dat.has_int {d : Dat} (h : Dat.has .int d) : ∃ n, d = .int n := by cases d <;> simp [Dat.has] at h ⊢
theorem Dat.has_bool {d : Dat} (h : Dat.has .bool d) : ∃ n, d = .bool n := by cases d <;> simp [Dat.has] at h ⊢
theorem Dat.has_str {d : Dat} (h : Dat.has .str d) : ∃ n, d = .str n := by cases d <;> simp [Dat.has] at h ⊢
theorem Dat.has_sl {d : Dat} {e : Nat} {ts : List Ty} (h : Dat.has (.sl e ts) d) : ∃ n, d = .sl n := by cases d <;> simp [Dat.has] at h ⊢
theorem szRows_le {l : List (List Dat)} {n m : Nat} (h : l.length + szRows l ≤ m) (hm : m ≤ n) : l.length ≤ n := by omega
/-- A step's or a placement's row. -/
theorem plOf_row {e1 e2 e3 e4 : Nat} {t1 t2 t3 t4 : List Ty} {r : List Dat} (h0 : hasRow [.int, .bool, .sl e1 t1, .sl e2 t2, .bool, .sl e3 t3, .sl e4 t4] r) : (plOf r).row = r := by
  obtain ⟨_, _, rfl, q0, h1⟩ := h0.cons
  obtain ⟨_, rfl⟩ := Dat.has_int q0
  obtain ⟨_, _, rfl, q1, h2⟩ := h1.cons
  obtain ⟨_, rfl⟩ := Dat.has_bool q1
  obtain ⟨_, _, rfl, q2, h3⟩ := h2.cons
  obtain ⟨_, rfl⟩ := Dat.has_sl q2
  obtain ⟨_, _, rfl, q3, h4⟩ := h3.cons
  obtain ⟨_, rfl⟩ := Dat.has_sl q3
  obtain ⟨_, _, rfl, q4, h5⟩ := h4.cons
  obtain ⟨_, rfl⟩ := Dat.has_bool q4
  obtain ⟨_, _, rfl, q5, h6⟩ := h5.cons
  obtain ⟨_, rfl⟩ := Dat.has_sl q5
  obtain ⟨_, _, rfl, q6, h7⟩ := h6.cons
  obtain ⟨_, rfl⟩ := Dat.has_sl q6
  obtain rfl := h7.nil
  rfl
end Go.Proofs.Ytemgpfojmdncjaa
