/-
  Words for scenes. Over any program.
-/
import Derived.Test.YtemgpfojmdncjaaExD
import Derived.Test.YtemgpfojmdncjaaScB

namespace Go.Proofs.Ytemgpfojmdncjaa
set_option linter.unusedVariables false
set_option linter.unusedSimpArgs false
open Go.RowKit

def scnSz (s : Scn) : Prop := s.robot.length ≤ 1048576 ∧ s.obst.length ≤ 1048576 ∧ (∀ x ∈ s.obst, x.length ≤ 1048576) ∧ s.tables.length ≤ 1048576
theorem areasD_take (l : List (List V2)) (n : Nat) : (areasD l).take n = areasD (l.take n) := by simp [areasD, List.map_take]
theorem areasD_drop (l : List (List V2)) (n : Nat) : (areasD l).drop n = areasD (l.drop n) := by simp [areasD, List.map_drop]
theorem remOb_false {s : Scn} {k : Int} (h : hasOb s k = false) : remOb s k = s := by unfold remOb; rw [if_neg (by rw [h]; simp)]
theorem remOb_true {s : Scn} {k : Int} (h : hasOb s k = true) : remOb s k = withOb s (s.obst.eraseIdx k.toNat) := by unfold remOb; rw [if_pos h]
theorem areasD_erase (l : List (List V2)) (n : Nat) : areasD (l.take n) ++ areasD (l.drop (n + 1)) = areasD (l.eraseIdx n) := by
  rw [List.eraseIdx_eq_take_drop_succ]; simp [areasD]
theorem one_row {e : Nat} {ts : List Ty} {r : List Dat} (h0 : hasRow [.sl e ts] r) : [Dat.sl ((r.getD 0 (.int 0)).r)] = r := by
  obtain ⟨_, _, rfl, q0, h1⟩ := h0.cons
  obtain ⟨_, rfl⟩ := Dat.has_sl q0
  obtain rfl := h1.nil
  rfl
theorem scnD_sz {s : Scn} (h : szRow (scnD s) ≤ 1048576) : scnSz s := by
  simp only [scnD, szRow, Dat.sz, vecsD_length, areasD_length] at h
  refine ⟨by omega, by omega, fun x hx => ?_, by omega⟩
  obtain ⟨k, hk, e⟩ := List.getElem_of_mem hx
  have := szRows_getD (a := areasD s.obst) (k := k) (by rw [areasD_length]; exact hk)
  have e2 : (areasD s.obst).getD k [] = [.sl (vecsD x)] := by simp [areasD, List.getD, hk, e]
  rw [e2] at this
  simp only [szRow, Dat.sz, vecsD_length] at this
  omega
theorem remOb_sz {s : Scn} {k : Int} (h : szRow (scnD s) ≤ 1048576) : szRow (scnD (remOb s k)) ≤ 1048576 := by
  cases hb : hasOb s k with
  | false => rw [remOb_false hb]; exact h
  | true =>
    rw [remOb_true hb]
    simp only [scnD, szRow, Dat.sz, vecsD_length, areasD_length, withOb] at h ⊢
    have e1 : (s.obst.eraseIdx k.toNat).length ≤ s.obst.length := by rw [List.length_eraseIdx]; split <;> omega
    have e2 : szRows (areasD (s.obst.eraseIdx k.toNat)) ≤ szRows (areasD s.obst) := by
      rw [← areasD_erase, szRows_append]
      by_cases hk : k.toNat < s.obst.length
      · have e3 : s.obst = s.obst.take k.toNat ++ s.obst.getD k.toNat [] :: s.obst.drop (k.toNat + 1) := by
          have : s.obst.drop k.toNat = s.obst.getD k.toNat [] :: s.obst.drop (k.toNat + 1) := by rw [List.drop_eq_getElem_cons hk]; simp [List.getD, hk]
          rw [← this, List.take_append_drop]
        have e4 : szRows (areasD s.obst) = szRows (areasD (s.obst.take k.toNat)) + (szRow [.sl (vecsD (s.obst.getD k.toNat []))] + szRows (areasD (s.obst.drop (k.toNat + 1)))) := by
          conv => lhs; rw [e3]
          simp only [areasD, List.map_append, List.map_cons, szRows_append, szRows]
        omega
      · rw [List.take_of_length_le (by omega), List.drop_eq_nil_of_le (by omega)]; simp [areasD, szRows]
    omega
theorem vecsD_has {e : Nat} {l : List V2} (h : l.length ≤ 9223372036854775807) : Dat.has (.sl e [.int, .int]) (.sl (vecsD l)) := by
  simp only [Dat.has, vecsD_length]
  refine ⟨h, fun k hk => ?_⟩
  have : (vecsD l).getD k [] = vecD (l.getD k (0, 0)) := by simp [vecsD, List.getD, hk]
  rw [this]
  simp [vecD, hasRow, Dat.has]
theorem scnD_has {e1 e2 e3 e4 : Nat} {s : Scn} (h : scnSz s) : hasRow [.int, .int, .int, .int, .sl e1 [.int, .int], .sl e2 [.sl e3 [.int, .int]], .sl e4 [.int, .int]] (scnD s) := by
  obtain ⟨h1, h2, h3, h4⟩ := h
  simp only [scnD, hasRow]
  refine ⟨trivial, trivial, trivial, trivial, vecsD_has (by omega), ?_, vecsD_has (by omega), trivial⟩
  simp only [Dat.has, areasD_length]
  refine ⟨by omega, fun k hk => ?_⟩
  have : (areasD s.obst).getD k [] = [.sl (vecsD (s.obst.getD k []))] := by simp [areasD, List.getD, hk]
  rw [this]
  simp only [hasRow, and_true]
  exact vecsD_has (by have := h3 (s.obst.getD k []) (by simp [List.getD, hk]); omega)
/-- Rows of two numbers are vectors. -/
theorem vecs_of_has {e : Nat} {l : List (List Dat)} (h : Dat.has (.sl e [.int, .int]) (.sl l)) : ∃ vs : List V2, l = vecsD vs := by
  refine ⟨l.map fun r => ((r.getD 0 (.int 0)).n, (r.getD 1 (.int 0)).n), ?_⟩
  have hr := has_rows h
  unfold vecsD
  rw [List.map_map]
  conv => lhs; rw [← List.map_id l]
  refine List.map_congr_left fun r hm => ?_
  obtain ⟨k, hk, e1⟩ := List.getElem_of_mem hm
  have := hr k hk
  simp only [List.getD, List.getElem?_eq_getElem hk, Option.getD_some, e1] at this
  obtain ⟨_, _, rfl, q0, h1⟩ := hasRow.cons this
  obtain ⟨_, rfl⟩ := Dat.has_int q0
  obtain ⟨_, _, rfl, q1, h2⟩ := h1.cons
  obtain ⟨_, rfl⟩ := Dat.has_int q1
  obtain rfl := h2.nil
  rfl
theorem areas_of_has {e e' : Nat} {l : List (List Dat)} (h : Dat.has (.sl e [.sl e' [.int, .int]]) (.sl l)) : ∃ vs : List (List V2), l = areasD vs := by
  have hr := has_rows h
  have key : ∀ (l : List (List Dat)), (∀ k, k < l.length → hasRow [.sl e' [.int, .int]] (l.getD k [])) → ∃ vs : List (List V2), l = areasD vs := by
    intro l
    induction l with
    | nil => intro _; exact ⟨[], rfl⟩
    | cons r l ih =>
      intro h
      obtain ⟨vs, rfl⟩ := ih fun k hk => by simpa using h (k + 1) (by simpa using hk)
      have h0 := h 0 (by simp)
      simp only [List.getD_cons_zero] at h0
      obtain ⟨_, _, rfl, q0, h1⟩ := hasRow.cons h0
      obtain ⟨_, rfl⟩ := Dat.has_sl q0
      obtain rfl := h1.nil
      obtain ⟨v, rfl⟩ := vecs_of_has q0
      exact ⟨v :: vs, rfl⟩
  exact key l hr
theorem scn_of_has {e1 e2 e3 e4 : Nat} {ds : List Dat} (h0 : hasRow [.int, .int, .int, .int, .sl e1 [.int, .int], .sl e2 [.sl e3 [.int, .int]], .sl e4 [.int, .int]] ds) : ∃ s : Scn, ds = scnD s := by
  obtain ⟨_, _, rfl, q0, h1⟩ := h0.cons
  obtain ⟨a, rfl⟩ := Dat.has_int q0
  obtain ⟨_, _, rfl, q1, h2⟩ := h1.cons
  obtain ⟨b, rfl⟩ := Dat.has_int q1
  obtain ⟨_, _, rfl, q2, h3⟩ := h2.cons
  obtain ⟨c, rfl⟩ := Dat.has_int q2
  obtain ⟨_, _, rfl, q3, h4⟩ := h3.cons
  obtain ⟨d, rfl⟩ := Dat.has_int q3
  obtain ⟨_, _, rfl, q4, h5⟩ := h4.cons
  obtain ⟨_, rfl⟩ := Dat.has_sl q4
  obtain ⟨r, rfl⟩ := vecs_of_has q4
  obtain ⟨_, _, rfl, q5, h6⟩ := h5.cons
  obtain ⟨_, rfl⟩ := Dat.has_sl q5
  obtain ⟨o, rfl⟩ := areas_of_has q5
  obtain ⟨_, _, rfl, q6, h7⟩ := h6.cons
  obtain ⟨_, rfl⟩ := Dat.has_sl q6
  obtain ⟨t, rfl⟩ := vecs_of_has q6
  obtain rfl := h7.nil
  exact ⟨⟨(a, b), (c, d), r, o, t⟩, rfl⟩
theorem areas_tail {l : List (List V2)} {k : Int} (h0 : 0 ≤ k) (h1 : k < l.length) (hl : l.length ≤ 1048576) : ((areasD l).take (((areasD l).length : Int).toNat)).drop (IntKind.i64.wrap (k + (1 : Int))).toNat = areasD (l.drop (k.toNat + 1)) := by
  rw [wrap64 (by omega) (by omega), Int.toNat_natCast, List.take_length, areasD_drop, show (k + 1).toNat = k.toNat + 1 by omega]
theorem hasOb_yes {s : Scn} {k : Int} (h : validScn s = true) (h0 : 0 ≤ k) (h1 : k ≤ (s.obst.length : Int) - 1) : hasOb s k = true := by
  unfold hasOb inR; simp [h]; omega
theorem hasOb_no {s : Scn} {k : Int} (h : k < 0 ∨ (s.obst.length : Int) - 1 < k) : hasOb s k = false := by
  unfold hasOb inR
  simp
  intro _
  omega
theorem hasOb_bad {s : Scn} {k : Int} (h : validScn s = false) : hasOb s k = false := by
  unfold hasOb; simp [h]
end Go.Proofs.Ytemgpfojmdncjaa
/-
  Words for moved polygons. Over any program.
-/
namespace Go.Proofs.Ytemgpfojmdncjaa
set_option linter.unusedVariables false
set_option linter.unusedSimpArgs false
open Go.RowKit

def movV (dx dy : Int) (p : V2) : V2 := (IntKind.i64.wrap (p.1 + dx), IntKind.i64.wrap (p.2 + dy))
def movL (l : List V2) (dx dy : Int) : List V2 := l.map (movV dx dy)
def mvPoly (l : List V2) (dx dy : Int) : List V2 := if isVec (dx, dy) = true ∧ (movL l dx dy).all isVec = true then movL l dx dy else []
theorem vecsD_at {l : List V2} {k : Nat} (hk : k < l.length) : (vecsD l).getD k [] = vecD (l.getD k (0, 0)) := by simp [vecsD, List.getD, hk]
theorem vecs_x {l : List V2} {k : Nat} (hk : k < l.length) : (((vecsD l).getD k []).getD 0 (.int 0)).n = (l.getD k (0, 0)).1 := by rw [vecsD_at hk]; rfl
theorem vecs_y {l : List V2} {k : Nat} (hk : k < l.length) : (((vecsD l).getD k []).getD 1 (.int 0)).n = (l.getD k (0, 0)).2 := by rw [vecsD_at hk]; rfl
theorem movL_take {l : List V2} {k : Nat} {dx dy : Int} (hk : k < l.length) : movL (l.take (k + 1)) dx dy = movL (l.take k) dx dy ++ [movV dx dy (l.getD k (0, 0))] := by
  unfold movL
  rw [take_snoc' l (0, 0) k hk, List.map_append]
  rfl
theorem movL_succ {l : List V2} {k : Nat} {dx dy : Int} (hk : k < l.length) : vecsD (movL (l.take k) dx dy) ++ [[Dat.int (IntKind.i64.wrap ((((vecsD l).getD k []).getD 0 (.int 0)).n + dx)), Dat.int (IntKind.i64.wrap ((((vecsD l).getD k []).getD 1 (.int 0)).n + dy))]] = vecsD (movL (l.take (k + 1)) dx dy) := by
  rw [vecs_x hk, vecs_y hk, movL_take hk]
  simp [vecsD, movV, vecD]
theorem movL_len (l : List V2) (dx dy : Int) : (movL l dx dy).length = l.length := by simp [movL]
theorem mvPoly_no {l : List V2} {dx dy : Int} (h : isVec (dx, dy) = false ∨ (movL l dx dy).all isVec = false) : mvPoly l dx dy = [] := by
  unfold mvPoly; rw [if_neg]; rintro ⟨h1, h2⟩; rcases h with h | h <;> simp_all
theorem mvPoly_yes {l : List V2} {dx dy : Int} (h : isVec (dx, dy) = true) (h' : (movL l dx dy).all isVec = true) : mvPoly l dx dy = movL l dx dy := by
  unfold mvPoly; rw [if_pos ⟨h, h'⟩]
theorem allVec_getD {l : List V2} {k : Nat} (h : l.all isVec = true) (hk : k < l.length) : isVec (l.getD k (0, 0)) = true := by
  simp only [List.getD, List.getElem?_eq_getElem hk, Option.getD_some]
  exact List.all_eq_true.1 h _ (List.getElem_mem hk)
theorem movL_bad {l : List V2} {k : Nat} {dx dy : Int} (hk : k < l.length) (h : isVec (movV dx dy (l.getD k (0, 0))) = false) : (movL l dx dy).all isVec = false := by
  rw [Bool.eq_false_iff]
  intro ha
  have := List.all_eq_true.1 ha (movV dx dy (l.getD k (0, 0))) (by unfold movL; exact List.mem_map_of_mem (by simp [List.getD, hk]))
  rw [h] at this; cases this
end Go.Proofs.Ytemgpfojmdncjaa
/-
  Words for a shifted obstacle. Over any program.
-/
namespace Go.Proofs.Ytemgpfojmdncjaa
set_option linter.unusedVariables false
set_option linter.unusedSimpArgs false
open Go.RowKit

/-- The scene whose obstacle k is moved. -/
def mvOb (s : Scn) (k : Nat) (dx dy : Int) : Scn := withOb s (s.obst.set k (mvPoly (s.obst.getD k []) dx dy))
def shOk (s : Scn) (k dx dy : Int) : Bool := hasOb s k && validScn (mvOb s k.toNat dx dy)
def shOb (s : Scn) (k dx dy : Int) : Scn := if shOk s k dx dy = true then mvOb s k.toNat dx dy else s
theorem shOb_no {s : Scn} {k dx dy : Int} (h : shOk s k dx dy = false) : shOb s k dx dy = s := by unfold shOb; rw [if_neg (by rw [h]; simp)]
theorem shOb_yes {s : Scn} {k dx dy : Int} (h : shOk s k dx dy = true) : shOb s k dx dy = mvOb s k.toNat dx dy := by unfold shOb; rw [if_pos h]
theorem shOk_no1 {s : Scn} {k dx dy : Int} (h : hasOb s k = false) : shOk s k dx dy = false := by unfold shOk; rw [h]; rfl
theorem areasD_at {l : List (List V2)} {k : Nat} (hk : k < l.length) : (((areasD l).getD k []).getD 0 (.int 0)).r = vecsD (l.getD k []) := by simp [areasD, List.getD, hk, Dat.r]
theorem areasD_put {l : List (List V2)} {k : Nat} (hk : k < l.length) (x : List V2) : (areasD l).set k (((areasD l).getD k []).set 0 (Dat.sl (vecsD x))) = areasD (l.set k x) := by
  have e : (areasD l).getD k [] = [.sl (vecsD (l.getD k []))] := by simp [areasD, List.getD, hk]
  rw [e]
  simp [areasD, List.map_set]
theorem valid_obst {s : Scn} {k : Nat} (h : validScn s = true) (hk : k < s.obst.length) : (s.obst.getD k []).length ≤ 1048576 ∧ (s.obst.getD k []).all isVec = true := by
  simp only [validScn, Bool.and_eq_true] at h
  have h1 := List.all_eq_true.1 h.2.1.1.1 (s.obst.getD k []) (by simp [List.getD, hk])
  simp only [shape, isPoly, Bool.and_eq_true, decide_eq_true_eq] at h1
  exact ⟨by have := h1.1.2; omega, h1.1.1.1.2⟩
end Go.Proofs.Ytemgpfojmdncjaa
