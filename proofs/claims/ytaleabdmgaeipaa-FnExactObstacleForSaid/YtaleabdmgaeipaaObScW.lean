import Derived.Test.YtaleabdmgaeipaaObExD
import Derived.Test.YtaleabdmgaeipaaObScA
namespace Go.Proofs.Ytaleabdmgaeipaa
set_option linter.unusedVariables false
set_option linter.unusedSimpArgs false
open Go.RowKit
theorem vecsD_has {e : Nat} {l : List V2} (h : l.length ≤ 9223372036854775807) : Dat.has (.sl e [.int, .int]) (.sl (vecsD l)) := by
  simp only [Dat.has, vecsD_length]
  refine ⟨h, fun k hk => ?_⟩
  have : (vecsD l).getD k [] = vecD (l.getD k (0, 0)) := by simp [vecsD, List.getD, hk]
  rw [this]
  simp [vecD, hasRow, Dat.has]
theorem vecs_of_has {e : Nat} {l : List (List Dat)} (h : Dat.has (.sl e [.int, .int]) (.sl l)) : ∃ vs : List V2, l = vecsD vs := by
  refine ⟨l.map fun r => ((r.getD 0 (.int 0)).n, (r.getD 1 (.int 0)).n), ?_⟩
  have hr := has_rows h
  unfold vecsD
  rw [List.map_map]
  conv => lhs; rw [← List.map_id l]
  refine List.map_congr_left fun r hm => ?_
  obtain ⟨k, hk, e1⟩ := List.getElem_of_mem hm
  have := hr k hk
  simp only [List.getD, List.getElem?_eq_getElem hk, Option.getD_some, e1] at this
  obtain ⟨_, _, rfl, q0, h1⟩ := hasRow.cons this
  obtain ⟨_, rfl⟩ := Dat.has_int q0
  obtain ⟨_, _, rfl, q1, h2⟩ := h1.cons
  obtain ⟨_, rfl⟩ := Dat.has_int q1
  obtain rfl := h2.nil
  rfl
def movV (dx dy : Int) (p : V2) : V2 := (IntKind.i64.wrap (p.1 + dx), IntKind.i64.wrap (p.2 + dy))
def movL (l : List V2) (dx dy : Int) : List V2 := l.map (movV dx dy)
theorem vecsD_at {l : List V2} {k : Nat} (hk : k < l.length) : (vecsD l).getD k [] = vecD (l.getD k (0, 0)) := by simp [vecsD, List.getD, hk]
theorem vecs_x {l : List V2} {k : Nat} (hk : k < l.length) : (((vecsD l).getD k []).getD 0 (.int 0)).n = (l.getD k (0, 0)).1 := by rw [vecsD_at hk]; rfl
theorem vecs_y {l : List V2} {k : Nat} (hk : k < l.length) : (((vecsD l).getD k []).getD 1 (.int 0)).n = (l.getD k (0, 0)).2 := by rw [vecsD_at hk]; rfl
theorem movL_take {l : List V2} {k : Nat} {dx dy : Int} (hk : k < l.length) : movL (l.take (k + 1)) dx dy = movL (l.take k) dx dy ++ [movV dx dy (l.getD k (0, 0))] := by
  unfold movL
  rw [take_snoc' l (0, 0) k hk, List.map_append]
  rfl
theorem movL_succ {l : List V2} {k : Nat} {dx dy : Int} (hk : k < l.length) : vecsD (movL (l.take k) dx dy) ++ [[Dat.int (IntKind.i64.wrap ((((vecsD l).getD k []).getD 0 (.int 0)).n + dx)), Dat.int (IntKind.i64.wrap ((((vecsD l).getD k []).getD 1 (.int 0)).n + dy))]] = vecsD (movL (l.take (k + 1)) dx dy) := by
  rw [vecs_x hk, vecs_y hk, movL_take hk]
  simp [vecsD, movV, vecD]
theorem movL_len (l : List V2) (dx dy : Int) : (movL l dx dy).length = l.length := by simp [movL]
theorem allVec_getD {l : List V2} {k : Nat} (h : l.all isVec = true) (hk : k < l.length) : isVec (l.getD k (0, 0)) = true := by
  simp only [List.getD, List.getElem?_eq_getElem hk, Option.getD_some]
  exact List.all_eq_true.1 h _ (List.getElem_mem hk)
end Go.Proofs.Ytaleabdmgaeipaa
namespace Go.Proofs.Ytaleabdmgaeipaa
set_option linter.unusedVariables false
set_option linter.unusedSimpArgs false
open Go.RowKit
end Go.Proofs.Ytaleabdmgaeipaa
