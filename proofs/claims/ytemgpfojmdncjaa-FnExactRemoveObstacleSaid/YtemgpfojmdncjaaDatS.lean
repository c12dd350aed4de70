/-
  Vectors, lists of vectors and scenes as data of whatever shape.
-/
import Derived.Test.YtemgpfojmdncjaaGrow
import Derived.Test.YtemgpfojmdncjaaMath
namespace Go.Proofs.Ytemgpfojmdncjaa
set_option linter.unusedVariables false
set_option linter.unusedSimpArgs false
open Go.RowKit

def vecD (p : V2) : List Dat := [.int p.1, .int p.2]
def vecsD (l : List V2) : List (List Dat) := l.map vecD
def areasD (ll : List (List V2)) : List (List Dat) := ll.map fun l => [.sl (vecsD l)]
def scnD (s : Scn) : List Dat := [.int s.low.1, .int s.low.2, .int s.high.1, .int s.high.2, .sl (vecsD s.robot), .sl (areasD s.obst), .sl (vecsD s.tables)]

theorem vecsD_length (l : List V2) : (vecsD l).length = l.length := by simp [vecsD]
theorem areasD_length (l : List (List V2)) : (areasD l).length = l.length := by simp [areasD]
theorem vecsD_getD (l : List V2) (k : Nat) (hk : k < l.length) : (vecsD l).getD k [] = vecD (l.getD k (0, 0)) := by simp [vecsD, List.getD, hk]
theorem areasD_getD (l : List (List V2)) (k : Nat) (hk : k < l.length) : (areasD l).getD k [] = [.sl (vecsD (l.getD k []))] := by simp [areasD, List.getD, hk]
theorem vecsD_append (l m : List V2) : vecsD (l ++ m) = vecsD l ++ vecsD m := by simp [vecsD]
theorem areasD_append (l m : List (List V2)) : areasD (l ++ m) = areasD l ++ areasD m := by simp [areasD]

theorem VecsAt.rd {w : World} {v : Value} {l : List V2} (e : Nat) (h : VecsAt w v l) : Rd w (.sl e [.int, .int]) (.sl (vecsD l)) v := by
  simp only [Rd]
  refine ⟨l.map vecRow, h, by simp [vecsD], fun k hk => ?_⟩
  rw [vecsD_length] at hk
  rw [vecsD_getD l k hk]
  have : (l.map vecRow).getD k [] = vecRow (l.getD k (0, 0)) := by simp [List.getD, hk]
  rw [this]
  simp [vecD, vecRow, RdRow, Rd]
theorem Rd.vecs {w : World} {e : Nat} {v : Value} {l : List V2} (h : Rd w (.sl e [.int, .int]) (.sl (vecsD l)) v) : VecsAt w v l := by
  simp only [Rd] at h
  obtain ⟨rows, h1, h2, h3⟩ := h
  rw [vecsD_length] at h2
  have : rows = l.map vecRow := by
    apply List.ext_getElem (by simp [h2])
    intro k hk1 hk2
    have hk : k < l.length := by omega
    have := h3 k (by rw [vecsD_length]; exact hk)
    rw [vecsD_getD l k hk] at this
    simp only [vecD] at this
    obtain ⟨x, vs, e1, hx, this⟩ := RdRow.cons2 this
    obtain ⟨y, vs', e2, hy, this⟩ := RdRow.cons2 this
    obtain ⟨-, rfl⟩ := RdRow.nil_inv this
    obtain rfl := Rd.int2 hx
    obtain rfl := Rd.int2 hy
    subst e2
    have e0 : rows.getD k [] = rows[k] := by simp [List.getD, hk1]
    rw [← e0, e1]
    simp [vecRow, List.getD, hk]
  subst this
  exact h1
theorem VecSSAt.rd {w : World} {v : Value} {l : List (List V2)} (e e' : Nat) (h : VecSSAt w v l) : Rd w (.sl e [.sl e' [.int, .int]]) (.sl (areasD l)) v := by
  obtain ⟨vs, h1, h2, h3⟩ := h
  simp only [Rd]
  refine ⟨vs.map fun x => [x], h1, by simp [areasD, h2], fun k hk => ?_⟩
  rw [areasD_length] at hk
  rw [areasD_getD l k hk]
  have : (vs.map fun x => [x]).getD k [] = [vs.getD k undef] := by simp [List.getD, show k < vs.length by omega]
  rw [this]
  exact RdRow.mk_cons ((h3 k hk).rd e') RdRow.mk_nil
theorem Rd.vecss {w : World} {e e' : Nat} {v : Value} {l : List (List V2)} (h : Rd w (.sl e [.sl e' [.int, .int]]) (.sl (areasD l)) v) : VecSSAt w v l := by
  simp only [Rd] at h
  obtain ⟨rows, h1, h2, h3⟩ := h
  rw [areasD_length] at h2
  have h3' : ∀ k, k < l.length → ∃ u, rows.getD k [] = [u] ∧ VecsAt w u (l.getD k []) := fun k hk => by
    have := h3 k (by rw [areasD_length]; exact hk)
    rw [areasD_getD l k hk] at this
    obtain ⟨x, vs, e1, hx, this⟩ := RdRow.cons2 this
    obtain ⟨-, rfl⟩ := RdRow.nil_inv this
    exact ⟨x, e1, hx.vecs⟩
  refine ⟨rows.map fun r => r.getD 0 undef, ?_, by simp [h2], fun k hk => ?_⟩
  · have : (rows.map fun r => r.getD 0 undef).map (fun x => [x]) = rows := by
      apply List.ext_getElem (by simp)
      intro k hk1 hk2
      obtain ⟨u, hu, _⟩ := h3' k (by omega)
      have e0 : rows.getD k [] = rows[k] := by simp [List.getD, hk2]
      rw [e0] at hu
      simp [hu]
    rw [this]; exact h1
  · obtain ⟨u, hu, hv⟩ := h3' k hk
    have : (rows.map fun r => r.getD 0 undef).getD k undef = (rows.getD k []).getD 0 undef := by simp [List.getD, show k < rows.length by omega]
    rw [this, hu]; exact hv
theorem SceneAt.rd {w : World} {v : Value} {s : Scn} (e e' : Nat) (h : SceneAt w v s) : ∃ cs, v = .agg cs.toArray ∧ RdRow w [.int, .int, .int, .int, .sl e [.int, .int], .sl e' [.sl e [.int, .int]], .sl e [.int, .int]] (scnD s) cs := by
  obtain ⟨r, o, t, rfl, h1, h2, h3⟩ := h
  exact ⟨[.int .i64 s.low.1, .int .i64 s.low.2, .int .i64 s.high.1, .int .i64 s.high.2, r, o, t], rfl, RdRow.mk_cons (Rd.mk_int _) (RdRow.mk_cons (Rd.mk_int _) (RdRow.mk_cons (Rd.mk_int _) (RdRow.mk_cons (Rd.mk_int _) (RdRow.mk_cons (h1.rd e) (RdRow.mk_cons (h2.rd e' e) (RdRow.mk_cons (h3.rd e) RdRow.mk_nil))))))⟩
theorem RdRow.scene {w : World} {e e' : Nat} {s : Scn} {cs : List Value} (h : RdRow w [.int, .int, .int, .int, .sl e [.int, .int], .sl e' [.sl e [.int, .int]], .sl e [.int, .int]] (scnD s) cs) : SceneAt w (.agg cs.toArray) s := by
  obtain ⟨a, _, rfl, h0, h⟩ := RdRow.cons2 h
  obtain ⟨b, _, rfl, h1, h⟩ := RdRow.cons2 h
  obtain ⟨c, _, rfl, h2, h⟩ := RdRow.cons2 h
  obtain ⟨d, _, rfl, h3, h⟩ := RdRow.cons2 h
  obtain ⟨r, _, rfl, h4, h⟩ := RdRow.cons2 h
  obtain ⟨o, _, rfl, h5, h⟩ := RdRow.cons2 h
  obtain ⟨t, _, rfl, h6, h⟩ := RdRow.cons2 h
  obtain ⟨-, rfl⟩ := RdRow.nil_inv h
  obtain rfl := Rd.int2 h0
  obtain rfl := Rd.int2 h1
  obtain rfl := Rd.int2 h2
  obtain rfl := Rd.int2 h3
  exact ⟨r, o, t, rfl, h4.vecs, h5.vecss, h6.vecs⟩
theorem szRows_vecs (l : List V2) : szRows (vecsD l) = 0 := by
  induction l with
  | nil => rfl
  | cons x r ih =>
    have : vecsD (x :: r) = vecD x :: vecsD r := rfl
    rw [this]; simp [szRows, vecD, szRow, Dat.sz, ih]
theorem szRows_areas (l : List (List V2)) : ∀ x ∈ l, x.length ≤ szRows (areasD l) := by
  induction l with
  | nil => simp
  | cons y r ih =>
    have e : areasD (y :: r) = [.sl (vecsD y)] :: areasD r := rfl
    intro x hx
    rw [e]; simp only [szRows, szRow, Dat.sz, szRows_vecs, vecsD_length]
    rcases List.mem_cons.1 hx with rfl | hx
    · omega
    · have := ih x hx; omega
/-- A scene that the law takes is small. -/
theorem scn_small {s : Scn} (h : szRow (scnD s) ≤ 1048576) : s.robot.length ≤ 1048576 ∧ s.obst.length ≤ 1048576 ∧ (∀ x ∈ s.obst, x.length ≤ 1048576) ∧ s.tables.length ≤ 1048576 := by
  simp only [scnD, szRow, Dat.sz, szRows_vecs, vecsD_length, areasD_length] at h
  refine ⟨by omega, by omega, fun x hx => ?_, by omega⟩
  have := szRows_areas s.obst x hx; omega
theorem vecFp (w : World) (l : List V2) : ∀ k, k < (vecsD l).length → FpRow w [.int, .int] ((vecsD l).getD k []) ((l.map vecRow).getD k []) ((List.replicate l.length ([] : List Nat)).getD k []) := fun k hk => by
  rw [vecsD_length] at hk
  have e1 : (l.map vecRow).getD k [] = vecRow (l.getD k (0, 0)) := by simp [List.getD, hk]
  have e2 : (List.replicate l.length ([] : List Nat)).getD k [] = [] := by simp [List.getD, hk]
  rw [vecsD_getD l k hk, e1, e2]
  simp [vecD, vecRow, FpRow, Fp]
theorem Own.vecs {w : World} {lo hi e : Nat} {v : Value} {l : List V2} (h : Own w lo hi [.sl e [.int, .int]] [.sl (vecsD l)] [v]) : VecsAt w v l := by
  obtain ⟨bs, h1, -, -⟩ := h.one
  exact (Fp.rd _ _ _ _ h1).vecs
theorem Own.vecss {w : World} {lo hi e e' : Nat} {v : Value} {l : List (List V2)} (h : Own w lo hi [.sl e [.sl e' [.int, .int]]] [.sl (areasD l)] [v]) : VecSSAt w v l := by
  obtain ⟨bs, h1, -, -⟩ := h.one
  exact (Fp.rd _ _ _ _ h1).vecss
/-- A list of vectors of the call's own reads as before where another block is turned. -/
theorem VecsAt.only {S : Nat → Prop} {w w' : World} {v : Value} {l : List V2} (h : VecsAt w v l) (ho : OnlyIn S w w') (hS : ∀ b, v.ownBlock = some b → ¬ S b) : VecsAt w' v l := by
  obtain ⟨a, cap, rfl, h2, h3, h4, h5⟩ := h
  refine ⟨a, cap, rfl, h2, h3, h4, ?_⟩
  rcases h5 with h5 | ⟨b, off, rfl, h6, h7⟩
  · exact .inl h5
  · refine .inr ⟨b, off, rfl, Nat.lt_of_lt_of_le h6 ho.size, fun j hj i hi => ?_⟩
    rw [World.cell?_of_block (a := ⟨b, _, none⟩) (ho.block b h6 (hS b rfl))]; exact h7 j hj i hi
theorem VecSSAt.only {S : Nat → Prop} {w w' : World} {lo hi e e' : Nat} {v : Value} {l : List (List V2)} (h : Own w lo hi [.sl e [.sl e' [.int, .int]]] [.sl (areasD l)] [v]) (ho : OnlyIn S w w') (hS : ∀ b, S b → b < lo ∨ hi ≤ b) : VecSSAt w' v l := by
  obtain ⟨bs, h1, -, -⟩ := (h.only ho hS).one
  exact (Fp.rd _ _ _ _ h1).vecss
end Go.Proofs.Ytemgpfojmdncjaa
