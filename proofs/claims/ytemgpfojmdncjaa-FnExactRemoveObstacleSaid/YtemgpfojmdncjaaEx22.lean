/-
  Contracts with owned results as promises. Over any program.
-/
import Derived.Test.YtemgpfojmdncjaaEx21
namespace Go.Proofs.Ytemgpfojmdncjaa
set_option linter.unusedVariables false
set_option linter.unusedSimpArgs false
open Go.RowKit

section
variable {P : Program} {f : Nat}
theorem genOwn_ok {c : Con} (hmu : c.mu = []) (en : Enter P f) (hs : ∀ i, (c.res i).cells.length ≤ 32) (hok : ∀ i, ((c.args i).flatMap DA.cells).all DC.ok = true) (out : c.ι → List DC) (hout : ∀ i, (c.res i).cells = (out i).map DC.rc) (hoo : ∀ i, (out i).all DC.ok = true)
    (hc : ∀ i, c.pre i → ∀ w us, RdRow w (((c.args i).flatMap DA.cells).map DC.ty) (((c.args i).flatMap DA.cells).map DC.dat) us → Calls P f (valD (c.args i) us).toArray w fun e w' => ∃ rs, e = .returned ((c.res i).val rs) ∧ Own w' w.heap.size w'.heap.size ((out i).map DC.ty) ((out i).map DC.dat) rs ∧ Below w.heap.size w w') : c.Ok P f where
  enter := en
  small := hs
  calls := by
    intro i hp F w us mb h
    rw [hmu] at h
    refine (hc i hp w us (args_row h (hok i))).mono ?_
    rintro e w' ⟨rs, rfl, ho, hb⟩
    obtain ⟨bs, hpost⟩ := post_own (c := c) (i := i) (F := F) (us := us) (mb := mb) hmu (hout i) hb ho rfl (hoo i)
    exact ⟨rs, bs, rfl, hpost⟩
/-- A struct and a number come in: what is handed over. -/
theorem vals_agg_one {w : World} {us : List Value} {t : List Ty} {x : Ty} {ds : List Dat} {dx : Dat} (h : RdRow w (t ++ [x]) (ds ++ [dx]) us) (hl : t.length = ds.length) : ∃ cs v, us = cs ++ [v] ∧ RdRow w t ds cs ∧ Rd w x dx v ∧ ∀ (cells : List DC) (d : DC), cells.length = ds.length → valD [.agg cells, .one d] us = [.agg cs.toArray, v] := by
  obtain ⟨h1, h2⟩ := RdRow.split hl h
  obtain ⟨v, vs, e, h3, h4⟩ := RdRow.cons2 h2
  obtain ⟨-, rfl⟩ := RdRow.nil_inv h4
  have hu : us = us.take ds.length ++ [v] := by rw [← e, List.take_append_drop]
  refine ⟨us.take ds.length, v, hu, h1, h3, fun cells d hc => ?_⟩
  have hlen := (RdRow.lens _ _ _ h1).2
  have hlen1 := (RdRow.lens _ _ _ h1).1
  conv => lhs; rw [hu]
  rw [valD_agg (by omega)]
  rfl
theorem valD_one_agg {cells : List DC} {us : List Value} (h : us.length = cells.length) : valD [.agg cells] us = [.agg us.toArray] := by
  simp only [valD]
  rw [List.take_of_length_le (by omega)]
/-- A struct and a truth value come back. -/
theorem own_agg_bool {w' : World} {lo hi : Nat} {ts : List Ty} {ds : List Dat} {cs : List Value} (b : Bool) (h : Own w' lo hi ts ds cs) (hlh : lo ≤ hi) : Own w' lo hi (ts ++ [.bool]) (ds ++ [.bool b]) (cs ++ [.bool b]) :=
  Own.append h (Own.leaf (lo := hi) (hi := hi) (Fp.mk_bool b)) hlh (Nat.le_refl _)
theorem val_agg_bool {n : Nat} {cells : List RC} {cs : List Value} {b : Bool} (h : cs.length = n) : (RT.mk true [some n, none] cells).val (cs ++ [.bool b]) = .tuple #[.agg cs.toArray, .bool b] := by
  simp only [RT.val, valA]
  rw [List.take_left' h, List.drop_left' h]
  rfl
end
end Go.Proofs.Ytemgpfojmdncjaa
