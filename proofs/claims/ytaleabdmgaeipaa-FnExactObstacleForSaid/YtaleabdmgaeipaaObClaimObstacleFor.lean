import Derived.Test.YtaleabdmgaeipaaRows
import Derived.Test.YtaleabdmgaeipaaObRkLObstacleFor
import Derived.Test.YtaleabdmgaeipaaObExD
import Derived.WalkKit
import Derived.ProofKit
import Derived.OpenShut
import Derived.ShutString
import Derived.ChangeOld
import Derived.Below
namespace Go.Proofs.Ytaleabdmgaeipaa.claimObstacleFor
open Go.ChangeShapes Go.WideShapes Go.ChangeAt Go.RowKit
set_option linter.unusedVariables false
set_option linter.unusedSimpArgs false
theorem own : ownKnob Try.prog.godebug = none := by kernel_rfl
theorem laidOut : laidOutB Try.prog = true := by kernel_rfl
set_option maxRecDepth 100000 in
theorem lifted (os : Os) (started : os.Started) (H : Type) (enc : TypeId × Value → H) :
    ReturnsInHanded {} Try.checked os 5 .any (Rows.fnExactObstacleForSpec.pre6 enc Try.prog Try.f5 Rows.fnExactObstacleForRow.domain false) (Rows.fnExactObstacleForSpec.post enc Try.prog Try.f5 false true false false) := by
  refine returnsInHanded_of_change (C := Try.checked) own started (by kernel_rfl) Try.func5
    (ChangeSpec.witness6 (enc := enc) (C := Try.checked) false ⟨#[], #[.slice none 0 0, .slice none 0 0], []⟩ 8 (by kernel_rfl) (by kernel_rfl) (by kernel_rfl) (by kernel_rfl)) ?_
  intro W base args ds gs before hval0 hW hcnd _
  have hval : ∀ (j : Nat) t v, Try.f5.params[j]? = some t → args[j]? = some v → Value.okWide Try.prog W .any base t v := hval0
  have hW' := hW
  obtain ⟨p, q, hA0, hV, rfl, hfz, hnd⟩ := hW
  have hA : DataW.TrodAll enc Try.prog W 0 (fun _ => true) true Try.f5.params.toList args.toList ds p := hA0
  rw [Try.params5] at hA hval
  obtain ⟨v0, vs0, d0, ds0, p0, q0, hargs, rfl, rfl, h0, r0⟩ := trodAll_cons hA
  obtain ⟨v1, vs1, d1, ds1, p1, q1, rfl, rfl, rfl, h1, r1⟩ := trodAll_cons r0
  obtain ⟨rfl, rfl, rfl⟩ := trodAll_nil r1
  obtain rfl : args = #[v0, v1] := by cases args; simp_all
  obtain ⟨rfl, rfl⟩ := trodVars_none hV
  have k0 := h0
  have lt0 : ∀ x ∈ p0, x.block < W.heap.size := by obtain ⟨m, hm⟩ := k0; exact DataW.trod_lt m _ _ _ hm
  have c0 := okWide_sl Try.underlying22 (hval 0 22 v0 rfl rfl)
  obtain ⟨e0, he0⟩ : ∃ ds, RdRow W [.sl 40 [.int, .int]] ds [v0] := by
    obtain ⟨fuel, hf⟩ := h0
    rw [← c0]
    exact (trod_rd tt_ok 9 _ [.sl 33 [.int, .int]] _ _ _ (by kernel_rfl) hf).imp fun _ h => h.cast rfl
  obtain ⟨dd, ee, rfl, hh0, he0'⟩ := hasRow.cons (RdRow.has _ _ _ he0)
  obtain rfl := hasRow.nil he0'
  obtain ⟨a0, rfl⟩ := Dat.has_sl hh0
  have hd0 : Rd W (.sl 40 [.int, .int]) (.sl a0) v0 := by simp only [RdRow] at he0; exact he0.1
  obtain ⟨a, rfl⟩ := vecs_of_has hh0
  have k1 := h1
  have lt1 : ∀ x ∈ p1, x.block < W.heap.size := by obtain ⟨m, hm⟩ := k1; exact DataW.trod_lt m _ _ _ hm
  have c1 := okWide_sl Try.underlying22 (hval 1 22 v1 rfl rfl)
  obtain ⟨e1, he1⟩ : ∃ ds, RdRow W [.sl 40 [.int, .int]] ds [v1] := by
    obtain ⟨fuel, hf⟩ := h1
    rw [← c1]
    exact (trod_rd tt_ok 9 _ [.sl 33 [.int, .int]] _ _ _ (by kernel_rfl) hf).imp fun _ h => h.cast rfl
  obtain ⟨dd, ee, rfl, hh1, he1'⟩ := hasRow.cons (RdRow.has _ _ _ he1)
  obtain rfl := hasRow.nil he1'
  obtain ⟨b0, rfl⟩ := Dat.has_sl hh1
  have hd1 : Rd W (.sl 40 [.int, .int]) (.sl b0) v1 := by simp only [RdRow] at he1; exact he1.1
  obtain ⟨b, rfl⟩ := vecs_of_has hh1
  clear hA0 hval0
  have hr := RdRow.app _ _ _ he0 (he1)
  have hl := law_calls lawObstacleFor_ok rfl (a, b) ⟨hh0, hh1⟩ rfl hr rfl rfl rfl
  have hv : valD (lawObstacleFor_con.args (a, b)) ([v0] ++ ([v1])) = [v0, v1] := by
    simp only [lawObstacleFor_con]
    rw [List.singleton_append, valD_one]
    rw [valD_one]
    all_goals rfl
  rw [hv] at hl
  refine hl.mono fun e W' ⟨he, bel⟩ => ?_
  subst he
  exact ⟨_, rfl, _, _, _, [], _, [], hW', trodAll_mk1 (shut_bool Try.underlying4 _), (trodAll_cons_mk (Below.trod laidOut (by kernel_rfl) (of_decide_eq_true (by kernel_rfl)) k0 bel lt0) (trodAll_cons_mk (Below.trod laidOut (by kernel_rfl) (of_decide_eq_true (by kernel_rfl)) k1 bel lt1) trodAll_mk0)), rfl, bel.frame _, fun h => by cases h⟩
theorem over : Rows.fnExactObstacleForRow.holds Try.pinned (OpenSpec.ofChange Rows.fnExactObstacleForSpec) :=
  OpenClaim.holds_of_wide 5 Try.f5 rfl rfl rfl rfl rfl rfl rfl ⟨rfl, rfl, rfl, rfl, rfl⟩ rfl rfl rfl rfl rfl (by kernel_rfl) Try.func5 (by kernel_rfl)
    (of_decide_eq_true (by kernel_rfl)) (by unfold Func.isWrapper; first | (rw [if_pos (by decide +kernel)]; kernel_rfl) | (rw [if_neg (by decide +kernel)]; exact ⟨rfl, rfl⟩))
    (fun os started H enc _ => lifted os started H enc)
theorem proved : Rows.FnExactObstacleForSaid := over
#print axioms proved
end Go.Proofs.Ytaleabdmgaeipaa.claimObstacleFor
