import Derived.Test.YtppjhpglejehkaaGreatRows
import Derived.Test.YtppjhpglejehkaaGreatTtRkLTableAt
import Derived.Test.YtppjhpglejehkaaGreatTtExD
import Derived.Test.YtppjhpglejehkaaGreatTtJoinTableAt
import Derived.WalkKit
import Derived.ProofKit
import Derived.OpenShut
import Derived.ShutString
import Derived.ChangeOld
import Derived.Below
namespace Go.Proofs.YtppjhpglejehkaaGreat.claimTableAt
open Go.ChangeShapes Go.WideShapes Go.ChangeAt Go.RowKit
set_option linter.unusedVariables false
set_option linter.unusedSimpArgs false
theorem own:ownKnob Tryz.prog.godebug=none:=by kernel_rfl
theorem laidOut:laidOutB Tryz.prog=true:=by kernel_rfl
set_option maxRecDepth 100000 in
theorem lifted (os : Os) (started : os.Started) (H : Type) (enc : TypeId × Value → H) :
    ReturnsInHanded {} Tryz.checked os 4 .any (Rows.fnExactTableAtSpec.pre6 enc Tryz.prog Tryz.f4 Rows.fnExactTableAtRow.domain false) (Rows.fnExactTableAtSpec.post enc Tryz.prog Tryz.f4 false true false false) := by
  refine returnsInHanded_of_change (C := Tryz.checked) own started (by kernel_rfl) Tryz.func4
    (ChangeSpec.witness6 (enc := enc) (C := Tryz.checked) false ⟨#[], #[.agg #[.int .i64 0, .int .i64 0, .int .i64 0, .int .i64 0, .slice none 0 0, .slice none 0 0, .slice none 0 0], .agg #[.bool false, .slice none 0 0, .slice none 0 0, .bool false, .slice none 0 0, .slice none 0 0]], []⟩ 8 (by kernel_rfl) (by kernel_rfl) (by kernel_rfl) (by kernel_rfl)) ?_
  intro W base args ds gs before hval0 hW hcnd _
  have hval : ∀ (j : Nat) t v, Tryz.f4.params[j]? = some t → args[j]? = some v → Value.okWide Tryz.prog W .any base t v := hval0
  have hW' := hW
  obtain ⟨p, q, hA0, hV, rfl, hfz, hnd⟩ := hW
  have hA : DataW.TrodAll enc Tryz.prog W 0 (fun _ => true) true Tryz.f4.params.toList args.toList ds p := hA0
  rw [Tryz.params4] at hA hval
  obtain ⟨v0, vs0, d0, ds0, p0, q0, hargs, rfl, rfl, h0, r0⟩ := trodAll_cons hA
  obtain ⟨v1, vs1, d1, ds1, p1, q1, rfl, rfl, rfl, h1, r1⟩ := trodAll_cons r0
  obtain ⟨rfl, rfl, rfl⟩ := trodAll_nil r1
  obtain rfl : args = #[v0, v1] := by cases args; simp_all
  obtain ⟨rfl, rfl⟩ := trodVars_none hV
  have k0 := h0
  have lt0 : ∀ x ∈ p0, x.block < W.heap.size := by obtain ⟨m, hm⟩ := k0; exact DataW.trod_lt m _ _ _ hm
  obtain ⟨cs0, rfl, _⟩ := okWide_struct Tryz.underlying27 (hval 0 27 v0 rfl rfl)
  obtain ⟨e0, he0⟩ : ∃ ds, RdRow W [.int, .int, .int, .int, .sl 31 [.int, .int], .sl 32 [.sl 31 [.int, .int]], .sl 31 [.int, .int]] ds cs0.toList := by
    obtain ⟨fuel, hf⟩ := h0
    exact (trod_rd tt_ok 9 _ [.int, .int, .int, .int, .sl 23 [.int, .int], .sl 24 [.sl 23 [.int, .int]], .sl 23 [.int, .int]] _ _ _ (by kernel_rfl) (by simpa [Value.cells] using hf)).imp fun _ h => h.cast rfl
  obtain ⟨s, rfl⟩ : ∃ s : Scn, e0 = scnD s := scn_of_has (RdRow.has _ _ _ he0)
  have k1 := h1
  have lt1 : ∀ x ∈ p1, x.block < W.heap.size := by obtain ⟨m, hm⟩ := k1; exact DataW.trod_lt m _ _ _ hm
  obtain ⟨cs1, rfl, _⟩ := okWide_struct Tryz.underlying47 (hval 1 47 v1 rfl rfl)
  obtain ⟨e1, he1⟩ : ∃ ds, RdRow W [.bool, .sl 3 [.int], .sl 3 [.int], .bool, .sl 3 [.int], .sl 3 [.int]] ds cs1.toList := by
    obtain ⟨fuel, hf⟩ := h1
    exact (trod_rd tt_ok 9 _ [.bool, .sl 3 [.int], .sl 3 [.int], .bool, .sl 3 [.int], .sl 3 [.int]] _ _ _ (by kernel_rfl) (by simpa [Value.cells] using hf)).imp fun _ h => h.cast rfl
  obtain ⟨p, rfl⟩ : ∃ p : PtD, e1 = ptD p := ⟨ptOf e1, ptD_eta (RdRow.has _ _ _ he1)⟩
  clear hA0 hval0
  have hr := RdRow.app _ _ _ he0 (he1)
  have hl := law_calls lawTableAt_ok rfl (s, p) ⟨RdRow.has _ _ _ he0, RdRow.has _ _ _ he1⟩ rfl hr rfl rfl rfl
  have hv : valD (lawTableAt_con.args (s, p)) (cs0.toList ++ (cs1.toList)) = [.agg cs0, .agg cs1] := by
    simp only [lawTableAt_con]
    have hn0 := (RdRow.lens _ _ _ he0).2
    rw [valD_agg (by first | exact hn0 | (rw [hn0]; rfl) | (rw [← hn0]; rfl))]
    have hn1 := (RdRow.lens _ _ _ he1).2
    rw [valD_one_agg (by first | exact hn1 | (rw [hn1]; rfl) | (rw [← hn1]; rfl))]
  rw [hv] at hl
  refine hl.mono fun e W' ⟨he, bel⟩ => ?_
  subst he
  exact ⟨_, rfl, _, _, _, [], _, [], hW', trodAll_mk1 (shut_bool Tryz.underlying4 _), (trodAll_cons_mk (Below.trod laidOut (by kernel_rfl) (of_decide_eq_true (by kernel_rfl)) k0 bel lt0) (trodAll_cons_mk (Below.trod laidOut (by kernel_rfl) (of_decide_eq_true (by kernel_rfl)) k1 bel lt1) trodAll_mk0)), rfl, bel.frame _, fun h => by cases h⟩
theorem over:Rows.fnExactTableAtRow.holds Tryz.pinned (OpenSpec.ofChange Rows.fnExactTableAtSpec):=
 OpenClaim.holds_of_wide 4 Tryz.f4 rfl rfl rfl rfl rfl rfl rfl ⟨rfl,rfl,rfl,rfl,rfl⟩ rfl rfl rfl rfl rfl (by kernel_rfl) Tryz.func4 closed
  (of_decide_eq_true (by kernel_rfl)) (by unfold Func.isWrapper;first|(rw [if_pos (by decide +kernel)];kernel_rfl)|(rw [if_neg (by decide +kernel)];exact ⟨rfl,rfl⟩))
  (fun os started H enc _=>lifted os started H enc)
theorem proved:Rows.FnExactTableAtSaid:=over
#print axioms proved
end Go.Proofs.YtppjhpglejehkaaGreat.claimTableAt
