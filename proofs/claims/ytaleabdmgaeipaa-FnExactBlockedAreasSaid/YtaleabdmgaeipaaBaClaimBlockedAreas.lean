import Derived.Test.YtaleabdmgaeipaaRows
import Derived.Test.YtaleabdmgaeipaaBaRkLBlockedAreas
import Derived.Test.YtaleabdmgaeipaaBaExD
import Derived.WalkKit
import Derived.ProofKit
import Derived.OpenShut
import Derived.ShutString
import Derived.ChangeOld
import Derived.Below
namespace Go.Proofs.Ytaleabdmgaeipaa.claimBlockedAreas
open Go.ChangeShapes Go.WideShapes Go.ChangeAt Go.RowKit
set_option linter.unusedVariables false
set_option linter.unusedSimpArgs false
theorem own : ownKnob Try.prog.godebug = none := by kernel_rfl
theorem laidOut : laidOutB Try.prog = true := by kernel_rfl
set_option maxRecDepth 100000 in
theorem lifted (os : Os) (started : os.Started) (H : Type) (enc : TypeId × Value → H) :
    ReturnsInHanded {} Try.checked os 6 .any (Rows.fnExactBlockedAreasSpec.pre6 enc Try.prog Try.f6 Rows.fnExactBlockedAreasRow.domain false) (Rows.fnExactBlockedAreasSpec.post enc Try.prog Try.f6 false true false false) := by
  refine returnsInHanded_of_change (C := Try.checked) own started (by kernel_rfl) Try.func6
    (ChangeSpec.witness6 (enc := enc) (C := Try.checked) false ⟨#[], #[.agg #[.int .i64 0, .int .i64 0, .int .i64 0, .int .i64 0, .slice none 0 0, .slice none 0 0, .slice none 0 0], .int .i64 0], []⟩ 8 (by kernel_rfl) (by kernel_rfl) (by kernel_rfl) (by kernel_rfl)) ?_
  intro W base args ds gs before hval0 hW hcnd _
  have hval : ∀ (j : Nat) t v, Try.f6.params[j]? = some t → args[j]? = some v → Value.okWide Try.prog W .any base t v := hval0
  have hW' := hW
  obtain ⟨p, q, hA0, hV, rfl, hfz, hnd⟩ := hW
  have hA : DataW.TrodAll enc Try.prog W 0 (fun _ => true) true Try.f6.params.toList args.toList ds p := hA0
  rw [Try.params6] at hA hval
  obtain ⟨v0, vs0, d0, ds0, p0, q0, hargs, rfl, rfl, h0, r0⟩ := trodAll_cons hA
  obtain ⟨v1, vs1, d1, ds1, p1, q1, rfl, rfl, rfl, h1, r1⟩ := trodAll_cons r0
  obtain ⟨rfl, rfl, rfl⟩ := trodAll_nil r1
  obtain rfl : args = #[v0, v1] := by cases args; simp_all
  obtain ⟨rfl, rfl⟩ := trodVars_none hV
  have k0 := h0
  have lt0 : ∀ x ∈ p0, x.block < W.heap.size := by obtain ⟨m, hm⟩ := k0; exact DataW.trod_lt m _ _ _ hm
  obtain ⟨cs0, rfl, _⟩ := okWide_struct Try.underlying36 (hval 0 36 v0 rfl rfl)
  obtain ⟨e0, he0⟩ : ∃ ds, RdRow W [.int, .int, .int, .int, .sl 40 [.int, .int], .sl 24 [.sl 40 [.int, .int]], .sl 40 [.int, .int]] ds cs0.toList := by
    obtain ⟨fuel, hf⟩ := h0
    exact (trod_rd tt_ok 9 _ [.int, .int, .int, .int, .sl 33 [.int, .int], .sl 22 [.sl 33 [.int, .int]], .sl 33 [.int, .int]] _ _ _ (by kernel_rfl) (by simpa [Value.cells] using hf)).imp fun _ h => h.cast rfl
  obtain ⟨s, rfl⟩ : ∃ s : Scn, e0 = scnD s := scn_of_has (RdRow.has _ _ _ he0)
  obtain ⟨h, rfl, rfl, rfl, w1⟩ := open_int Try.underlying3 (hval 1 3 v1 rfl rfl) h1
  clear hA0 hval0
  have hr := RdRow.app _ _ _ he0 ((RdRow.mk_cons (Rd.mk_int h) RdRow.mk_nil : RdRow W [.int] [.int h] [.int .i64 h]))
  have hl := law_calls lawBlockedAreas_ok rfl (s, h) (RdRow.has _ _ _ he0) rfl hr rfl rfl rfl
  have hv : valD (lawBlockedAreas_con.args (s, h)) (cs0.toList ++ ([.int .i64 h])) = [.agg cs0, .int .i64 h] := by
    simp only [lawBlockedAreas_con]
    have hn0 := (RdRow.lens _ _ _ he0).2
    rw [valD_agg (by first | exact hn0 | (rw [hn0]; rfl) | (rw [← hn0]; rfl))]
    rw [valD_one]
    all_goals rfl
  rw [hv] at hl
  refine hl.mono fun e W' ⟨he, bel⟩ => ?_
  subst he
  exact ⟨_, rfl, _, _, _, [], _, [], hW', trodAll_mk1 (shut_bool Try.underlying4 _), (trodAll_cons_mk (Below.trod laidOut (by kernel_rfl) (of_decide_eq_true (by kernel_rfl)) k0 bel lt0) (trodAll_cons_mk (shut_int Try.underlying3 w1) trodAll_mk0)), rfl, bel.frame _, fun h => by cases h⟩
theorem over : Rows.fnExactBlockedAreasRow.holds Try.pinned (OpenSpec.ofChange Rows.fnExactBlockedAreasSpec) :=
  OpenClaim.holds_of_wide 6 Try.f6 rfl rfl rfl rfl rfl rfl rfl ⟨rfl, rfl, rfl, rfl, rfl⟩ rfl rfl rfl rfl rfl (by kernel_rfl) Try.func6 (by kernel_rfl)
    (of_decide_eq_true (by kernel_rfl)) (by unfold Func.isWrapper; first | (rw [if_pos (by decide +kernel)]; kernel_rfl) | (rw [if_neg (by decide +kernel)]; exact ⟨rfl, rfl⟩))
    (fun os started H enc _ => lifted os started H enc)
theorem proved : Rows.FnExactBlockedAreasSaid := over
#print axioms proved
end Go.Proofs.Ytaleabdmgaeipaa.claimBlockedAreas
