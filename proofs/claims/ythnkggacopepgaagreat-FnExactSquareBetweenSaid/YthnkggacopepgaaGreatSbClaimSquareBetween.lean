import Derived.Test.YthnkggacopepgaaGreatRows
import Derived.Test.YthnkggacopepgaaGreatSbRkLSquareBetween
import Derived.Test.YthnkggacopepgaaGreatSbExD
import Derived.Test.YthnkggacopepgaaGreatSbJoinSquareBetween
import Derived.WalkKit
import Derived.ProofKit
import Derived.OpenShut
import Derived.ShutString
import Derived.ChangeOld
import Derived.Below
namespace Go.Proofs.YthnkggacopepgaaGreat.claimSquareBetween
open Go.ChangeShapes Go.WideShapes Go.ChangeAt Go.RowKit
set_option linter.unusedVariables false
set_option linter.unusedSimpArgs false
theorem own:ownKnob Tryz.prog.godebug=none:=by kernel_rfl
theorem laidOut:laidOutB Tryz.prog=true:=by kernel_rfl
set_option maxRecDepth 100000 in
theorem lifted (os : Os) (started : os.Started) (H : Type) (enc : TypeId × Value → H) :
    ReturnsInHanded {} Tryz.checked os 10 .any (Rows.fnExactSquareBetweenSpec.pre6 enc Tryz.prog Tryz.f10 Rows.fnExactSquareBetweenRow.domain false) (Rows.fnExactSquareBetweenSpec.post enc Tryz.prog Tryz.f10 false true false false) := by
  refine returnsInHanded_of_change (C := Tryz.checked) own started (by kernel_rfl) Tryz.func10
    (ChangeSpec.witness6 (enc := enc) (C := Tryz.checked) false ⟨#[], #[.slice none 0 0, .agg #[.bool false, .slice none 0 0, .slice none 0 0, .bool false, .slice none 0 0, .slice none 0 0], .agg #[.bool false, .slice none 0 0, .slice none 0 0, .bool false, .slice none 0 0, .slice none 0 0]], []⟩ 8 (by kernel_rfl) (by kernel_rfl) (by kernel_rfl) (by kernel_rfl)) ?_
  intro W base args ds gs before hval0 hW hcnd _
  have hval : ∀ (j : Nat) t v, Tryz.f10.params[j]? = some t → args[j]? = some v → Value.okWide Tryz.prog W .any base t v := hval0
  have hW' := hW
  obtain ⟨p, q, hA0, hV, rfl, hfz, hnd⟩ := hW
  have hA : DataW.TrodAll enc Tryz.prog W 0 (fun _ => true) true Tryz.f10.params.toList args.toList ds p := hA0
  rw [Tryz.params10] at hA hval
  obtain ⟨v0, vs0, d0, ds0, p0, q0, hargs, rfl, rfl, h0, r0⟩ := trodAll_cons hA
  obtain ⟨v1, vs1, d1, ds1, p1, q1, rfl, rfl, rfl, h1, r1⟩ := trodAll_cons r0
  obtain ⟨v2, vs2, d2, ds2, p2, q2, rfl, rfl, rfl, h2, r2⟩ := trodAll_cons r1
  obtain ⟨rfl, rfl, rfl⟩ := trodAll_nil r2
  obtain rfl : args = #[v0, v1, v2] := by cases args; simp_all
  obtain ⟨rfl, rfl⟩ := trodVars_none hV
  have k0 := h0
  have lt0 : ∀ x ∈ p0, x.block < W.heap.size := by obtain ⟨m, hm⟩ := k0; exact DataW.trod_lt m _ _ _ hm
  have c0 := okWide_sl Tryz.underlying22 (hval 0 22 v0 rfl rfl)
  obtain ⟨e0, he0⟩ : ∃ ds, RdRow W [.sl 61 [.int, .int]] ds [v0] := by
    obtain ⟨fuel, hf⟩ := h0
    rw [← c0]
    exact (trod_rd tt_ok 9 _ [.sl 54 [.int, .int]] _ _ _ (by kernel_rfl) hf).imp fun _ h => h.cast rfl
  obtain ⟨dd, ee, rfl, hh0, he0'⟩ := hasRow.cons (RdRow.has _ _ _ he0)
  obtain rfl := hasRow.nil he0'
  obtain ⟨l0, rfl⟩ := Dat.has_sl hh0
  have hd0 : Rd W (.sl 61 [.int, .int]) (.sl l0) v0 := by simp only [RdRow] at he0; exact he0.1
  obtain ⟨l, rfl⟩ := vecs_of_has hh0
  have k1 := h1
  have lt1 : ∀ x ∈ p1, x.block < W.heap.size := by obtain ⟨m, hm⟩ := k1; exact DataW.trod_lt m _ _ _ hm
  obtain ⟨cs1, rfl, _⟩ := okWide_struct Tryz.underlying29 (hval 1 29 v1 rfl rfl)
  obtain ⟨e1, he1⟩ : ∃ ds, RdRow W [.bool, .sl 3 [.int], .sl 3 [.int], .bool, .sl 3 [.int], .sl 3 [.int]] ds cs1.toList := by
    obtain ⟨fuel, hf⟩ := h1
    exact (trod_rd tt_ok 9 _ [.bool, .sl 3 [.int], .sl 3 [.int], .bool, .sl 3 [.int], .sl 3 [.int]] _ _ _ (by kernel_rfl) (by simpa [Value.cells] using hf)).imp fun _ h => h.cast rfl
  obtain ⟨p, rfl⟩ : ∃ p : PtD, e1 = ptD p := ⟨ptOf e1, ptD_eta (RdRow.has _ _ _ he1)⟩
  have k2 := h2
  have lt2 : ∀ x ∈ p2, x.block < W.heap.size := by obtain ⟨m, hm⟩ := k2; exact DataW.trod_lt m _ _ _ hm
  obtain ⟨cs2, rfl, _⟩ := okWide_struct Tryz.underlying29 (hval 2 29 v2 rfl rfl)
  obtain ⟨e2, he2⟩ : ∃ ds, RdRow W [.bool, .sl 3 [.int], .sl 3 [.int], .bool, .sl 3 [.int], .sl 3 [.int]] ds cs2.toList := by
    obtain ⟨fuel, hf⟩ := h2
    exact (trod_rd tt_ok 9 _ [.bool, .sl 3 [.int], .sl 3 [.int], .bool, .sl 3 [.int], .sl 3 [.int]] _ _ _ (by kernel_rfl) (by simpa [Value.cells] using hf)).imp fun _ h => h.cast rfl
  obtain ⟨q, rfl⟩ : ∃ p : PtD, e2 = ptD p := ⟨ptOf e2, ptD_eta (RdRow.has _ _ _ he2)⟩
  clear hA0 hval0
  have hr := RdRow.app _ _ _ he0 (RdRow.app _ _ _ he1 (he2))
  have hl := law_calls lawSquareBetween_ok rfl (l, p, q) ⟨hh0, RdRow.has _ _ _ he1, RdRow.has _ _ _ he2⟩ rfl hr rfl rfl rfl
  have hv : valD (lawSquareBetween_con.args (l, p, q)) ([v0] ++ (cs1.toList ++ (cs2.toList))) = [v0, .agg cs1, .agg cs2] := by
    simp only [lawSquareBetween_con]
    rw [List.singleton_append, valD_one]
    have hn1 := (RdRow.lens _ _ _ he1).2
    rw [valD_agg (by first | exact hn1 | (rw [hn1]; rfl) | (rw [← hn1]; rfl))]
    have hn2 := (RdRow.lens _ _ _ he2).2
    rw [valD_one_agg (by first | exact hn2 | (rw [hn2]; rfl) | (rw [← hn2]; rfl))]
  rw [hv] at hl
  refine hl.mono fun e W' ⟨he, bel⟩ => ?_
  subst he
  exact ⟨_, rfl, _, _, _, [], _, [], hW', trodAll_mk1 (shut_bool Tryz.underlying4 _), (trodAll_cons_mk (Below.trod laidOut (by kernel_rfl) (of_decide_eq_true (by kernel_rfl)) k0 bel lt0) (trodAll_cons_mk (Below.trod laidOut (by kernel_rfl) (of_decide_eq_true (by kernel_rfl)) k1 bel lt1) (trodAll_cons_mk (Below.trod laidOut (by kernel_rfl) (of_decide_eq_true (by kernel_rfl)) k2 bel lt2) trodAll_mk0))), rfl, bel.frame _, fun h => by cases h⟩
theorem over:Rows.fnExactSquareBetweenRow.holds Tryz.pinned (OpenSpec.ofChange Rows.fnExactSquareBetweenSpec):=
 OpenClaim.holds_of_wide 10 Tryz.f10 rfl rfl rfl rfl rfl rfl rfl ⟨rfl,rfl,rfl,rfl,rfl⟩ rfl rfl rfl rfl rfl (by kernel_rfl) Tryz.func10 closed
  (of_decide_eq_true (by kernel_rfl)) (by unfold Func.isWrapper;first|(rw [if_pos (by decide +kernel)];kernel_rfl)|(rw [if_neg (by decide +kernel)];exact ⟨rfl,rfl⟩))
  (fun os started H enc _=>lifted os started H enc)
theorem proved:Rows.FnExactSquareBetweenSaid:=over
#print axioms proved
end Go.Proofs.YthnkggacopepgaaGreat.claimSquareBetween
