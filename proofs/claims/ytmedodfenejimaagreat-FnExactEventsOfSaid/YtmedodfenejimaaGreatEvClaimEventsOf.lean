import Derived.Test.YtmedodfenejimaaGreatRows
import Derived.Test.YtmedodfenejimaaGreatEvRkLEventsOf
import Derived.Test.YtmedodfenejimaaGreatEvExD
import Derived.Test.YtmedodfenejimaaGreatEvJoinEventsOf
import Derived.WalkKit
import Derived.ProofKit
import Derived.OpenShut
import Derived.ShutString
import Derived.ChangeOld
import Derived.Below
namespace Go.Proofs.YtmedodfenejimaaGreat.claimEventsOf
open Go.ChangeShapes Go.WideShapes Go.ChangeAt Go.RowKit
set_option linter.unusedVariables false
set_option linter.unusedSimpArgs false
theorem own:ownKnob Tryz.prog.godebug=none:=by kernel_rfl
theorem laidOut:laidOutB Tryz.prog=true:=by kernel_rfl
set_option maxRecDepth 100000 in
theorem lifted (os : Os) (started : os.Started) (H : Type) (enc : TypeId × Value → H) :
    ReturnsInHanded {} Tryz.checked os 5 .any (Rows.fnExactEventsOfSpec.pre6 enc Tryz.prog Tryz.f5 Rows.fnExactEventsOfRow.domain false) (Rows.fnExactEventsOfSpec.post enc Tryz.prog Tryz.f5 false true false false) := by
  refine returnsInHanded_of_change (C := Tryz.checked) own started (by kernel_rfl) Tryz.func5
    (ChangeSpec.witness6 (enc := enc) (C := Tryz.checked) false ⟨#[], #[.agg #[.int .i64 0, .int .i64 0, .int .i64 0, .int .i64 0], .slice none 0 0], []⟩ 8 (by kernel_rfl) (by kernel_rfl) (by kernel_rfl) (by kernel_rfl)) ?_
  intro W base args ds gs before hval0 hW hcnd _
  have hval : ∀ (j : Nat) t v, Tryz.f5.params[j]? = some t → args[j]? = some v → Value.okWide Tryz.prog W .any base t v := hval0
  have hW' := hW
  obtain ⟨p, q, hA0, hV, rfl, hfz, hnd⟩ := hW
  have hA : DataW.TrodAll enc Tryz.prog W 0 (fun _ => true) true Tryz.f5.params.toList args.toList ds p := hA0
  rw [Tryz.params5] at hA hval
  obtain ⟨v0, vs0, d0, ds0, p0, q0, hargs, rfl, rfl, h0, r0⟩ := trodAll_cons hA
  obtain ⟨v1, vs1, d1, ds1, p1, q1, rfl, rfl, rfl, h1, r1⟩ := trodAll_cons r0
  obtain ⟨rfl, rfl, rfl⟩ := trodAll_nil r1
  obtain rfl : args = #[v0, v1] := by cases args; simp_all
  obtain ⟨rfl, rfl⟩ := trodVars_none hV
  have k0 := h0
  have lt0 : ∀ x ∈ p0, x.block < W.heap.size := by obtain ⟨m, hm⟩ := k0; exact DataW.trod_lt m _ _ _ hm
  obtain ⟨cs0, rfl, _⟩ := okWide_struct Tryz.underlying29 (hval 0 29 v0 rfl rfl)
  obtain ⟨e0, he0, hft0⟩ : ∃ ds, RdRow W [.int, .int, .int, .int] ds cs0.toList ∧ fitRow ds := by
    obtain ⟨fuel, hf⟩ := h0
    exact (IM AN 9 _ [.int, .int, .int, .int] _ _ _ (by kernel_rfl) (by simpa [Value.cells] using hf)).imp fun _ h => ⟨h.1.cast rfl, h.2⟩
  have hx0 := fun (i : Nat) (hi : ([.int, .int, .int, .int] : List Ty)[i]? = some .int) => Ph Tryz.underlying29 (hval 0 29 _ rfl rfl) he0 hi
  obtain ⟨x0, x1, x2, x3, rfl⟩ : ∃ (x0 : Int) (x1 : Int) (x2 : Int) (x3 : Int), e0 = [Dat.int x0, Dat.int x1, Dat.int x2, Dat.int x3] := ⟨_, _, _, _, QG (RdRow.has _ _ _ he0)⟩
  have k1 := h1
  have lt1 : ∀ x ∈ p1, x.block < W.heap.size := by obtain ⟨m, hm⟩ := k1; exact DataW.trod_lt m _ _ _ hm
  have c1 := Rk Tryz.underlying25 (hval 1 25 v1 rfl rfl)
  obtain ⟨e1, he1⟩ : ∃ ds, RdRow W [.sl 24 [.sl 23 [.int, .int]]] ds [v1] := by
    obtain ⟨fuel, hf⟩ := h1
    rw [← c1]
    exact (Uv AN 9 _ [.sl 24 [.sl 23 [.int, .int]]] _ _ _ (by kernel_rfl) hf).imp fun _ h => h.cast rfl
  obtain ⟨dd, ee, rfl, hh1, he1'⟩ := hasRow.cons (RdRow.has _ _ _ he1)
  obtain rfl := hasRow.nil he1'
  obtain ⟨l, rfl⟩ := Dat.has_sl hh1
  have hd1 : Rd W (.sl 24 [.sl 23 [.int, .int]]) (.sl l) v1 := by simp only [RdRow] at he1; exact he1.1
  obtain ⟨ls, rfl⟩ := NJ (RdRow.has _ _ _ he1).1
  clear hA0 hval0
  have hr := RdRow.app _ _ _ he0 (he1)
  have hl := Rl LU rfl (([Dat.int x0, Dat.int x1, Dat.int x2, Dat.int x3] : List Dat), ls) ⟨RdRow.has _ _ _ he0, hft0, (RdRow.has _ _ _ he1).1⟩ rfl hr rfl rfl rfl
  have hv : B7 (D1.args (([Dat.int x0, Dat.int x1, Dat.int x2, Dat.int x3] : List Dat), ls)) (cs0.toList ++ ([v1])) = [.agg cs0, v1] := by
    simp only [D1]
    have hn0 := (RdRow.lens _ _ _ he0).2
    rw [Kx (by first | exact hn0 | (rw [hn0]; rfl) | (rw [← hn0]; rfl))]
    rw [Tl]
    all_goals rfl
  rw [hv] at hl
  refine hl.mono fun e W' ⟨he, bel⟩ => ?_
  subst he
  exact ⟨_, rfl, _, _, _, [], _, [], hW', trodAll_mk1 (shut_bool Tryz.underlying4 _), (trodAll_cons_mk (Below.trod laidOut (by kernel_rfl) (of_decide_eq_true (by kernel_rfl)) k0 bel lt0) (trodAll_cons_mk (Below.trod laidOut (by kernel_rfl) (of_decide_eq_true (by kernel_rfl)) k1 bel lt1) trodAll_mk0)), rfl, bel.frame _, fun h => by cases h⟩
theorem over:Rows.fnExactEventsOfRow.holds Tryz.pinned (OpenSpec.ofChange Rows.fnExactEventsOfSpec):=
 OpenClaim.holds_of_wide 5 Tryz.f5 rfl rfl rfl rfl rfl rfl rfl ⟨rfl,rfl,rfl,rfl,rfl⟩ rfl rfl rfl rfl rfl (by kernel_rfl) Tryz.func5 WZ
  (of_decide_eq_true (by kernel_rfl)) (by unfold Func.isWrapper;first|(rw [if_pos (by decide +kernel)];kernel_rfl)|(rw [if_neg (by decide +kernel)];exact ⟨rfl,rfl⟩))
  (λ os started H enc _=>lifted os started H enc)
theorem proved:Rows.FnExactEventsOfSaid:=over
#print axioms proved
end Go.Proofs.YtmedodfenejimaaGreat.claimEventsOf
