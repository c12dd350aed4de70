import Derived.Test.YtmedodfenejimaaGreatRows
import Derived.Test.YtmedodfenejimaaGreatLkRkLLinkTable
import Derived.Test.YtmedodfenejimaaGreatLkExD
import Derived.Test.YtmedodfenejimaaGreatLkJoinLinkTable
import Derived.WalkKit
import Derived.ProofKit
import Derived.OpenShut
import Derived.ShutString
import Derived.ChangeOld
import Derived.Below
namespace Go.Proofs.YtmedodfenejimaaGreat.claimLinkTable
open Go.ChangeShapes Go.WideShapes Go.ChangeAt Go.RowKit
set_option linter.unusedVariables false
set_option linter.unusedSimpArgs false
theorem own:ownKnob Tryz.prog.godebug=none:=by kernel_rfl
theorem laidOut:laidOutB Tryz.prog=true:=by kernel_rfl
set_option maxRecDepth 100000 in
theorem lifted (os : Os) (started : os.Started) (H : Type) (enc : TypeId × Value → H) :
    ReturnsInHanded {} Tryz.checked os 4 .any (Rows.fnExactLinkTableSpec.pre6 enc Tryz.prog Tryz.f4 Rows.fnExactLinkTableRow.domain false) (Rows.fnExactLinkTableSpec.post enc Tryz.prog Tryz.f4 false true false false) := by
  refine returnsInHanded_of_change (C := Tryz.checked) own started (by kernel_rfl) Tryz.func4
    (ChangeSpec.witness6 (enc := enc) (C := Tryz.checked) false ⟨#[], #[.agg #[.int .i64 0, .int .i64 0, .int .i64 0, .int .i64 0, .slice none 0 0, .slice none 0 0, .slice none 0 0, .slice none 0 0, .slice none 0 0, .slice none 0 0], .int .i64 0, .int .i64 0], []⟩ 8 (by kernel_rfl) (by kernel_rfl) (by kernel_rfl) (by kernel_rfl)) ?_
  intro W base args ds gs before hval0 hW hcnd _
  have hval : ∀ (j : Nat) t v, Tryz.f4.params[j]? = some t → args[j]? = some v → Value.okWide Tryz.prog W .any base t v := hval0
  have hW' := hW
  obtain ⟨p, q, hA0, hV, rfl, hfz, hnd⟩ := hW
  have hA : DataW.TrodAll enc Tryz.prog W 0 (fun _ => true) true Tryz.f4.params.toList args.toList ds p := hA0
  rw [Tryz.params4] at hA hval
  obtain ⟨v0, vs0, d0, ds0, p0, q0, hargs, rfl, rfl, h0, r0⟩ := trodAll_cons hA
  obtain ⟨v1, vs1, d1, ds1, p1, q1, rfl, rfl, rfl, h1, r1⟩ := trodAll_cons r0
  obtain ⟨v2, vs2, d2, ds2, p2, q2, rfl, rfl, rfl, h2, r2⟩ := trodAll_cons r1
  obtain ⟨rfl, rfl, rfl⟩ := trodAll_nil r2
  obtain rfl : args = #[v0, v1, v2] := by cases args; simp_all
  obtain ⟨rfl, rfl⟩ := trodVars_none hV
  have k0 := h0
  have lt0 : ∀ x ∈ p0, x.block < W.heap.size := by obtain ⟨m, hm⟩ := k0; exact DataW.trod_lt m _ _ _ hm
  obtain ⟨cs0, rfl, _⟩ := okWide_struct Tryz.underlying63 (hval 0 63 v0 rfl rfl)
  obtain ⟨e0, he0, hft0⟩ : ∃ ds, RdRow W [.int, .int, .int, .int, .sl 23 [.int, .int], .sl 24 [.sl 23 [.int, .int]], .sl 23 [.int, .int], .sl 35 [.int, .bool, .int, .int, .int, .int, .sl 24 [.sl 23 [.int, .int]], .sl 161 [.bool, .sl 3 [.int], .sl 3 [.int], .bool, .sl 3 [.int], .sl 3 [.int], .bool, .sl 3 [.int], .sl 3 [.int], .bool, .sl 3 [.int], .sl 3 [.int], .bool, .sl 3 [.int], .sl 3 [.int], .bool, .sl 3 [.int], .sl 3 [.int]], .sl 164 [.bool, .sl 3 [.int], .sl 3 [.int], .bool, .sl 3 [.int], .sl 3 [.int], .bool, .sl 3 [.int], .sl 3 [.int]], .sl 172 [.int, .int], .sl 3 [.int]], .sl 3 [.int], .sl 33 [.sl 3 [.int]]] ds cs0.toList ∧ fitRow ds := by
    obtain ⟨fuel, hf⟩ := h0
    exact (Kd AH 9 _ [.int, .int, .int, .int, .sl 23 [.int, .int], .sl 24 [.sl 23 [.int, .int]], .sl 23 [.int, .int], .sl 35 [.int, .bool, .int, .int, .int, .int, .sl 24 [.sl 23 [.int, .int]], .sl 161 [.bool, .sl 3 [.int], .sl 3 [.int], .bool, .sl 3 [.int], .sl 3 [.int], .bool, .sl 3 [.int], .sl 3 [.int], .bool, .sl 3 [.int], .sl 3 [.int], .bool, .sl 3 [.int], .sl 3 [.int], .bool, .sl 3 [.int], .sl 3 [.int]], .sl 164 [.bool, .sl 3 [.int], .sl 3 [.int], .bool, .sl 3 [.int], .sl 3 [.int], .bool, .sl 3 [.int], .sl 3 [.int]], .sl 172 [.int, .int], .sl 3 [.int]], .sl 3 [.int], .sl 33 [.sl 3 [.int]]] _ _ _ (by kernel_rfl) (by simpa [Value.cells] using hf)).imp fun _ h => ⟨h.1.cast rfl, h.2⟩
  have hx0 := fun (i : Nat) (hi : ([.int, .int, .int, .int, .sl 23 [.int, .int], .sl 24 [.sl 23 [.int, .int]], .sl 23 [.int, .int], .sl 35 [.int, .bool, .int, .int, .int, .int, .sl 24 [.sl 23 [.int, .int]], .sl 161 [.bool, .sl 3 [.int], .sl 3 [.int], .bool, .sl 3 [.int], .sl 3 [.int], .bool, .sl 3 [.int], .sl 3 [.int], .bool, .sl 3 [.int], .sl 3 [.int], .bool, .sl 3 [.int], .sl 3 [.int], .bool, .sl 3 [.int], .sl 3 [.int]], .sl 164 [.bool, .sl 3 [.int], .sl 3 [.int], .bool, .sl 3 [.int], .sl 3 [.int], .bool, .sl 3 [.int], .sl 3 [.int]], .sl 172 [.int, .int], .sl 3 [.int]], .sl 3 [.int], .sl 33 [.sl 3 [.int]]] : List Ty)[i]? = some .int) => O4 Tryz.underlying63 (hval 0 63 _ rfl rfl) he0 hi
  obtain ⟨x0, x1, x2, x3, x4, x5, x6, x7, x8, x9, rfl⟩ : ∃ (x0 : Int) (x1 : Int) (x2 : Int) (x3 : Int) (x4 : List (List Dat)) (x5 : List (List Dat)) (x6 : List (List Dat)) (x7 : List (List Dat)) (x8 : List (List Dat)) (x9 : List (List Dat)), e0 = [Dat.int x0, Dat.int x1, Dat.int x2, Dat.int x3, Dat.sl x4, Dat.sl x5, Dat.sl x6, Dat.sl x7, Dat.sl x8, Dat.sl x9] := ⟨_, _, _, _, _, _, _, _, _, _, Mf (RdRow.has _ _ _ he0)⟩
  obtain ⟨j, rfl, rfl, rfl, w1⟩ := open_int Tryz.underlying3 (hval 1 3 v1 rfl rfl) h1
  obtain ⟨k, rfl, rfl, rfl, w2⟩ := open_int Tryz.underlying3 (hval 2 3 v2 rfl rfl) h2
  clear hA0 hval0
  have hr := RdRow.app _ _ _ he0 (RdRow.app _ _ _ (RdRow.mk_cons (Rd.mk_int j) RdRow.mk_nil : RdRow W [.int] [.int j] [.int .i64 j]) ((RdRow.mk_cons (Rd.mk_int k) RdRow.mk_nil : RdRow W [.int] [.int k] [.int .i64 k])))
  have hl := RV Jf rfl (([Dat.int x0, Dat.int x1, Dat.int x2, Dat.int x3, Dat.sl x4, Dat.sl x5, Dat.sl x6, Dat.sl x7, Dat.sl x8, Dat.sl x9] : List Dat), j, k) ⟨RdRow.has _ _ _ he0, hft0, UL w1, UL w2⟩ rfl hr rfl rfl rfl
  have hv : CQ (DV.args (([Dat.int x0, Dat.int x1, Dat.int x2, Dat.int x3, Dat.sl x4, Dat.sl x5, Dat.sl x6, Dat.sl x7, Dat.sl x8, Dat.sl x9] : List Dat), j, k)) (cs0.toList ++ ([.int .i64 j] ++ ([.int .i64 k]))) = [.agg cs0, .int .i64 j, .int .i64 k] := by
    simp only [DV]
    have hn0 := (RdRow.lens _ _ _ he0).2
    rw [TO (by first | exact hn0 | (rw [hn0]; rfl) | (rw [← hn0]; rfl))]
    rw [List.singleton_append, Nh]
    rw [Nh]
    all_goals rfl
  rw [hv] at hl
  refine hl.mono fun e W' ⟨he, bel⟩ => ?_
  subst he
  exact ⟨_, rfl, _, _, _, [], _, [], hW', trodAll_mk1 (shut_bool Tryz.underlying4 _), (trodAll_cons_mk (Below.trod laidOut (by kernel_rfl) (of_decide_eq_true (by kernel_rfl)) k0 bel lt0) (trodAll_cons_mk (shut_int Tryz.underlying3 w1) (trodAll_cons_mk (shut_int Tryz.underlying3 w2) trodAll_mk0))), rfl, bel.frame _, fun h => by cases h⟩
theorem over:Rows.fnExactLinkTableRow.holds Tryz.pinned (OpenSpec.ofChange Rows.fnExactLinkTableSpec):=
 OpenClaim.holds_of_wide 4 Tryz.f4 rfl rfl rfl rfl rfl rfl rfl ⟨rfl,rfl,rfl,rfl,rfl⟩ rfl rfl rfl rfl rfl (by kernel_rfl) Tryz.func4 V6
  (of_decide_eq_true (by kernel_rfl)) (by unfold Func.isWrapper;first|(rw [if_pos (by decide +kernel)];kernel_rfl)|(rw [if_neg (by decide +kernel)];exact ⟨rfl,rfl⟩))
  (λ os started H enc _=>lifted os started H enc)
theorem proved:Rows.FnExactLinkTableSaid:=over
#print axioms proved
end Go.Proofs.YtmedodfenejimaaGreat.claimLinkTable
