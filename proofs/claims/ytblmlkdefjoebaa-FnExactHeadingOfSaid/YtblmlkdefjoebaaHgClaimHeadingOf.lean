import Derived.Test.YtblmlkdefjoebaaRows
import Derived.Test.YtblmlkdefjoebaaHgRkLHeadingOf
import Derived.Test.YtblmlkdefjoebaaHgExD
import Derived.WalkKit
import Derived.ProofKit
import Derived.OpenShut
import Derived.ShutString
import Derived.ChangeOld
import Derived.Below
namespace Go.Proofs.Ytblmlkdefjoebaa.claimHeadingOf
open Go.ChangeShapes Go.WideShapes Go.ChangeAt Go.RowKit
set_option linter.unusedVariables false
set_option linter.unusedSimpArgs false
theorem own:ownKnob Try.prog.godebug=none:=by kernel_rfl
theorem laidOut:laidOutB Try.prog=true:=by kernel_rfl
set_option maxRecDepth 100000 in
theorem lifted (os : Os) (started : os.Started) (H : Type) (enc : TypeId × Value → H) :
    ReturnsInHanded {} Try.checked os 5 .any (Rows.fnExactHeadingOfSpec.pre6 enc Try.prog Try.f5 Rows.fnExactHeadingOfRow.domain false) (Rows.fnExactHeadingOfSpec.post enc Try.prog Try.f5 false true false false) := by
  refine returnsInHanded_of_change (C := Try.checked) own started (by kernel_rfl) Try.func5
    (ChangeSpec.witness6 (enc := enc) (C := Try.checked) false ⟨#[], #[.agg #[.int .i64 0, .int .i64 0, .int .i64 0, .int .i64 0, .slice none 0 0, .slice none 0 0, .slice none 0 0, .slice none 0 0, .slice none 0 0, .slice none 0 0], .int .i64 0], []⟩ 8 (by kernel_rfl) (by kernel_rfl) (by kernel_rfl) (by kernel_rfl)) ?_
  intro W base args ds gs before hval0 hW hcnd _
  have hval : ∀ (j : Nat) t v, Try.f5.params[j]? = some t → args[j]? = some v → Value.okWide Try.prog W .any base t v := hval0
  have hW' := hW
  obtain ⟨p, q, hA0, hV, rfl, hfz, hnd⟩ := hW
  have hA : DataW.TrodAll enc Try.prog W 0 (fun _ => true) true Try.f5.params.toList args.toList ds p := hA0
  rw [Try.params5] at hA hval
  obtain ⟨v0, vs0, d0, ds0, p0, q0, hargs, rfl, rfl, h0, r0⟩ := trodAll_cons hA
  obtain ⟨v1, vs1, d1, ds1, p1, q1, rfl, rfl, rfl, h1, r1⟩ := trodAll_cons r0
  obtain ⟨rfl, rfl, rfl⟩ := trodAll_nil r1
  obtain rfl : args = #[v0, v1] := by cases args; simp_all
  obtain ⟨rfl, rfl⟩ := trodVars_none hV
  have k0 := h0
  have lt0 : ∀ x ∈ p0, x.block < W.heap.size := by obtain ⟨m, hm⟩ := k0; exact DataW.trod_lt m _ _ _ hm
  obtain ⟨cs0, rfl, _⟩ := okWide_struct Try.underlying58 (hval 0 58 v0 rfl rfl)
  obtain ⟨e0, he0⟩ : ∃ ds, RdRow W [.int, .int, .int, .int, .sl 23 [.int, .int], .sl 52 [.sl 23 [.int, .int]], .sl 23 [.int, .int], .sl 32 [.int, .bool, .int, .int, .int, .int, .sl 52 [.sl 23 [.int, .int]], .sl 114 [.bool, .sl 3 [.int], .sl 3 [.int], .bool, .sl 3 [.int], .sl 3 [.int], .bool, .sl 3 [.int], .sl 3 [.int], .bool, .sl 3 [.int], .sl 3 [.int], .bool, .sl 3 [.int], .sl 3 [.int], .bool, .sl 3 [.int], .sl 3 [.int]], .sl 117 [.bool, .sl 3 [.int], .sl 3 [.int], .bool, .sl 3 [.int], .sl 3 [.int], .bool, .sl 3 [.int], .sl 3 [.int]], .sl 130 [.int, .int], .sl 3 [.int]], .sl 3 [.int], .sl 30 [.sl 3 [.int]]] ds cs0.toList := by
    obtain ⟨fuel, hf⟩ := h0
    exact (trod_rd tt_ok 9 _ [.int, .int, .int, .int, .sl 23 [.int, .int], .sl 52 [.sl 23 [.int, .int]], .sl 23 [.int, .int], .sl 32 [.int, .bool, .int, .int, .int, .int, .sl 52 [.sl 23 [.int, .int]], .sl 114 [.bool, .sl 3 [.int], .sl 3 [.int], .bool, .sl 3 [.int], .sl 3 [.int], .bool, .sl 3 [.int], .sl 3 [.int], .bool, .sl 3 [.int], .sl 3 [.int], .bool, .sl 3 [.int], .sl 3 [.int], .bool, .sl 3 [.int], .sl 3 [.int]], .sl 117 [.bool, .sl 3 [.int], .sl 3 [.int], .bool, .sl 3 [.int], .sl 3 [.int], .bool, .sl 3 [.int], .sl 3 [.int]], .sl 130 [.int, .int], .sl 3 [.int]], .sl 3 [.int], .sl 30 [.sl 3 [.int]]] _ _ _ (by kernel_rfl) (by simpa [Value.cells] using hf)).imp fun _ h => h.cast rfl
  have hx0 := fun (i : Nat) (hi : ([.int, .int, .int, .int, .sl 23 [.int, .int], .sl 52 [.sl 23 [.int, .int]], .sl 23 [.int, .int], .sl 32 [.int, .bool, .int, .int, .int, .int, .sl 52 [.sl 23 [.int, .int]], .sl 114 [.bool, .sl 3 [.int], .sl 3 [.int], .bool, .sl 3 [.int], .sl 3 [.int], .bool, .sl 3 [.int], .sl 3 [.int], .bool, .sl 3 [.int], .sl 3 [.int], .bool, .sl 3 [.int], .sl 3 [.int], .bool, .sl 3 [.int], .sl 3 [.int]], .sl 117 [.bool, .sl 3 [.int], .sl 3 [.int], .bool, .sl 3 [.int], .sl 3 [.int], .bool, .sl 3 [.int], .sl 3 [.int]], .sl 130 [.int, .int], .sl 3 [.int]], .sl 3 [.int], .sl 30 [.sl 3 [.int]]] : List Ty)[i]? = some .int) => okWide_dat Try.underlying58 (hval 0 58 _ rfl rfl) he0 hi
  obtain ⟨x0, x1, x2, x3, x4, x5, x6, x7, x8, x9, rfl⟩ : ∃ (x0 : Int) (x1 : Int) (x2 : Int) (x3 : Int) (x4 : List (List Dat)) (x5 : List (List Dat)) (x6 : List (List Dat)) (x7 : List (List Dat)) (x8 : List (List Dat)) (x9 : List (List Dat)), e0 = [Dat.int x0, Dat.int x1, Dat.int x2, Dat.int x3, Dat.sl x4, Dat.sl x5, Dat.sl x6, Dat.sl x7, Dat.sl x8, Dat.sl x9] := ⟨_, _, _, _, _, _, _, _, _, _, etaRoad (RdRow.has _ _ _ he0)⟩
  obtain ⟨n, rfl, rfl, rfl, w1⟩ := open_int Try.underlying3 (hval 1 3 v1 rfl rfl) h1
  clear hA0 hval0
  have hr := RdRow.app _ _ _ he0 ((RdRow.mk_cons (Rd.mk_int n) RdRow.mk_nil : RdRow W [.int] [.int n] [.int .i64 n]))
  have hl := law_calls lawHeadingOf_ok rfl (([Dat.int x0, Dat.int x1, Dat.int x2, Dat.int x3, Dat.sl x4, Dat.sl x5, Dat.sl x6, Dat.sl x7, Dat.sl x8, Dat.sl x9] : List Dat), n) ⟨RdRow.has _ _ _ he0, int_le w1⟩ rfl hr rfl rfl rfl
  have hv : valD (lawHeadingOf_con.args (([Dat.int x0, Dat.int x1, Dat.int x2, Dat.int x3, Dat.sl x4, Dat.sl x5, Dat.sl x6, Dat.sl x7, Dat.sl x8, Dat.sl x9] : List Dat), n)) (cs0.toList ++ ([.int .i64 n])) = [.agg cs0, .int .i64 n] := by
    simp only [lawHeadingOf_con]
    have hn0 := (RdRow.lens _ _ _ he0).2
    rw [valD_agg (by first | exact hn0 | (rw [hn0]; rfl) | (rw [← hn0]; rfl))]
    rw [valD_one]
    all_goals rfl
  rw [hv] at hl
  refine hl.mono fun e W' ⟨he, bel⟩ => ?_
  subst he
  exact ⟨_, rfl, _, _, _, [], _, [], hW', trodAll_mk1 (shut_bool Try.underlying4 _), (trodAll_cons_mk (Below.trod laidOut (by kernel_rfl) (of_decide_eq_true (by kernel_rfl)) k0 bel lt0) (trodAll_cons_mk (shut_int Try.underlying3 w1) trodAll_mk0)), rfl, bel.frame _, fun h => by cases h⟩
theorem over:Rows.fnExactHeadingOfRow.holds Try.pinned (OpenSpec.ofChange Rows.fnExactHeadingOfSpec):=
 OpenClaim.holds_of_wide 5 Try.f5 rfl rfl rfl rfl rfl rfl rfl ⟨rfl,rfl,rfl,rfl,rfl⟩ rfl rfl rfl rfl rfl (by kernel_rfl) Try.func5 (by kernel_rfl)
  (of_decide_eq_true (by kernel_rfl)) (by unfold Func.isWrapper;first|(rw [if_pos (by decide +kernel)];kernel_rfl)|(rw [if_neg (by decide +kernel)];exact ⟨rfl,rfl⟩))
  (fun os started H enc _=>lifted os started H enc)
theorem proved:Rows.FnExactHeadingOfSaid:=over
#print axioms proved
end Go.Proofs.Ytblmlkdefjoebaa.claimHeadingOf
