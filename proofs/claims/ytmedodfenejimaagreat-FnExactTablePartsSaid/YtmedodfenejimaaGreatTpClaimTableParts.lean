import Derived.Test.YtmedodfenejimaaGreatRows
import Derived.Test.YtmedodfenejimaaGreatTpRkLTableParts
import Derived.Test.YtmedodfenejimaaGreatTpExD
import Derived.Test.YtmedodfenejimaaGreatTpJoinTableParts
import Derived.WalkKit
import Derived.ProofKit
import Derived.OpenShut
import Derived.ShutString
import Derived.ChangeOld
import Derived.Below
namespace Go.Proofs.YtmedodfenejimaaGreat.claimTableParts
open Go.ChangeShapes Go.WideShapes Go.ChangeAt Go.RowKit
set_option linter.unusedVariables false
set_option linter.unusedSimpArgs false
theorem own:ownKnob Tryz.prog.godebug=none:=by kernel_rfl
theorem laidOut:laidOutB Tryz.prog=true:=by kernel_rfl
set_option maxRecDepth 100000 in
theorem lifted (os : Os) (started : os.Started) (H : Type) (enc : TypeId × Value → H) :
    ReturnsInHanded {} Tryz.checked os 3 .any (Rows.fnExactTablePartsSpec.pre6 enc Tryz.prog Tryz.f3 Rows.fnExactTablePartsRow.domain false) (Rows.fnExactTablePartsSpec.post enc Tryz.prog Tryz.f3 false true false false) := by
  refine returnsInHanded_of_change (C := Tryz.checked) own started (by kernel_rfl) Tryz.func3
    (ChangeSpec.witness6 (enc := enc) (C := Tryz.checked) false ⟨#[], #[.agg #[.int .i64 0, .int .i64 0, .int .i64 0, .int .i64 0, .slice none 0 0, .slice none 0 0, .slice none 0 0], .agg #[.int .i64 0, .bool false, .int .i64 0, .int .i64 0, .int .i64 0, .int .i64 0, .slice none 0 0, .slice none 0 0, .slice none 0 0, .slice none 0 0, .slice none 0 0]], []⟩ 8 (by kernel_rfl) (by kernel_rfl) (by kernel_rfl) (by kernel_rfl)) ?_
  intro W base args ds gs before hval0 hW hcnd _
  have hval : ∀ (j : Nat) t v, Tryz.f3.params[j]? = some t → args[j]? = some v → Value.okWide Tryz.prog W .any base t v := hval0
  have hW' := hW
  obtain ⟨p, q, hA0, hV, rfl, hfz, hnd⟩ := hW
  have hA : DataW.TrodAll enc Tryz.prog W 0 (fun _ => true) true Tryz.f3.params.toList args.toList ds p := hA0
  rw [Tryz.params3] at hA hval
  obtain ⟨v0, vs0, d0, ds0, p0, q0, hargs, rfl, rfl, h0, r0⟩ := trodAll_cons hA
  obtain ⟨v1, vs1, d1, ds1, p1, q1, rfl, rfl, rfl, h1, r1⟩ := trodAll_cons r0
  obtain ⟨rfl, rfl, rfl⟩ := trodAll_nil r1
  obtain rfl : args = #[v0, v1] := by cases args; simp_all
  obtain ⟨rfl, rfl⟩ := trodVars_none hV
  have k0 := h0
  have lt0 : ∀ x ∈ p0, x.block < W.heap.size := by obtain ⟨m, hm⟩ := k0; exact DataW.trod_lt m _ _ _ hm
  obtain ⟨cs0, rfl, _⟩ := okWide_struct Tryz.underlying27 (hval 0 27 v0 rfl rfl)
  obtain ⟨e0, he0⟩ : ∃ ds, RdRow W [.int, .int, .int, .int, .sl 23 [.int, .int], .sl 24 [.sl 23 [.int, .int]], .sl 23 [.int, .int]] ds cs0.toList := by
    obtain ⟨fuel, hf⟩ := h0
    exact (T7 AF 9 _ [.int, .int, .int, .int, .sl 23 [.int, .int], .sl 24 [.sl 23 [.int, .int]], .sl 23 [.int, .int]] _ _ _ (by kernel_rfl) (by simpa [Value.cells] using hf)).imp fun _ h => h.cast rfl
  have hx0 := fun (i : Nat) (hi : ([.int, .int, .int, .int, .sl 23 [.int, .int], .sl 24 [.sl 23 [.int, .int]], .sl 23 [.int, .int]] : List Ty)[i]? = some .int) => NB Tryz.underlying27 (hval 0 27 _ rfl rfl) he0 hi
  obtain ⟨s, rfl⟩ : ∃ s : Scn, e0 = Dc s := TA (RdRow.has _ _ _ he0)
  have k1 := h1
  have lt1 : ∀ x ∈ p1, x.block < W.heap.size := by obtain ⟨m, hm⟩ := k1; exact DataW.trod_lt m _ _ _ hm
  obtain ⟨cs1, rfl, _⟩ := okWide_struct Tryz.underlying35 (hval 1 35 v1 rfl rfl)
  obtain ⟨e1, he1⟩ : ∃ ds, RdRow W [.int, .bool, .int, .int, .int, .int, .sl 24 [.sl 23 [.int, .int]], .sl 161 [.bool, .sl 3 [.int], .sl 3 [.int], .bool, .sl 3 [.int], .sl 3 [.int], .bool, .sl 3 [.int], .sl 3 [.int], .bool, .sl 3 [.int], .sl 3 [.int], .bool, .sl 3 [.int], .sl 3 [.int], .bool, .sl 3 [.int], .sl 3 [.int]], .sl 164 [.bool, .sl 3 [.int], .sl 3 [.int], .bool, .sl 3 [.int], .sl 3 [.int], .bool, .sl 3 [.int], .sl 3 [.int]], .sl 172 [.int, .int], .sl 3 [.int]] ds cs1.toList := by
    obtain ⟨fuel, hf⟩ := h1
    exact (T7 AF 9 _ [.int, .bool, .int, .int, .int, .int, .sl 24 [.sl 23 [.int, .int]], .sl 161 [.bool, .sl 3 [.int], .sl 3 [.int], .bool, .sl 3 [.int], .sl 3 [.int], .bool, .sl 3 [.int], .sl 3 [.int], .bool, .sl 3 [.int], .sl 3 [.int], .bool, .sl 3 [.int], .sl 3 [.int], .bool, .sl 3 [.int], .sl 3 [.int]], .sl 164 [.bool, .sl 3 [.int], .sl 3 [.int], .bool, .sl 3 [.int], .sl 3 [.int], .bool, .sl 3 [.int], .sl 3 [.int]], .sl 172 [.int, .int], .sl 3 [.int]] _ _ _ (by kernel_rfl) (by simpa [Value.cells] using hf)).imp fun _ h => h.cast rfl
  have hx1 := fun (i : Nat) (hi : ([.int, .bool, .int, .int, .int, .int, .sl 24 [.sl 23 [.int, .int]], .sl 161 [.bool, .sl 3 [.int], .sl 3 [.int], .bool, .sl 3 [.int], .sl 3 [.int], .bool, .sl 3 [.int], .sl 3 [.int], .bool, .sl 3 [.int], .sl 3 [.int], .bool, .sl 3 [.int], .sl 3 [.int], .bool, .sl 3 [.int], .sl 3 [.int]], .sl 164 [.bool, .sl 3 [.int], .sl 3 [.int], .bool, .sl 3 [.int], .sl 3 [.int], .bool, .sl 3 [.int], .sl 3 [.int]], .sl 172 [.int, .int], .sl 3 [.int]] : List Ty)[i]? = some .int) => NB Tryz.underlying35 (hval 1 35 _ rfl rfl) he1 hi
  obtain ⟨x0, x1, x2, x3, x4, x5, x6, x7, x8, x9, x10, rfl⟩ : ∃ (x0 : Int) (x1 : Bool) (x2 : Int) (x3 : Int) (x4 : Int) (x5 : Int) (x6 : List (List Dat)) (x7 : List (List Dat)) (x8 : List (List Dat)) (x9 : List (List Dat)) (x10 : List (List Dat)), e1 = [Dat.int x0, Dat.bool x1, Dat.int x2, Dat.int x3, Dat.int x4, Dat.int x5, Dat.sl x6, Dat.sl x7, Dat.sl x8, Dat.sl x9, Dat.sl x10] := ⟨_, _, _, _, _, _, _, _, _, _, _, KP (RdRow.has _ _ _ he1)⟩
  clear hA0 hval0
  have hr := RdRow.app _ _ _ he0 (he1)
  have hl := VA LN rfl (s, ([Dat.int x0, Dat.bool x1, Dat.int x2, Dat.int x3, Dat.int x4, Dat.int x5, Dat.sl x6, Dat.sl x7, Dat.sl x8, Dat.sl x9, Dat.sl x10] : List Dat)) ⟨RdRow.has _ _ _ he0, RdRow.has _ _ _ he1⟩ rfl hr rfl rfl rfl
  have hv : DD (EI.args (s, ([Dat.int x0, Dat.bool x1, Dat.int x2, Dat.int x3, Dat.int x4, Dat.int x5, Dat.sl x6, Dat.sl x7, Dat.sl x8, Dat.sl x9, Dat.sl x10] : List Dat))) (cs0.toList ++ (cs1.toList)) = [.agg cs0, .agg cs1] := by
    simp only [EI]
    have hn0 := (RdRow.lens _ _ _ he0).2
    rw [W1 (by first | exact hn0 | (rw [hn0]; rfl) | (rw [← hn0]; rfl))]
    have hn1 := (RdRow.lens _ _ _ he1).2
    rw [HN (by first | exact hn1 | (rw [hn1]; rfl) | (rw [← hn1]; rfl))]
  rw [hv] at hl
  refine hl.mono fun e W' ⟨he, bel⟩ => ?_
  subst he
  exact ⟨_, rfl, _, _, _, [], _, [], hW', trodAll_mk1 (shut_bool Tryz.underlying4 _), (trodAll_cons_mk (Below.trod laidOut (by kernel_rfl) (of_decide_eq_true (by kernel_rfl)) k0 bel lt0) (trodAll_cons_mk (Below.trod laidOut (by kernel_rfl) (of_decide_eq_true (by kernel_rfl)) k1 bel lt1) trodAll_mk0)), rfl, bel.frame _, fun h => by cases h⟩
theorem over:Rows.fnExactTablePartsRow.holds Tryz.pinned (OpenSpec.ofChange Rows.fnExactTablePartsSpec):=
 OpenClaim.holds_of_wide 3 Tryz.f3 rfl rfl rfl rfl rfl rfl rfl ⟨rfl,rfl,rfl,rfl,rfl⟩ rfl rfl rfl rfl rfl (by kernel_rfl) Tryz.func3 Zp
  (of_decide_eq_true (by kernel_rfl)) (by unfold Func.isWrapper;first|(rw [if_pos (by decide +kernel)];kernel_rfl)|(rw [if_neg (by decide +kernel)];exact ⟨rfl,rfl⟩))
  (λ os started H enc _=>lifted os started H enc)
theorem proved:Rows.FnExactTablePartsSaid:=over
#print axioms proved
end Go.Proofs.YtmedodfenejimaaGreat.claimTableParts
