import Derived.Test.YtlejeadlmpkffaaGreatRows
import Derived.Test.YtlejeadlmpkffaaGreatMaRkLIsFreeMove
import Derived.Test.YtlejeadlmpkffaaGreatMaExD
import Derived.Test.YtlejeadlmpkffaaGreatMaJoinIsFreeMove
import Derived.WalkKit
import Derived.ProofKit
import Derived.OpenShut
import Derived.ShutString
import Derived.ChangeOld
import Derived.Below
namespace Go.Proofs.YtlejeadlmpkffaaGreat.claimIsFreeMove
open Go.ChangeShapes Go.WideShapes Go.ChangeAt Go.RowKit
set_option linter.unusedVariables false
set_option linter.unusedSimpArgs false
theorem own:ownKnob Tryz.prog.godebug=none:=by kernel_rfl
theorem laidOut:laidOutB Tryz.prog=true:=by kernel_rfl
set_option maxRecDepth 100000 in
theorem lifted (os : Os) (started : os.Started) (H : Type) (enc : TypeId × Value → H) :
    ReturnsInHanded {} Tryz.checked os 3 .any (Rows.fnExactIsFreeMoveSpec.pre6 enc Tryz.prog Tryz.f3 Rows.fnExactIsFreeMoveRow.domain false) (Rows.fnExactIsFreeMoveSpec.post enc Tryz.prog Tryz.f3 false true false false) := by
  refine returnsInHanded_of_change (C := Tryz.checked) own started (by kernel_rfl) Tryz.func3
    (ChangeSpec.witness6 (enc := enc) (C := Tryz.checked) false ⟨#[], #[.agg #[.int .i64 0, .int .i64 0, .int .i64 0, .int .i64 0, .slice none 0 0, .slice none 0 0, .slice none 0 0], .int .i64 0, .agg #[.bool false, .slice none 0 0, .slice none 0 0, .bool false, .slice none 0 0, .slice none 0 0], .agg #[.bool false, .slice none 0 0, .slice none 0 0, .bool false, .slice none 0 0, .slice none 0 0]], []⟩ 8 (by kernel_rfl) (by kernel_rfl) (by kernel_rfl) (by kernel_rfl)) ?_
  intro W base args ds gs before hval0 hW hcnd _
  have hval : ∀ (j : Nat) t v, Tryz.f3.params[j]? = some t → args[j]? = some v → Value.okWide Tryz.prog W .any base t v := hval0
  have hW' := hW
  obtain ⟨p, q, hA0, hV, rfl, hfz, hnd⟩ := hW
  have hA : DataW.TrodAll enc Tryz.prog W 0 (fun _ => true) true Tryz.f3.params.toList args.toList ds p := hA0
  rw [Tryz.params3] at hA hval
  obtain ⟨v0, vs0, d0, ds0, p0, q0, hargs, rfl, rfl, h0, r0⟩ := trodAll_cons hA
  obtain ⟨v1, vs1, d1, ds1, p1, q1, rfl, rfl, rfl, h1, r1⟩ := trodAll_cons r0
  obtain ⟨v2, vs2, d2, ds2, p2, q2, rfl, rfl, rfl, h2, r2⟩ := trodAll_cons r1
  obtain ⟨v3, vs3, d3, ds3, p3, q3, rfl, rfl, rfl, h3, r3⟩ := trodAll_cons r2
  obtain ⟨rfl, rfl, rfl⟩ := trodAll_nil r3
  obtain rfl : args = #[v0, v1, v2, v3] := by cases args; simp_all
  obtain ⟨rfl, rfl⟩ := trodVars_none hV
  have k0 := h0
  have lt0 : ∀ x ∈ p0, x.block < W.heap.size := by obtain ⟨m, hm⟩ := k0; exact DataW.trod_lt m _ _ _ hm
  obtain ⟨cs0, rfl, _⟩ := okWide_struct Tryz.underlying27 (hval 0 27 v0 rfl rfl)
  obtain ⟨e0, he0⟩ : ∃ ds, RdRow W [.int, .int, .int, .int, .sl 38 [.int, .int], .sl 39 [.sl 38 [.int, .int]], .sl 38 [.int, .int]] ds cs0.toList := by
    obtain ⟨fuel, hf⟩ := h0
    exact (trod_rd tt_ok 9 _ [.int, .int, .int, .int, .sl 23 [.int, .int], .sl 24 [.sl 23 [.int, .int]], .sl 23 [.int, .int]] _ _ _ (by kernel_rfl) (by simpa [Value.cells] using hf)).imp fun _ h => h.cast rfl
  have hx0 := fun (i : Nat) (hi : ([.int, .int, .int, .int, .sl 38 [.int, .int], .sl 39 [.sl 38 [.int, .int]], .sl 38 [.int, .int]] : List Ty)[i]? = some .int) => okWide_dat Tryz.underlying27 (hval 0 27 _ rfl rfl) he0 hi
  obtain ⟨s, rfl⟩ : ∃ s : Scn, e0 = scnD s := scn_of_has (RdRow.has _ _ _ he0)
  obtain ⟨h, rfl, rfl, rfl, w1⟩ := open_int Tryz.underlying3 (hval 1 3 v1 rfl rfl) h1
  have k2 := h2
  have lt2 : ∀ x ∈ p2, x.block < W.heap.size := by obtain ⟨m, hm⟩ := k2; exact DataW.trod_lt m _ _ _ hm
  obtain ⟨cs2, rfl, _⟩ := okWide_struct Tryz.underlying34 (hval 2 34 v2 rfl rfl)
  obtain ⟨e2, he2⟩ : ∃ ds, RdRow W [.bool, .sl 3 [.int], .sl 3 [.int], .bool, .sl 3 [.int], .sl 3 [.int]] ds cs2.toList := by
    obtain ⟨fuel, hf⟩ := h2
    exact (trod_rd tt_ok 9 _ [.bool, .sl 3 [.int], .sl 3 [.int], .bool, .sl 3 [.int], .sl 3 [.int]] _ _ _ (by kernel_rfl) (by simpa [Value.cells] using hf)).imp fun _ h => h.cast rfl
  have hx2 := fun (i : Nat) (hi : ([.bool, .sl 3 [.int], .sl 3 [.int], .bool, .sl 3 [.int], .sl 3 [.int]] : List Ty)[i]? = some .int) => okWide_dat Tryz.underlying34 (hval 2 34 _ rfl rfl) he2 hi
  obtain ⟨p, rfl⟩ : ∃ p : PtD, e2 = ptD p := ⟨ptOf e2, ptD_eta (RdRow.has _ _ _ he2)⟩
  have k3 := h3
  have lt3 : ∀ x ∈ p3, x.block < W.heap.size := by obtain ⟨m, hm⟩ := k3; exact DataW.trod_lt m _ _ _ hm
  obtain ⟨cs3, rfl, _⟩ := okWide_struct Tryz.underlying34 (hval 3 34 v3 rfl rfl)
  obtain ⟨e3, he3⟩ : ∃ ds, RdRow W [.bool, .sl 3 [.int], .sl 3 [.int], .bool, .sl 3 [.int], .sl 3 [.int]] ds cs3.toList := by
    obtain ⟨fuel, hf⟩ := h3
    exact (trod_rd tt_ok 9 _ [.bool, .sl 3 [.int], .sl 3 [.int], .bool, .sl 3 [.int], .sl 3 [.int]] _ _ _ (by kernel_rfl) (by simpa [Value.cells] using hf)).imp fun _ h => h.cast rfl
  have hx3 := fun (i : Nat) (hi : ([.bool, .sl 3 [.int], .sl 3 [.int], .bool, .sl 3 [.int], .sl 3 [.int]] : List Ty)[i]? = some .int) => okWide_dat Tryz.underlying34 (hval 3 34 _ rfl rfl) he3 hi
  obtain ⟨q, rfl⟩ : ∃ p : PtD, e3 = ptD p := ⟨ptOf e3, ptD_eta (RdRow.has _ _ _ he3)⟩
  clear hA0 hval0
  have hr := RdRow.app _ _ _ he0 (RdRow.app _ _ _ (RdRow.mk_cons (Rd.mk_int h) RdRow.mk_nil : RdRow W [.int] [.int h] [.int .i64 h]) (RdRow.app _ _ _ he2 (he3)))
  have hl := law_calls lawIsFreeMove_ok rfl (s, h, p, q) ⟨RdRow.has _ _ _ he0, RdRow.has _ _ _ he2, RdRow.has _ _ _ he3⟩ rfl hr rfl rfl rfl
  have hv : valD (lawIsFreeMove_con.args (s, h, p, q)) (cs0.toList ++ ([.int .i64 h] ++ (cs2.toList ++ (cs3.toList)))) = [.agg cs0, .int .i64 h, .agg cs2, .agg cs3] := by
    simp only [lawIsFreeMove_con]
    have hn0 := (RdRow.lens _ _ _ he0).2
    rw [valD_agg (by first | exact hn0 | (rw [hn0]; rfl) | (rw [← hn0]; rfl))]
    rw [List.singleton_append, valD_one]
    have hn2 := (RdRow.lens _ _ _ he2).2
    rw [valD_agg (by first | exact hn2 | (rw [hn2]; rfl) | (rw [← hn2]; rfl))]
    have hn3 := (RdRow.lens _ _ _ he3).2
    rw [valD_one_agg (by first | exact hn3 | (rw [hn3]; rfl) | (rw [← hn3]; rfl))]
  rw [hv] at hl
  refine hl.mono fun e W' ⟨he, bel⟩ => ?_
  subst he
  exact ⟨_, rfl, _, _, _, [], _, [], hW', trodAll_mk1 (shut_bool Tryz.underlying4 _), (trodAll_cons_mk (Below.trod laidOut (by kernel_rfl) (of_decide_eq_true (by kernel_rfl)) k0 bel lt0) (trodAll_cons_mk (shut_int Tryz.underlying3 w1) (trodAll_cons_mk (Below.trod laidOut (by kernel_rfl) (of_decide_eq_true (by kernel_rfl)) k2 bel lt2) (trodAll_cons_mk (Below.trod laidOut (by kernel_rfl) (of_decide_eq_true (by kernel_rfl)) k3 bel lt3) trodAll_mk0)))), rfl, bel.frame _, fun h => by cases h⟩
theorem over:Rows.fnExactIsFreeMoveRow.holds Tryz.pinned (OpenSpec.ofChange Rows.fnExactIsFreeMoveSpec):=
 OpenClaim.holds_of_wide 3 Tryz.f3 rfl rfl rfl rfl rfl rfl rfl ⟨rfl,rfl,rfl,rfl,rfl⟩ rfl rfl rfl rfl rfl (by kernel_rfl) Tryz.func3 closed
  (of_decide_eq_true (by kernel_rfl)) (by unfold Func.isWrapper;first|(rw [if_pos (by decide +kernel)];kernel_rfl)|(rw [if_neg (by decide +kernel)];exact ⟨rfl,rfl⟩))
  (λ os started H enc _=>lifted os started H enc)
theorem proved:Rows.FnExactIsFreeMoveSaid:=over
#print axioms proved
end Go.Proofs.YtlejeadlmpkffaaGreat.claimIsFreeMove
