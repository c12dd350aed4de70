import Derived.Test.YtgggkcoljpimcaaDoorRows
import Derived.Test.YtgggkcoljpimcaaDoorCkRkLSceneChecksum
import Derived.Test.YtgggkcoljpimcaaDoorCkExD
import Derived.Test.YtgggkcoljpimcaaDoorTie
import Derived.Test.YtgggkcoljpimcaaDoorCards
import Derived.SevenTiedAt
import Derived.LaidMore
import Derived.Stop.Joined
import Derived.Stop.LaidErr
import Derived.Lib.LaidTab
import Derived.WalkKit
import Derived.ProofKit
import Derived.OpenShut
import Derived.ShutString
import Derived.ChangeOld
import Derived.Below
namespace Go.Proofs.YtgggkcoljpimcaaDoor.claimSceneChecksum
open Go.ChangeShapes Go.WideShapes Go.ChangeAt Go.RowKit
set_option linter.unusedVariables false
set_option linter.unusedSimpArgs false
theorem own:ownKnob Tryd.prog.godebug=none:=by kernel_rfl
theorem laidOut:laidOutB Tryd.prog=true:=by kernel_rfl
theorem plainL (W:World):laidMetH Tryd.prog Rows.fnExactSceneChecksumRow.laid W=laidMet Tryd.prog Rows.fnExactSceneChecksumRow.laid W:=MakeChecks.laidMetH_plain _ _ _ (by kernel_rfl)
theorem door_met (os:Os) (args:Array Value):laidMetH Tryd.prog Rows.fnExactSceneChecksumRow.laid ((World.doorLaid Tryd.prog 24 os).forCall (λ _ _=>0) ⟨#[],args,[]⟩).memory:=
 laidMetH_of_parts3 (fuel:=8) (laidMet_of_run' 8 (by kernel_rfl) (by kernel_rfl)) (by kernel_rfl) (by kernel_rfl)
theorem stood_of {W:World} (h:laidMet Tryd.prog Rows.fnExactSceneChecksumRow.laid W):Stood W:=by
 have hT:Lib.TabIs Tryd.prog W "internal/strconv.uint64pow10" .u64 Lib.pow10Tab:=Lib.tabIs_of_head (by kernel_rfl:Tryd.prog.globalNamed "internal/strconv.uint64pow10" = some 1) (by kernel_rfl:(Tryd.prog.globals[1]?).map (·.type)=some 88) Tryd.underlying88 Tryd.underlying81 (by kernel_rfl) (by kernel_rfl) (laidMet.tail (laidMet.tail h))
 unfold Lib.TabIs World.var? at hT
 rw [show Tryd.prog.globalNamed "internal/strconv.uint64pow10" = some 1 by kernel_rfl] at hT
 simp only [Option.bind_some] at hT
 split at hT
 ·rename_i cs t fr hh
  refine ⟨λ b hb=>?_,t,fr,?_⟩
  ·simp only [stB,List.mem_singleton] at hb
   subst hb
   exact (Array.getElem?_eq_some_iff.1 hh).1
  ·simp only [stB,List.map_cons,List.map_nil,hh]
   rw [Option.some.inj hT]
 ·cases hT
set_option maxRecDepth 100000 in
theorem lifted (os : Os) (started : os.Started) (H : Type) (enc : TypeId × Value → H) :
    ReturnsInHanded {} Tryd.checked os 5 .any (fun w args => (Rows.fnExactSceneChecksumSpec.pre enc Tryd.prog Tryd.f5 [] false w args ∧ laidMetH Tryd.prog Rows.fnExactSceneChecksumRow.laid w) ∧ sizedMet enc Tryd.prog Tryd.f5 (OpenSpec.ofChange Rows.fnExactSceneChecksumSpec) false w args) (Rows.fnExactSceneChecksumSpec.post enc Tryd.prog Tryd.f5 false true false false) := by
  refine returnsInHanded_of_change_and (C := Tryd.checked) (X := fun w _ => laidMetH Tryd.prog Rows.fnExactSceneChecksumRow.laid w) (fun _ _ _ hh h => h.of_heap hh) own started (by kernel_rfl) Tryd.func5
    (ChangeSpec.witness_shaped (enc := enc) (C := Tryd.checked) (os := os) (X := fun w _ => laidMetH Tryd.prog Rows.fnExactSceneChecksumRow.laid w) false (World.doorLaid Tryd.prog 24 os) #[.agg #[.int .i64 0, .int .i64 0, .int .i64 0, .int .i64 0, .slice none 0 0, .slice none 0 0, .slice none 0 0]] 8 rfl (World.shaped_of_RefB (by kernel_rfl) (by kernel_rfl)) (by kernel_rfl) (by kernel_rfl) (by kernel_rfl) (door_met os _)) ?_
  intro W base args ds gs before hval0 hW _ _ hL _
  rw [plainL] at hL
  have hst := stood_of hL
  have hval : ∀ (j : Nat) t v, Tryd.f5.params[j]? = some t → args[j]? = some v → Value.okWide Tryd.prog W .any base t v := hval0
  have hW' := hW
  obtain ⟨p, q, hA0, hV, rfl, hfz, hnd⟩ := hW
  have hA : DataW.TrodAll enc Tryd.prog W 0 (fun _ => true) true Tryd.f5.params.toList args.toList ds p := hA0
  rw [Tryd.params5] at hA hval
  obtain ⟨v0, vs0, d0, ds0, p0, q0, hargs, rfl, rfl, h0, r0⟩ := trodAll_cons hA
  obtain ⟨rfl, rfl, rfl⟩ := trodAll_nil r0
  obtain rfl : args = #[v0] := by cases args; simp_all
  obtain ⟨rfl, rfl⟩ := trodVars_none hV
  have k0 := h0
  have lt0 : ∀ x ∈ p0, x.block < W.heap.size := by obtain ⟨m, hm⟩ := k0; exact DataW.trod_lt m _ _ _ hm
  obtain ⟨cs0, rfl, _⟩ := okWide_struct Tryd.underlying33 (hval 0 33 v0 rfl rfl)
  obtain ⟨e0, he0⟩ : ∃ ds, RdRow W [.int, .int, .int, .int, .sl 36 [.int, .int], .sl 25 [.sl 36 [.int, .int]], .sl 36 [.int, .int]] ds cs0.toList := by
    obtain ⟨fuel, hf⟩ := h0
    exact (MY Bp 9 _ [.int, .int, .int, .int, .sl 30 [.int, .int], .sl 22 [.sl 30 [.int, .int]], .sl 30 [.int, .int]] _ _ _ (by kernel_rfl) (by simpa [Value.cells] using hf)).imp fun _ h => h.cast rfl
  have hx0 := fun (i : Nat) (hi : ([.int, .int, .int, .int, .sl 36 [.int, .int], .sl 25 [.sl 36 [.int, .int]], .sl 36 [.int, .int]] : List Ty)[i]? = some .int) => Jh Tryd.underlying33 (hval 0 33 _ rfl rfl) he0 hi
  obtain ⟨s, rfl⟩ : ∃ s : Scn, e0 = Hf s := Jn (RdRow.has _ _ _ he0)
  clear hA0 hval0
  have hr := he0
  have hl := Kp DP rfl s (RdRow.has _ _ _ he0) rfl hr rfl rfl rfl hst
  have hv : Am (Au.args s) (cs0.toList) = [.agg cs0] := by
    simp only [Au]
    have hn0 := (RdRow.lens _ _ _ he0).2
    rw [Ba (by first | exact hn0 | (rw [hn0]; rfl) | (rw [← hn0]; rfl))]
    all_goals rfl
  rw [hv] at hl
  refine hl.mono fun e W' ⟨he, bel⟩ => ?_
  subst he
  exact ⟨_, rfl, _, _, _, [], _, [], hW', trodAll_mk1 (shut_bool Tryd.underlying4 _), (trodAll_cons_mk (Below.trod laidOut (by kernel_rfl) (of_decide_eq_true (by kernel_rfl)) k0 bel lt0) trodAll_mk0), rfl, bel.frame _, fun h => by cases h⟩
theorem over:Rows.fnExactSceneChecksumRow.holds Tryd.pinned (OpenSpec.ofChange Rows.fnExactSceneChecksumSpec):=
 OpenClaim.holds_of_wide 5 Tryd.f5 rfl rfl rfl rfl rfl rfl rfl ⟨rfl,rfl,rfl,rfl,rfl⟩ rfl rfl rfl rfl rfl (by kernel_rfl) Tryd.func5 (by kernel_rfl)
  (of_decide_eq_true (by kernel_rfl)) (by unfold Func.isWrapper;first|(rw [if_pos (by decide +kernel)];kernel_rfl)|(rw [if_neg (by decide +kernel)];exact ⟨rfl,rfl⟩))
  (λ os started H enc _=>lifted os started H enc)
theorem noIn:∀ (j:Nat) t,#[33][j]?=some t->Tryd.prog.wantsStandIn t=false:=by
 intro j t ht
 have hm:t ∈ [33]:=by have:=List.mem_of_getElem? (l:=[33]) (i:=j) (a:=t) (by simpa using ht);exact this
 have h0:([33].all λ t=>!(Tryd.prog.wantsStandIn t))=true:=by kernel_rfl
 have:=List.all_eq_true.1 h0 t hm
 cases hq:Tryd.prog.wantsStandIn t
 ·rfl
 ·rw [hq] at this;cases this
theorem proved:Rows.FnExactSceneChecksumCardSaid:=
 Claim7.holds_tied_plain_at .later [] [.data,.data,.data] true (true, "75b46b1db571b4b89252af226afc55d9985b387aea1b107c75179e14e1c227e5") false
  over (λ _ h=>by cases h) (by kernel_rfl) (λ _ h=>by cases h) fnExactSceneChecksum_row_tie rfl ⟨rfl,rfl⟩ (by kernel_rfl) rfl
  (λ f fn hf hfn=>by
   obtain rfl:f=5:=Option.some.inj ((show Tryd.prog.funcNamed Rows.fnExactSceneChecksumRow.func=some 5 by kernel_rfl).symm.trans hf) |>.symm
   obtain rfl:fn=Tryd.f5:=(Option.some.inj (Tryd.func5.symm.trans hfn)).symm
   exact ⟨by kernel_rfl,λ j t ht=>noIn j t (by rw [Tryd.params5] at ht;exact ht)⟩)
  (by kernel_rfl)
#print axioms proved
end Go.Proofs.YtgggkcoljpimcaaDoor.claimSceneChecksum
