import Derived.Test.YtdgmbbjoifneiaaGreatDoorRows
import Derived.Test.YtdgmbbjoifneiaaGreatDoorPyRkLFnPolygons
import Derived.Test.YtdgmbbjoifneiaaGreatDoorPyExE
import Derived.Test.YtdgmbbjoifneiaaGreatDoorPyCsh
import Derived.Test.YtdgmbbjoifneiaaGreatDoorPyJoinFnPolygons
import Derived.Test.YtdgmbbjoifneiaaGreatDoorTie
import Derived.Test.YtdgmbbjoifneiaaGreatDoorCards
import Derived.SevenTiedAt
import Derived.LaidMore
import Derived.Stop.Joined
import Derived.Stop.LaidErr
import Derived.Lib.LaidTab
import Derived.Lay
import Derived.WalkKit
import Derived.ProofKit
import Derived.OpenShut
import Derived.ShutString
import Derived.ChangeOld
import Derived.Below
namespace Go.Proofs.YtdgmbbjoifneiaaGreatDoor.claimFnPolygons
open Go.ChangeShapes Go.WideShapes Go.ChangeAt Go.RowKit
set_option linter.unusedVariables false
set_option linter.unusedSimpArgs false
theorem own:ownKnob Tryz.prog.godebug=none:=by kernel_rfl
theorem laidOut:laidOutB Tryz.prog=true:=by kernel_rfl
theorem plainL (W:World):laidMetH Tryz.prog Rows.fnPolygonsRow.laid W=laidMet Tryz.prog Rows.fnPolygonsRow.laid W:=MakeChecks.laidMetH_plain _ _ _ (by kernel_rfl)
theorem door_met (os:Os) (args:Array Value):laidMetH Tryz.prog Rows.fnPolygonsRow.laid ((World.laidAll Tryz.prog os Rows.fnPolygonsRow.laid).forCall (λ _ _=>0) ⟨#[],args,[]⟩).memory:=by
 rw [plainL];exact laidMet_laidAll _ (by kernel_rfl) (by kernel_rfl)
theorem stood_of {W:World} (hS:W.ShapedOpen Tryz.prog) (h:laidMet Tryz.prog Rows.fnPolygonsRow.laid W):Stood W:=by
 obtain ⟨m,t0,f0,h0⟩:=SF (g:=0) (k:=.i64) hS (of_decide_eq_true (by kernel_rfl)) (zero:=#[.int .i64 0]) (t:=3) (by kernel_rfl) rfl (by kernel_rfl) (by kernel_rfl) Tryz.underlying3
 obtain ⟨t,fr,h1⟩:=SE (Lib.tabIs_of_head (by kernel_rfl:Tryz.prog.globalNamed "internal/strconv.uint64pow10" = some 5) (by kernel_rfl:(Tryz.prog.globals[5]?).map (·.type)=some 166) Tryz.underlying166 Tryz.underlying146 (by kernel_rfl) (by kernel_rfl) (laidMet.tail (laidMet.tail h)):Lib.TabIs Tryz.prog W "internal/strconv.uint64pow10" .u64 Lib.pow10Tab) (by kernel_rfl:Tryz.prog.globalNamed "internal/strconv.uint64pow10" = some 5)
 obtain ⟨u2,p2,t2,f2,h2⟩:=KP (laidMet.tail (laidMet.tail (laidMet.tail (laidMet.tail h)))) (by kernel_rfl:Tryz.prog.globalNamed "strconv.ErrRange" = some 4) (by kernel_rfl:(Tryz.prog.globals[4]?).map (·.type)=some 92) Tryz.underlying92
 obtain ⟨u1,p1,t1,f1,h3⟩:=KP (laidMet.tail (laidMet.tail (laidMet.tail (laidMet.tail (laidMet.tail h))))) (by kernel_rfl:Tryz.prog.globalNamed "strconv.ErrSyntax" = some 3) (by kernel_rfl:(Tryz.prog.globals[3]?).map (·.type)=some 92) Tryz.underlying92
 refine ⟨λ b hb=>?_,m,t0,f0,u1,p1,t1,f1,u2,p2,t2,f2,t,fr,by simp only [stB,List.map_cons,List.map_nil,h0,h1,h2,h3]⟩
 simp only [stB,List.mem_cons,List.not_mem_nil,or_false] at hb
 rcases hb with rfl|rfl|rfl|rfl
 ·exact (Array.getElem?_eq_some_iff.1 h0).1
 ·exact (Array.getElem?_eq_some_iff.1 h3).1
 ·exact (Array.getElem?_eq_some_iff.1 h2).1
 ·exact (Array.getElem?_eq_some_iff.1 h1).1
set_option maxRecDepth 100000 in
theorem lifted (os : Os) (started : os.Started) (H : Type) (enc : TypeId × Value → H) :
    ReturnsInHanded {} Tryz.checked os 3 .any (fun w args => (Rows.fnPolygonsSpec.pre enc Tryz.prog Tryz.f3 [] false w args ∧ laidMetH Tryz.prog Rows.fnPolygonsRow.laid w) ∧ sizedMet enc Tryz.prog Tryz.f3 (OpenSpec.ofChange Rows.fnPolygonsSpec) false w args) (Rows.fnPolygonsSpec.post enc Tryz.prog Tryz.f3 false true false false) := by
  refine Ke (C := Tryz.checked) (X := fun w _ => laidMetH Tryz.prog Rows.fnPolygonsRow.laid w) (fun _ _ _ hh h => h.of_heap hh) own started (by kernel_rfl) Tryz.func3
    (ChangeSpec.witness_shaped (enc := enc) (C := Tryz.checked) (os := os) (X := fun w _ => laidMetH Tryz.prog Rows.fnPolygonsRow.laid w) false (World.laidAll Tryz.prog os Rows.fnPolygonsRow.laid) #[.slice none 0 0] 8 (World.laidAll_os _ _ _) (World.shaped_of_ZipB (by kernel_rfl) (by kernel_rfl)) (by kernel_rfl) (by kernel_rfl) (by kernel_rfl) (door_met os _)) ?_
  intro W base args ds gs before hval0 hW hL hS
  rw [plainL] at hL
  have hst := stood_of hS hL
  have hval : ∀ (j : Nat) t v, Tryz.f3.params[j]? = some t → args[j]? = some v → Value.okWide Tryz.prog W .any base t v := hval0
  have hW' := hW
  obtain ⟨p, q, hA0, hV, rfl, hfz, hnd⟩ := hW
  have hA : DataW.TrodAll enc Tryz.prog W 0 (fun _ => true) true Tryz.f3.params.toList args.toList ds p := hA0
  rw [Tryz.params3] at hA hval
  obtain ⟨v0, vs0, d0, ds0, p0, q0, hargs, rfl, rfl, h0, r0⟩ := trodAll_cons hA
  obtain ⟨rfl, rfl, rfl⟩ := trodAll_nil r0
  obtain rfl : args = #[v0] := by cases args; simp_all
  obtain ⟨rfl, rfl⟩ := trodVars_none hV
  have k0 := h0
  have lt0 : ∀ x ∈ p0, x.block < W.heap.size := by obtain ⟨m, hm⟩ := k0; exact DataW.trod_lt m _ _ _ hm
  have c0 := RL Tryz.underlying22 (hval 0 22 v0 rfl rfl)
  obtain ⟨b, hb0⟩ : ∃ bs : List UInt8, Ef (fun x => x < W.heap.size) W bs v0 := by
    obtain ⟨fuel, hf⟩ := h0
    rw [c0] at hf
    exact O8 Tryz.underlying22 Tryz.underlying5 (by kernel_rfl) hf
  clear hA0 hval0
  have hl := O9 SD rfl b trivial rfl rfl hb0 hst
  refine hl.mono fun e W' ⟨he, bel⟩ => ?_
  subst he
  exact ⟨_, rfl, _, _, _, [], _, [], hW', trodAll_mk1 (shut_bool Tryz.underlying4 _), (trodAll_cons_mk (Below.trod laidOut (by kernel_rfl) (of_decide_eq_true (by kernel_rfl)) k0 bel lt0) trodAll_mk0), rfl, bel.frame _, fun h => by cases h⟩
theorem over:Rows.fnPolygonsRow.holds Tryz.pinned (OpenSpec.ofChange Rows.fnPolygonsSpec):=
 OpenClaim.holds_of_wide 3 Tryz.f3 rfl rfl rfl rfl rfl rfl rfl ⟨rfl,rfl,rfl,rfl,rfl⟩ rfl rfl rfl rfl rfl (by kernel_rfl) Tryz.func3 W3
  (of_decide_eq_true (by kernel_rfl)) (by unfold Func.isWrapper;first|(rw [if_pos (by decide +kernel)];kernel_rfl)|(rw [if_neg (by decide +kernel)];exact ⟨rfl,rfl⟩))
  (λ os started H enc _=>lifted os started H enc)
theorem noIn:∀ (j:Nat) t,#[22][j]?=some t->Tryz.prog.wantsStandIn t=false:=by
 intro j t ht
 have hm:t ∈ [22]:=by have:=List.mem_of_getElem? (l:=[22]) (i:=j) (a:=t) (by simpa using ht);exact this
 have h0:([22].all λ t=>!(Tryz.prog.wantsStandIn t))=true:=by kernel_rfl
 have:=List.all_eq_true.1 h0 t hm
 cases hq:Tryz.prog.wantsStandIn t
 ·rfl
 ·rw [hq] at this;cases this
theorem proved:Rows.FnPolygonsCardSaid:=
 Claim7.holds_tied_plain_at .later [] [.data,.data,.data,.data,.sentinel,.sentinel,.pinned] true (true, "f25557dfd308f9873b58b6b286a9cdb2b721285b61b8ade3527a483430a1fa43") true
  over (λ _ h=>by cases h) (by kernel_rfl) (λ _ h=>by cases h) fnPolygons_row_tie rfl ⟨rfl,rfl⟩ (by kernel_rfl) rfl
  (λ f fn hf hfn=>by
   obtain rfl:f=3:=Option.some.inj ((show Tryz.prog.funcNamed Rows.fnPolygonsRow.func=some 3 by kernel_rfl).symm.trans hf) |>.symm
   obtain rfl:fn=Tryz.f3:=(Option.some.inj (Tryz.func3.symm.trans hfn)).symm
   exact ⟨by kernel_rfl,λ j t ht=>noIn j t (by rw [Tryz.params3] at ht;exact ht)⟩)
  (by kernel_rfl)
#print axioms proved
end Go.Proofs.YtdgmbbjoifneiaaGreatDoor.claimFnPolygons
