import Derived.Test.YtcpjekkiejhgpaaDoorRows
import Derived.Test.YtcpjekkiejhgpaaDoorPpRkLParsePolygon
import Derived.Test.YtcpjekkiejhgpaaDoorPpExD
import Derived.Test.YtcpjekkiejhgpaaDoorPpCsh
import Derived.Test.YtcpjekkiejhgpaaDoorTie
import Derived.Test.YtcpjekkiejhgpaaDoorCards
import Derived.SevenTiedAt
import Derived.LaidMore
import Derived.Stop.Joined
import Derived.Stop.LaidErr
import Derived.Lib.LaidTab
import Derived.Lay
import Derived.WalkKit
import Derived.ProofKit
import Derived.OpenShut
import Derived.ShutString
import Derived.ChangeOld
import Derived.Below
import Derived.ChangeMaps5
namespace Go.Proofs.YtcpjekkiejhgpaaDoor.claimParsePolygon
open Go.ChangeShapes Go.WideShapes Go.ChangeAt Go.RowKit
set_option linter.unusedVariables false
set_option linter.unusedSimpArgs false
theorem own:ownKnob Tryd.prog.godebug=none:=by kernel_rfl
theorem laidOut:laidOutB Tryd.prog=true:=by kernel_rfl
theorem plainL (W:World):laidMetH Tryd.prog Rows.fnExactParsePolygonRow.laid W=laidMet Tryd.prog Rows.fnExactParsePolygonRow.laid W:=MakeChecks.laidMetH_plain _ _ _ (by kernel_rfl)
theorem door_met (os:Os) (args:Array Value):laidMetH Tryd.prog Rows.fnExactParsePolygonRow.laid ((World.laidAll Tryd.prog os Rows.fnExactParsePolygonRow.laid).forCall (λ _ _=>0) ⟨#[],args,[]⟩).memory:=by
 rw [plainL];exact laidMet_laidAll _ (by kernel_rfl) (by kernel_rfl)
theorem stood_of {W:World} (hS:W.ShapedOpen Tryd.prog) (h:laidMet Tryd.prog Rows.fnExactParsePolygonRow.laid W):Stood W:=by
 obtain ⟨m,t0,f0,h0⟩:=Kq (g:=0) (k:=.i64) hS (of_decide_eq_true (by kernel_rfl)) (zero:=#[.int .i64 0]) (t:=3) (by kernel_rfl) rfl (by kernel_rfl) (by kernel_rfl) Tryd.underlying3
 obtain ⟨t,fr,h1⟩:=Kp (Lib.tabIs_of_head (by kernel_rfl:Tryd.prog.globalNamed "internal/strconv.uint64pow10" = some 5) (by kernel_rfl:(Tryd.prog.globals[5]?).map (·.type)=some 95) Tryd.underlying95 Tryd.underlying77 (by kernel_rfl) (by kernel_rfl) (laidMet.tail (laidMet.tail h)):Lib.TabIs Tryd.prog W "internal/strconv.uint64pow10" .u64 Lib.pow10Tab) (by kernel_rfl:Tryd.prog.globalNamed "internal/strconv.uint64pow10" = some 5)
 obtain ⟨u2,p2,t2,f2,h2⟩:=F5 (laidMet.tail (laidMet.tail (laidMet.tail (laidMet.tail h)))) (by kernel_rfl:Tryd.prog.globalNamed "strconv.ErrRange" = some 4) (by kernel_rfl:(Tryd.prog.globals[4]?).map (·.type)=some 50) Tryd.underlying50
 obtain ⟨u1,p1,t1,f1,h3⟩:=F5 (laidMet.tail (laidMet.tail (laidMet.tail (laidMet.tail (laidMet.tail h))))) (by kernel_rfl:Tryd.prog.globalNamed "strconv.ErrSyntax" = some 3) (by kernel_rfl:(Tryd.prog.globals[3]?).map (·.type)=some 50) Tryd.underlying50
 refine ⟨λ b hb=>?_,m,t0,f0,u1,p1,t1,f1,u2,p2,t2,f2,t,fr,by simp only [stB,List.map_cons,List.map_nil,h0,h1,h2,h3]⟩
 simp only [stB,List.mem_cons,List.not_mem_nil,or_false] at hb
 rcases hb with rfl|rfl|rfl|rfl
 ·exact (Array.getElem?_eq_some_iff.1 h0).1
 ·exact (Array.getElem?_eq_some_iff.1 h3).1
 ·exact (Array.getElem?_eq_some_iff.1 h2).1
 ·exact (Array.getElem?_eq_some_iff.1 h1).1
set_option maxRecDepth 100000 in
theorem lifted (os : Os) (started : os.Started) (H : Type) (enc : TypeId × Value → H) :
    ReturnsInHanded {} Tryd.checked os 3 .any (fun w args => (Rows.fnExactParsePolygonSpec.pre enc Tryd.prog Tryd.f3 [] false w args ∧ laidMetH Tryd.prog Rows.fnExactParsePolygonRow.laid w) ∧ sizedMet enc Tryd.prog Tryd.f3 (OpenSpec.ofChange Rows.fnExactParsePolygonSpec) false w args) (Rows.fnExactParsePolygonSpec.post enc Tryd.prog Tryd.f3 false true false false) := by
  refine GJ (C := Tryd.checked) (X := fun w _ => laidMetH Tryd.prog Rows.fnExactParsePolygonRow.laid w) (fun _ _ _ hh h => h.of_heap hh) own started (by kernel_rfl) Tryd.func3
    (ChangeSpec.witness_shaped (enc := enc) (C := Tryd.checked) (os := os) (X := fun w _ => laidMetH Tryd.prog Rows.fnExactParsePolygonRow.laid w) false (World.laidAll Tryd.prog os Rows.fnExactParsePolygonRow.laid) #[.string ⟨#[]⟩] 8 (World.laidAll_os _ _ _) (World.shaped_of_ZipB (by kernel_rfl) (by kernel_rfl)) (by kernel_rfl) (by kernel_rfl) (by kernel_rfl) (door_met os _)) ?_
  intro W base args ds gs before hval0 hW hL hS
  rw [plainL] at hL
  have hst := stood_of hS hL
  have hval : ∀ (j : Nat) t v, Tryd.f3.params[j]? = some t → args[j]? = some v → Value.okWide Tryd.prog W .any base t v := hval0
  have hW' := hW
  obtain ⟨p, q, hA0, hV, rfl, hfz, hnd⟩ := hW
  have hA : DataW.TrodAll enc Tryd.prog W 0 (fun _ => true) true Tryd.f3.params.toList args.toList ds p := hA0
  rw [Tryd.params3] at hA hval
  obtain ⟨v0, vs0, d0, ds0, p0, q0, hargs, rfl, rfl, h0, r0⟩ := trodAll_cons hA
  obtain ⟨rfl, rfl, rfl⟩ := trodAll_nil r0
  obtain rfl : args = #[v0] := by cases args; simp_all
  obtain ⟨rfl, rfl⟩ := trodVars_none hV
  obtain ⟨s, rfl, rfl, rfl, w0⟩ := Go.ChangeMaps.open_string Tryd.underlying9 (hval 0 9 v0 rfl rfl) h0
  clear hA0 hval0
  have hr := (RdRow.mk_cons (Rd.mk_str s) RdRow.mk_nil : RdRow W [.str] [.str s] [.string s])
  have hl := KX MC rfl s trivial rfl hr rfl rfl rfl hst
  have hv : Am (ER.args s) ([.string s]) = [.string s] := by
    simp only [ER]
    rw [Lm]
    all_goals rfl
  rw [hv] at hl
  refine hl.mono fun e W' ⟨he, bel⟩ => ?_
  subst he
  exact ⟨_, rfl, _, _, _, [], _, [], hW', trodAll_mk1 (shut_bool Tryd.underlying4 _), (trodAll_cons_mk (Go.ChangeMaps.shut_string Tryd.underlying9 w0) trodAll_mk0), rfl, bel.frame _, fun h => by cases h⟩
theorem over:Rows.fnExactParsePolygonRow.holds Tryd.pinned (OpenSpec.ofChange Rows.fnExactParsePolygonSpec):=
 OpenClaim.holds_of_wide 3 Tryd.f3 rfl rfl rfl rfl rfl rfl rfl ⟨rfl,rfl,rfl,rfl,rfl⟩ rfl rfl rfl rfl rfl (by kernel_rfl) Tryd.func3 (by kernel_rfl)
  (of_decide_eq_true (by kernel_rfl)) (by unfold Func.isWrapper;first|(rw [if_pos (by decide +kernel)];kernel_rfl)|(rw [if_neg (by decide +kernel)];exact ⟨rfl,rfl⟩))
  (λ os started H enc _=>lifted os started H enc)
theorem noIn:∀ (j:Nat) t,#[9][j]?=some t->Tryd.prog.wantsStandIn t=false:=by
 intro j t ht
 have hm:t ∈ [9]:=by have:=List.mem_of_getElem? (l:=[9]) (i:=j) (a:=t) (by simpa using ht);exact this
 have h0:([9].all λ t=>!(Tryd.prog.wantsStandIn t))=true:=by kernel_rfl
 have:=List.all_eq_true.1 h0 t hm
 cases hq:Tryd.prog.wantsStandIn t
 ·rfl
 ·rw [hq] at this;cases this
theorem proved:Rows.FnExactParsePolygonCardSaid:=
 Claim7.holds_tied_plain_at .later [] [.data,.data,.data,.data,.sentinel,.sentinel,.pinned] true (true, "84fef0f04cd85e0320c4d0a275866a73943b9998c0773d831effc93a231325cf") true
  over (λ _ h=>by cases h) (by kernel_rfl) (λ _ h=>by cases h) fnExactParsePolygon_row_tie rfl ⟨rfl,rfl⟩ (by kernel_rfl) rfl
  (λ f fn hf hfn=>by
   obtain rfl:f=3:=Option.some.inj ((show Tryd.prog.funcNamed Rows.fnExactParsePolygonRow.func=some 3 by kernel_rfl).symm.trans hf) |>.symm
   obtain rfl:fn=Tryd.f3:=(Option.some.inj (Tryd.func3.symm.trans hfn)).symm
   exact ⟨by kernel_rfl,λ j t ht=>noIn j t (by rw [Tryd.params3] at ht;exact ht)⟩)
  (by kernel_rfl)
#print axioms proved
end Go.Proofs.YtcpjekkiejhgpaaDoor.claimParsePolygon
