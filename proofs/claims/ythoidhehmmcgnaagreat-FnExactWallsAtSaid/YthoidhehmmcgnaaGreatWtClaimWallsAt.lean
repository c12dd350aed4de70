import Derived.Test.YthoidhehmmcgnaaGreatRows
import Derived.Test.YthoidhehmmcgnaaGreatWtRkLWallsAt
import Derived.Test.YthoidhehmmcgnaaGreatWtExD
import Derived.Test.YthoidhehmmcgnaaGreatWtJoinWallsAt
import Derived.WalkKit
import Derived.ProofKit
import Derived.OpenShut
import Derived.ShutString
import Derived.ChangeOld
import Derived.Below
namespace Go.Proofs.YthoidhehmmcgnaaGreat.claimWallsAt
open Go.ChangeShapes Go.WideShapes Go.ChangeAt Go.RowKit
set_option linter.unusedVariables false
set_option linter.unusedSimpArgs false
theorem own:ownKnob Tryz.prog.godebug=none:=by kernel_rfl
theorem laidOut:laidOutB Tryz.prog=true:=by kernel_rfl
set_option maxRecDepth 100000 in
theorem lifted(os:Os)(started:os.Started)(H:Type)(enc:TypeId×Value->H) :
 ReturnsInHanded {} Tryz.checked os 4 .any (Rows.fnExactWallsAtSpec.pre6 enc Tryz.prog Tryz.f4 Rows.fnExactWallsAtRow.domain false) (Rows.fnExactWallsAtSpec.post enc Tryz.prog Tryz.f4 false true false false):=by
 refine returnsInHanded_of_change (C:=Tryz.checked) own started (by kernel_rfl) Tryz.func4
  (ChangeSpec.witness6 (enc:=enc) (C:=Tryz.checked) false ⟨#[],#[.agg #[.int .i64 0,.int .i64 0,.int .i64 0,.int .i64 0],.slice none 0 0,.agg #[.bool false,.slice none 0 0,.slice none 0 0]],[]⟩ 8 (by kernel_rfl) (by kernel_rfl) (by kernel_rfl) (by kernel_rfl)) ?_
 intro W base args ds gs before a1 hW hcnd _;have a0:∀(j:Nat) t v,Tryz.f4.params[j]?=some t->args[j]?=some v->Value.okWide Tryz.prog W .any base t v:=a1;have hW':=hW;obtain⟨p,q,hA0,hV,rfl,hfz,hnd⟩:=hW;have hA:DataW.TrodAll enc Tryz.prog W 0 (λ_=>true) true Tryz.f4.params.toList args.toList ds p:=hA0;rw[Tryz.params4]at hA a0;obtain⟨v0,vs0,d0,ds0,p0,q0,hargs,rfl,rfl,h0,r0⟩:=trodAll_cons hA;obtain⟨v1,vs1,d1,ds1,p1,q1,rfl,rfl,rfl,h1,r1⟩:=trodAll_cons r0;obtain⟨v2,vs2,d2,ds2,p2,q2,rfl,rfl,rfl,h2,r2⟩:=trodAll_cons r1;obtain⟨rfl,rfl,rfl⟩:=trodAll_nil r2;obtain rfl:args=#[v0,v1,v2]:=by cases args;simp_all
 obtain⟨rfl,rfl⟩:=trodVars_none hV;have k0:=h0;have lt0:∀x ∈ p0,x.block<W.heap.size:=by obtain⟨m,hm⟩:=k0;exact DataW.trod_lt m _ _ _ hm
 obtain⟨cs0,rfl,_⟩:=okWide_struct Tryz.underlying25 (a0 0 25 v0 rfl rfl);obtain⟨e0,he0,a2⟩:∃ds,RdRow W [.int,.int,.int,.int] ds cs0.toList/\fitRow ds:=by obtain⟨fuel,hf⟩:=h0;exact(JU AG 9 _ [.int,.int,.int,.int] _ _ _ (by kernel_rfl) (by simpa[Value.cells]using hf)).imp λ_ h=>⟨h.1.cast rfl,h.2⟩
 have hx0:=λ(i:Nat) (hi:([.int,.int,.int,.int]:List Ty)[i]?=some .int)=>Mr Tryz.underlying25 (a0 0 25 _ rfl rfl) he0 hi;obtain⟨x0,x1,x2,x3,rfl⟩:∃(x0:Int)(x1:Int)(x2:Int)(x3:Int),e0=[Dat.int x0,Dat.int x1,Dat.int x2,Dat.int x3]:=⟨_,_,_,_,Tu (RdRow.has _ _ _ he0)⟩;have k1:=h1;have lt1:∀x ∈ p1,x.block<W.heap.size:=by obtain⟨m,hm⟩:=k1;exact DataW.trod_lt m _ _ _ hm
 have c1:=Vq Tryz.underlying26 (a0 1 26 v1 rfl rfl);obtain⟨e1,he1⟩:∃ds,RdRow W [.sl 59 [.sl 23 [.int,.int]]] ds [v1]:=by obtain⟨fuel,hf⟩:=h1;rw[← c1];exact(UX AG 9 _ [.sl 59 [.sl 23 [.int,.int]]] _ _ _ (by kernel_rfl) hf).imp λ_ h=>h.cast rfl
 obtain⟨dd,ee,rfl,hh1,he1'⟩:=hasRow.cons (RdRow.has _ _ _ he1);obtain rfl:=hasRow.nil he1';obtain⟨l,rfl⟩:=Dat.has_sl hh1;have hd1:Rd W (.sl 59 [.sl 23 [.int,.int]]) (.sl l) v1:=by simp only[RdRow]at he1;exact he1.1
 obtain⟨ls,rfl⟩:=Pd (RdRow.has _ _ _ he1).1;have k2:=h2;have lt2:∀x ∈ p2,x.block<W.heap.size:=by obtain⟨m,hm⟩:=k2;exact DataW.trod_lt m _ _ _ hm
 obtain⟨cs2,rfl,_⟩:=okWide_struct Tryz.underlying31 (a0 2 31 v2 rfl rfl);obtain⟨e2,he2⟩:∃ds,RdRow W [.bool,.sl 3 [.int],.sl 3 [.int]] ds cs2.toList:=by obtain⟨fuel,hf⟩:=h2;exact(UX AG 9 _ [.bool,.sl 3 [.int],.sl 3 [.int]] _ _ _ (by kernel_rfl) (by simpa[Value.cells]using hf)).imp λ_ h=>h.cast rfl
 have hx2:=λ(i:Nat) (hi:([.bool,.sl 3 [.int],.sl 3 [.int]]:List Ty)[i]?=some .int)=>Mr Tryz.underlying31 (a0 2 31 _ rfl rfl) he2 hi;obtain⟨x,rfl⟩:∃x:RatD,e2=[.bool x.neg,.sl x.num,.sl x.den]:=Zx (RdRow.has _ _ _ he2);clear hA0 a1;have hr:=RdRow.app _ _ _ he0 (RdRow.app _ _ _ he1 (he2));have hl:=Vr Nl rfl (([Dat.int x0,Dat.int x1,Dat.int x2,Dat.int x3]:List Dat),ls,x) ⟨RdRow.has _ _ _ he0,a2,(RdRow.has _ _ _ he1).1,RdRow.has _ _ _ he2⟩ rfl hr rfl rfl rfl;have hv:Be (FE.args (([Dat.int x0,Dat.int x1,Dat.int x2,Dat.int x3]:List Dat),ls,x)) (cs0.toList++([v1]++(cs2.toList)))=[.agg cs0,v1,.agg cs2]:=by simp only[FE];have hn0:=(RdRow.lens _ _ _ he0).2;rw[JV (by first|exact hn0|(rw[hn0];rfl)|(rw[← hn0];rfl))];rw[List.singleton_append,Xq];have hn2:=(RdRow.lens _ _ _ he2).2;rw[EU (by first|exact hn2|(rw[hn2];rfl)|(rw[← hn2];rfl))]
 rw[hv]at hl;refine hl.mono λe W' ⟨he,bel⟩=>?_;subst he;exact⟨_,rfl,_,_,_,[],_,[],hW',trodAll_mk1 (shut_bool Tryz.underlying4 _),(trodAll_cons_mk (Below.trod laidOut (by kernel_rfl) (of_decide_eq_true (by kernel_rfl)) k0 bel lt0) (trodAll_cons_mk (Below.trod laidOut (by kernel_rfl) (of_decide_eq_true (by kernel_rfl)) k1 bel lt1) (trodAll_cons_mk (Below.trod laidOut (by kernel_rfl) (of_decide_eq_true (by kernel_rfl)) k2 bel lt2) trodAll_mk0))),rfl,bel.frame _,λh=>by cases h⟩
theorem over:Rows.fnExactWallsAtRow.holds Tryz.pinned (OpenSpec.ofChange Rows.fnExactWallsAtSpec):=
 OpenClaim.holds_of_wide 4 Tryz.f4 rfl rfl rfl rfl rfl rfl rfl ⟨rfl,rfl,rfl,rfl,rfl⟩ rfl rfl rfl rfl rfl (by kernel_rfl) Tryz.func4 ABT
  (of_decide_eq_true (by kernel_rfl)) (by unfold Func.isWrapper;first|(rw[if_pos (by decide +kernel)];kernel_rfl)|(rw[if_neg (by decide +kernel)];exact⟨rfl,rfl⟩))
  (λos started H enc _=>lifted os started H enc)
theorem proved:Rows.FnExactWallsAtSaid:=over
#print axioms proved
end Go.Proofs.YthoidhehmmcgnaaGreat.claimWallsAt
