import Derived.Test.YthnkggacopepgaaGreatRows
import Derived.ProofKit
namespace Go.Proofs.YthnkggacopepgaaGreat.claimSquareBetween
open Go.RowKit
set_option maxRecDepth 100000
theorem j1:Tryz.pinned.checked.prog.inPlace 10=Rows.fnExactSquareBetweenRow.inPlace:=by kernel_rfl
theorem j2:Tryz.pinned.checked.prog.unfollowed 10=Rows.fnExactSquareBetweenRow.unfollowed:=by kernel_rfl
theorem j3:Tryz.pinned.checked.prog.recurses 10=Rows.fnExactSquareBetweenRow.recurses:=by kernel_rfl
theorem j4:Tryz.pinned.checked.prog.varsNamed 10=Rows.fnExactSquareBetweenRow.named:=by kernel_rfl
theorem closed:joinedFacts Tryz.pinned.checked.prog 10 Tryz.f10 Rows.fnExactSquareBetweenSpec Rows.fnExactSquareBetweenRow=true:=by
 unfold joinedFacts
 rw [j1,j2,j3,j4]
 kernel_rfl
end Go.Proofs.YthnkggacopepgaaGreat.claimSquareBetween
