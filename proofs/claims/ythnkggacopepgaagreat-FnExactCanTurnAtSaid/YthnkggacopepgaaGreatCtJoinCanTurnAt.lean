import Derived.Test.YthnkggacopepgaaGreatRows
import Derived.ProofKit
namespace Go.Proofs.YthnkggacopepgaaGreat.claimCanTurnAt
open Go.RowKit
set_option maxRecDepth 100000
theorem j1:Tryz.pinned.checked.prog.inPlace 8=Rows.fnExactCanTurnAtRow.inPlace:=by kernel_rfl
theorem j2:Tryz.pinned.checked.prog.unfollowed 8=Rows.fnExactCanTurnAtRow.unfollowed:=by kernel_rfl
theorem j3:Tryz.pinned.checked.prog.recurses 8=Rows.fnExactCanTurnAtRow.recurses:=by kernel_rfl
theorem j4:Tryz.pinned.checked.prog.varsNamed 8=Rows.fnExactCanTurnAtRow.named:=by kernel_rfl
theorem closed:joinedFacts Tryz.pinned.checked.prog 8 Tryz.f8 Rows.fnExactCanTurnAtSpec Rows.fnExactCanTurnAtRow=true:=by
 unfold joinedFacts
 rw [j1,j2,j3,j4]
 kernel_rfl
end Go.Proofs.YthnkggacopepgaaGreat.claimCanTurnAt
