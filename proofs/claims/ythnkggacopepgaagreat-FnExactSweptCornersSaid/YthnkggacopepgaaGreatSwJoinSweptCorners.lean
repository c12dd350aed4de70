import Derived.Test.YthnkggacopepgaaGreatRows
import Derived.ProofKit
namespace Go.Proofs.YthnkggacopepgaaGreat.claimSweptCorners
open Go.RowKit
set_option maxRecDepth 100000
theorem j1:Tryz.pinned.checked.prog.inPlace 9=Rows.fnExactSweptCornersRow.inPlace:=by kernel_rfl
theorem j2:Tryz.pinned.checked.prog.unfollowed 9=Rows.fnExactSweptCornersRow.unfollowed:=by kernel_rfl
theorem j3:Tryz.pinned.checked.prog.recurses 9=Rows.fnExactSweptCornersRow.recurses:=by kernel_rfl
theorem j4:Tryz.pinned.checked.prog.varsNamed 9=Rows.fnExactSweptCornersRow.named:=by kernel_rfl
theorem closed:joinedFacts Tryz.pinned.checked.prog 9 Tryz.f9 Rows.fnExactSweptCornersSpec Rows.fnExactSweptCornersRow=true:=by
 unfold joinedFacts
 rw [j1,j2,j3,j4]
 kernel_rfl
end Go.Proofs.YthnkggacopepgaaGreat.claimSweptCorners
