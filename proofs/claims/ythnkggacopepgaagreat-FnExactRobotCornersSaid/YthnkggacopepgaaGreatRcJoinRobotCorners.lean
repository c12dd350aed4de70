import Derived.Test.YthnkggacopepgaaGreatRows
import Derived.ProofKit
namespace Go.Proofs.YthnkggacopepgaaGreat.claimRobotCorners
open Go.RowKit
set_option maxRecDepth 100000
theorem j1:Tryz.pinned.checked.prog.inPlace 7=Rows.fnExactRobotCornersRow.inPlace:=by kernel_rfl
theorem j2:Tryz.pinned.checked.prog.unfollowed 7=Rows.fnExactRobotCornersRow.unfollowed:=by kernel_rfl
theorem j3:Tryz.pinned.checked.prog.recurses 7=Rows.fnExactRobotCornersRow.recurses:=by kernel_rfl
theorem j4:Tryz.pinned.checked.prog.varsNamed 7=Rows.fnExactRobotCornersRow.named:=by kernel_rfl
theorem closed:joinedFacts Tryz.pinned.checked.prog 7 Tryz.f7 Rows.fnExactRobotCornersSpec Rows.fnExactRobotCornersRow=true:=by
 unfold joinedFacts
 rw [j1,j2,j3,j4]
 kernel_rfl
end Go.Proofs.YthnkggacopepgaaGreat.claimRobotCorners
