import Derived.Test.YthnkggacopepgaaGreatRows
import Derived.ProofKit
namespace Go.Proofs.YthnkggacopepgaaGreat.claimSquareToPolygon
open Go.RowKit
set_option maxRecDepth 100000
theorem j1 : Tryz.pinned.checked.prog.inPlace 6 = Rows.fnExactSquareToPolygonRow.inPlace := by kernel_rfl
theorem j2 : Tryz.pinned.checked.prog.unfollowed 6 = Rows.fnExactSquareToPolygonRow.unfollowed := by kernel_rfl
theorem j3 : Tryz.pinned.checked.prog.recurses 6 = Rows.fnExactSquareToPolygonRow.recurses := by kernel_rfl
theorem j4 : Tryz.pinned.checked.prog.varsNamed 6 = Rows.fnExactSquareToPolygonRow.named := by kernel_rfl
theorem closed : joinedFacts Tryz.pinned.checked.prog 6 Tryz.f6 Rows.fnExactSquareToPolygonSpec Rows.fnExactSquareToPolygonRow = true := by
  unfold joinedFacts
  rw [j1, j2, j3, j4]
  kernel_rfl
end Go.Proofs.YthnkggacopepgaaGreat.claimSquareToPolygon
