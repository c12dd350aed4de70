import Derived.Test.YthnkggacopepgaaGreatRows
import Derived.ProofKit
namespace Go.Proofs.YthnkggacopepgaaGreat.claimSegmentMeets
open Go.RowKit
set_option maxRecDepth 100000
theorem j1 : Tryz.pinned.checked.prog.inPlace 4 = Rows.fnExactSegmentMeetsRow.inPlace := by kernel_rfl
theorem j2 : Tryz.pinned.checked.prog.unfollowed 4 = Rows.fnExactSegmentMeetsRow.unfollowed := by kernel_rfl
theorem j3 : Tryz.pinned.checked.prog.recurses 4 = Rows.fnExactSegmentMeetsRow.recurses := by kernel_rfl
theorem j4 : Tryz.pinned.checked.prog.varsNamed 4 = Rows.fnExactSegmentMeetsRow.named := by kernel_rfl
theorem closed : joinedFacts Tryz.pinned.checked.prog 4 Tryz.f4 Rows.fnExactSegmentMeetsSpec Rows.fnExactSegmentMeetsRow = true := by
  unfold joinedFacts
  rw [j1, j2, j3, j4]
  kernel_rfl
end Go.Proofs.YthnkggacopepgaaGreat.claimSegmentMeets
