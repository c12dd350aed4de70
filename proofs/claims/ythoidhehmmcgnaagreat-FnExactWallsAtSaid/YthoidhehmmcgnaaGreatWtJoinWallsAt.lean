import Derived.Test.YthoidhehmmcgnaaGreatRows
import Derived.ProofKit
namespace Go.Proofs.YthoidhehmmcgnaaGreat.claimWallsAt
open Go.RowKit
set_option maxRecDepth 100000
theorem j1:Tryz.pinned.checked.prog.inPlace 4=Rows.fnExactWallsAtRow.inPlace:=by kernel_rfl
theorem j2:Tryz.pinned.checked.prog.unfollowed 4=Rows.fnExactWallsAtRow.unfollowed:=by kernel_rfl
theorem j3:Tryz.pinned.checked.prog.recurses 4=Rows.fnExactWallsAtRow.recurses:=by kernel_rfl
theorem j4:Tryz.pinned.checked.prog.varsNamed 4=Rows.fnExactWallsAtRow.named:=by kernel_rfl
theorem ABT:joinedFacts Tryz.pinned.checked.prog 4 Tryz.f4 Rows.fnExactWallsAtSpec Rows.fnExactWallsAtRow=true:=by unfold joinedFacts;rw[j1,j2,j3,j4];kernel_rfl
end Go.Proofs.YthoidhehmmcgnaaGreat.claimWallsAt
