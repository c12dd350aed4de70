import Derived.Test.YtppjhpglejehkaaGreatRows
import Derived.ProofKit
namespace Go.Proofs.YtppjhpglejehkaaGreat.claimTableAt
open Go.RowKit
set_option maxRecDepth 100000
theorem j1:Tryz.pinned.checked.prog.inPlace 4=Rows.fnExactTableAtRow.inPlace:=by kernel_rfl
theorem j2:Tryz.pinned.checked.prog.unfollowed 4=Rows.fnExactTableAtRow.unfollowed:=by kernel_rfl
theorem j3:Tryz.pinned.checked.prog.recurses 4=Rows.fnExactTableAtRow.recurses:=by kernel_rfl
theorem j4:Tryz.pinned.checked.prog.varsNamed 4=Rows.fnExactTableAtRow.named:=by kernel_rfl
theorem closed:joinedFacts Tryz.pinned.checked.prog 4 Tryz.f4 Rows.fnExactTableAtSpec Rows.fnExactTableAtRow=true:=by
 unfold joinedFacts
 rw [j1,j2,j3,j4]
 kernel_rfl
end Go.Proofs.YtppjhpglejehkaaGreat.claimTableAt
