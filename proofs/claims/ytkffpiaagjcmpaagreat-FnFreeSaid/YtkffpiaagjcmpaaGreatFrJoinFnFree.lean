import Derived.Test.YtkffpiaagjcmpaaGreatRows
import Derived.ProofKit
namespace Go.Proofs.YtkffpiaagjcmpaaGreat.claimFnFree
open Go.RowKit
set_option maxRecDepth 100000
theorem j1:Tryz.pinned.checked.prog.inPlace 3=Rows.fnFreeRow.inPlace:=by kernel_rfl
theorem j2:Tryz.pinned.checked.prog.unfollowed 3=Rows.fnFreeRow.unfollowed:=by kernel_rfl
theorem j3:Tryz.pinned.checked.prog.recurses 3=Rows.fnFreeRow.recurses:=by kernel_rfl
theorem j4:Tryz.pinned.checked.prog.varsNamed 3=Rows.fnFreeRow.named:=by kernel_rfl
theorem AA9:joinedFacts Tryz.pinned.checked.prog 3 Tryz.f3 Rows.fnFreeSpec Rows.fnFreeRow=true:=by
 unfold joinedFacts
 rw [j1,j2,j3,j4]
 kernel_rfl
end Go.Proofs.YtkffpiaagjcmpaaGreat.claimFnFree
