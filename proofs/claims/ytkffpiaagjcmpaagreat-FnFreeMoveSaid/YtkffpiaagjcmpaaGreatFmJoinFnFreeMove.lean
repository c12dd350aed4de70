import Derived.Test.YtkffpiaagjcmpaaGreatRows
import Derived.ProofKit
namespace Go.Proofs.YtkffpiaagjcmpaaGreat.claimFnFreeMove
open Go.RowKit
set_option maxRecDepth 100000
theorem j1:Tryz.pinned.checked.prog.inPlace 4=Rows.fnFreeMoveRow.inPlace:=by kernel_rfl
theorem j2:Tryz.pinned.checked.prog.unfollowed 4=Rows.fnFreeMoveRow.unfollowed:=by kernel_rfl
theorem j3:Tryz.pinned.checked.prog.recurses 4=Rows.fnFreeMoveRow.recurses:=by kernel_rfl
theorem j4:Tryz.pinned.checked.prog.varsNamed 4=Rows.fnFreeMoveRow.named:=by kernel_rfl
theorem AC7:joinedFacts Tryz.pinned.checked.prog 4 Tryz.f4 Rows.fnFreeMoveSpec Rows.fnFreeMoveRow=true:=by
 unfold joinedFacts
 rw [j1,j2,j3,j4]
 kernel_rfl
end Go.Proofs.YtkffpiaagjcmpaaGreat.claimFnFreeMove
