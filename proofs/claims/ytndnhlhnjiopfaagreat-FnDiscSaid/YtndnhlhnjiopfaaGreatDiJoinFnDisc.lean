import Derived.Test.YtndnhlhnjiopfaaGreatRows
import Derived.ProofKit
namespace Go.Proofs.YtndnhlhnjiopfaaGreat.claimFnDisc
open Go.RowKit
set_option maxRecDepth 100000
theorem j1:Tryz.pinned.checked.prog.inPlace 4=Rows.fnDiscRow.inPlace:=by kernel_rfl
theorem j2:Tryz.pinned.checked.prog.unfollowed 4=Rows.fnDiscRow.unfollowed:=by kernel_rfl
theorem j3:Tryz.pinned.checked.prog.recurses 4=Rows.fnDiscRow.recurses:=by kernel_rfl
theorem j4:Tryz.pinned.checked.prog.varsNamed 4=Rows.fnDiscRow.named:=by kernel_rfl
theorem WG:joinedFacts Tryz.pinned.checked.prog 4 Tryz.f4 Rows.fnDiscSpec Rows.fnDiscRow=true:=by
 unfold joinedFacts
 rw [j1,j2,j3,j4]
 kernel_rfl
end Go.Proofs.YtndnhlhnjiopfaaGreat.claimFnDisc
