import Derived.Test.YtndnhlhnjiopfaaGreatRows
import Derived.ProofKit
namespace Go.Proofs.YtndnhlhnjiopfaaGreat.claimFnDistances
open Go.RowKit
set_option maxRecDepth 100000
theorem j1:Tryz.pinned.checked.prog.inPlace 5=Rows.fnDistancesRow.inPlace:=by kernel_rfl
theorem j2:Tryz.pinned.checked.prog.unfollowed 5=Rows.fnDistancesRow.unfollowed:=by kernel_rfl
theorem j3:Tryz.pinned.checked.prog.recurses 5=Rows.fnDistancesRow.recurses:=by kernel_rfl
theorem j4:Tryz.pinned.checked.prog.varsNamed 5=Rows.fnDistancesRow.named:=by kernel_rfl
theorem YR:joinedFacts Tryz.pinned.checked.prog 5 Tryz.f5 Rows.fnDistancesSpec Rows.fnDistancesRow=true:=by
 unfold joinedFacts
 rw [j1,j2,j3,j4]
 kernel_rfl
end Go.Proofs.YtndnhlhnjiopfaaGreat.claimFnDistances
