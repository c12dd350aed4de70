import Derived.Test.YtmedodfenejimaaGreatRows
import Derived.ProofKit
namespace Go.Proofs.YtmedodfenejimaaGreat.claimEventsOf
open Go.RowKit
set_option maxRecDepth 100000
theorem j1:Tryz.pinned.checked.prog.inPlace 5=Rows.fnExactEventsOfRow.inPlace:=by kernel_rfl
theorem j2:Tryz.pinned.checked.prog.unfollowed 5=Rows.fnExactEventsOfRow.unfollowed:=by kernel_rfl
theorem j3:Tryz.pinned.checked.prog.recurses 5=Rows.fnExactEventsOfRow.recurses:=by kernel_rfl
theorem j4:Tryz.pinned.checked.prog.varsNamed 5=Rows.fnExactEventsOfRow.named:=by kernel_rfl
theorem WZ:joinedFacts Tryz.pinned.checked.prog 5 Tryz.f5 Rows.fnExactEventsOfSpec Rows.fnExactEventsOfRow=true:=by
 unfold joinedFacts
 rw [j1,j2,j3,j4]
 kernel_rfl
end Go.Proofs.YtmedodfenejimaaGreat.claimEventsOf
