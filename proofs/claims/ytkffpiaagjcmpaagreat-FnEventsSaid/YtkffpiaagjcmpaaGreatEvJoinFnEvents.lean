import Derived.Test.YtkffpiaagjcmpaaGreatRows
import Derived.ProofKit
namespace Go.Proofs.YtkffpiaagjcmpaaGreat.claimFnEvents
open Go.RowKit
set_option maxRecDepth 100000
theorem j1:Tryz.pinned.checked.prog.inPlace 5=Rows.fnEventsRow.inPlace:=by kernel_rfl
theorem j2:Tryz.pinned.checked.prog.unfollowed 5=Rows.fnEventsRow.unfollowed:=by kernel_rfl
theorem j3:Tryz.pinned.checked.prog.recurses 5=Rows.fnEventsRow.recurses:=by kernel_rfl
theorem j4:Tryz.pinned.checked.prog.varsNamed 5=Rows.fnEventsRow.named:=by kernel_rfl
theorem ABv:joinedFacts Tryz.pinned.checked.prog 5 Tryz.f5 Rows.fnEventsSpec Rows.fnEventsRow=true:=by
 unfold joinedFacts
 rw [j1,j2,j3,j4]
 kernel_rfl
end Go.Proofs.YtkffpiaagjcmpaaGreat.claimFnEvents
