import Derived.Test.YthnkggacopepgaaGreatRows
import Derived.ProofKit
namespace Go.Proofs.YthnkggacopepgaaGreat.claimOpenTables
open Go.RowKit
set_option maxRecDepth 100000
theorem j1:Tryz.pinned.checked.prog.inPlace 11=Rows.fnExactOpenTablesRow.inPlace:=by kernel_rfl
theorem j2:Tryz.pinned.checked.prog.unfollowed 11=Rows.fnExactOpenTablesRow.unfollowed:=by kernel_rfl
theorem j3:Tryz.pinned.checked.prog.recurses 11=Rows.fnExactOpenTablesRow.recurses:=by kernel_rfl
theorem j4:Tryz.pinned.checked.prog.varsNamed 11=Rows.fnExactOpenTablesRow.named:=by kernel_rfl
theorem closed:joinedFacts Tryz.pinned.checked.prog 11 Tryz.f11 Rows.fnExactOpenTablesSpec Rows.fnExactOpenTablesRow=true:=by
 unfold joinedFacts
 rw [j1,j2,j3,j4]
 kernel_rfl
end Go.Proofs.YthnkggacopepgaaGreat.claimOpenTables
