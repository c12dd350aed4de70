import Derived.Test.YthoidhehmmcgnaaGreatRows
import Derived.ProofKit
namespace Go.Proofs.YthoidhehmmcgnaaGreat.claimSlabCells
open Go.RowKit
set_option maxRecDepth 100000
theorem j1:Tryz.pinned.checked.prog.inPlace 3=Rows.fnExactSlabCellsRow.inPlace:=by kernel_rfl
theorem j2:Tryz.pinned.checked.prog.unfollowed 3=Rows.fnExactSlabCellsRow.unfollowed:=by kernel_rfl
theorem j3:Tryz.pinned.checked.prog.recurses 3=Rows.fnExactSlabCellsRow.recurses:=by kernel_rfl
theorem j4:Tryz.pinned.checked.prog.varsNamed 3=Rows.fnExactSlabCellsRow.named:=by kernel_rfl
theorem ABx:joinedFacts Tryz.pinned.checked.prog 3 Tryz.f3 Rows.fnExactSlabCellsSpec Rows.fnExactSlabCellsRow=true:=by unfold joinedFacts;rw[j1,j2,j3,j4];kernel_rfl
end Go.Proofs.YthoidhehmmcgnaaGreat.claimSlabCells
