import Derived.Test.YtblmlkdefjoebaaGreatRows
import Derived.ProofKit
namespace Go.Proofs.YtblmlkdefjoebaaGreat.claimIsFree
open Go.RowKit
set_option maxRecDepth 100000
theorem j1:Tryz.pinned.checked.prog.inPlace 5=Rows.fnExactIsFreeRow.inPlace:=by kernel_rfl
theorem j2:Tryz.pinned.checked.prog.unfollowed 5=Rows.fnExactIsFreeRow.unfollowed:=by kernel_rfl
theorem j3:Tryz.pinned.checked.prog.recurses 5=Rows.fnExactIsFreeRow.recurses:=by kernel_rfl
theorem j4:Tryz.pinned.checked.prog.varsNamed 5=Rows.fnExactIsFreeRow.named:=by kernel_rfl
theorem closed:joinedFacts Tryz.pinned.checked.prog 5 Tryz.f5 Rows.fnExactIsFreeSpec Rows.fnExactIsFreeRow=true:=by
 unfold joinedFacts
 rw [j1,j2,j3,j4]
 kernel_rfl
end Go.Proofs.YtblmlkdefjoebaaGreat.claimIsFree
