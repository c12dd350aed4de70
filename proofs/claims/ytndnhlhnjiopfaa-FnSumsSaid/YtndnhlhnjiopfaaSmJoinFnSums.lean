import Derived.Test.YtndnhlhnjiopfaaRows
import Derived.ProofKit
namespace Go.Proofs.Ytndnhlhnjiopfaa.claimFnSums
open Go.RowKit
set_option maxRecDepth 100000
theorem j1:Try.pinned.checked.prog.inPlace 4=Rows.fnSumsRow.inPlace:=by kernel_rfl
theorem j2:Try.pinned.checked.prog.unfollowed 4=Rows.fnSumsRow.unfollowed:=by kernel_rfl
theorem j3:Try.pinned.checked.prog.recurses 4=Rows.fnSumsRow.recurses:=by kernel_rfl
theorem j4:Try.pinned.checked.prog.varsNamed 4=Rows.fnSumsRow.named:=by kernel_rfl
theorem WT:joinedFacts Try.pinned.checked.prog 4 Try.f4 Rows.fnSumsSpec Rows.fnSumsRow=true:=by
 unfold joinedFacts
 rw [j1,j2,j3,j4]
 kernel_rfl
end Go.Proofs.Ytndnhlhnjiopfaa.claimFnSums
