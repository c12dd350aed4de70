import Derived.Test.YtndnhlhnjiopfaaRows
import Derived.ProofKit
namespace Go.Proofs.Ytndnhlhnjiopfaa.claimFnHull
open Go.RowKit
set_option maxRecDepth 100000
theorem j1:Try.pinned.checked.prog.inPlace 3=Rows.fnHullRow.inPlace:=by kernel_rfl
theorem j2:Try.pinned.checked.prog.unfollowed 3=Rows.fnHullRow.unfollowed:=by kernel_rfl
theorem j3:Try.pinned.checked.prog.recurses 3=Rows.fnHullRow.recurses:=by kernel_rfl
theorem j4:Try.pinned.checked.prog.varsNamed 3=Rows.fnHullRow.named:=by kernel_rfl
theorem Vt:joinedFacts Try.pinned.checked.prog 3 Try.f3 Rows.fnHullSpec Rows.fnHullRow=true:=by
 unfold joinedFacts
 rw [j1,j2,j3,j4]
 kernel_rfl
end Go.Proofs.Ytndnhlhnjiopfaa.claimFnHull
