import Derived.Test.YtndnhlhnjiopfaaGreatRows
import Derived.ProofKit
namespace Go.Proofs.YtndnhlhnjiopfaaGreat.claimFnTouch
open Go.RowKit
set_option maxRecDepth 100000
theorem j1:Tryz.pinned.checked.prog.inPlace 6=Rows.fnTouchRow.inPlace:=by kernel_rfl
theorem j2:Tryz.pinned.checked.prog.unfollowed 6=Rows.fnTouchRow.unfollowed:=by kernel_rfl
theorem j3:Tryz.pinned.checked.prog.recurses 6=Rows.fnTouchRow.recurses:=by kernel_rfl
theorem j4:Tryz.pinned.checked.prog.varsNamed 6=Rows.fnTouchRow.named:=by kernel_rfl
theorem XB:joinedFacts Tryz.pinned.checked.prog 6 Tryz.f6 Rows.fnTouchSpec Rows.fnTouchRow=true:=by
 unfold joinedFacts
 rw [j1,j2,j3,j4]
 kernel_rfl
end Go.Proofs.YtndnhlhnjiopfaaGreat.claimFnTouch
