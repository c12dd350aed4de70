import Derived.Test.YtdgmbbjoifneiaaGreatDoorPyRkD
namespace Go.Proofs.YtdgmbbjoifneiaaGreatDoor
set_option linter.unusedVariables false
set_option linter.unusedSimpArgs false
open Go.RowKit
theorem Qd (e:Nat) {n:Nat} (h:nl n<=9223372036854775807):Dat.has (.sl e [.int]) (.sl (L n)):=by
 refine ⟨by rw [Aq];exact h,λ k hk=>?_⟩
 unfold L
 rw [J0 (by rw [Aq] at hk;exact hk)]
 simp [hasRow,Dat.has]
theorem Lc (r:Fr):A7 (decide (r.z<0)) (L r.z.natAbs) (L r.d)=r.good:=by
 rw [← Fr.neg_z,← Fr.num_z,← Fr.den_d];exact Rm r
end Go.Proofs.YtdgmbbjoifneiaaGreatDoor
