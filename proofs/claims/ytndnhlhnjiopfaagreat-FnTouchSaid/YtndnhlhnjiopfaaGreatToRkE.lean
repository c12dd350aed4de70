import Derived.Test.YtndnhlhnjiopfaaGreatToRkD
namespace Go.Proofs.YtndnhlhnjiopfaaGreat
set_option linter.unusedVariables false
set_option linter.unusedSimpArgs false
open Go.RowKit
theorem Q6 (e:Nat) {n:Nat} (h:nl n<=9223372036854775807):Dat.has (.sl e [.int]) (.sl (L n)):=by
 refine ⟨by rw [Ar];exact h,λ k hk=>?_⟩
 unfold L
 rw [KH (by rw [Ar] at hk;exact hk)]
 simp [hasRow,Dat.has]
theorem L0 (r:Fr):A4 (decide (r.z<0)) (L r.z.natAbs) (L r.d)=r.good:=by
 rw [← Fr.neg_z,← Fr.num_z,← Fr.den_d];exact SC r
end Go.Proofs.YtndnhlhnjiopfaaGreat
