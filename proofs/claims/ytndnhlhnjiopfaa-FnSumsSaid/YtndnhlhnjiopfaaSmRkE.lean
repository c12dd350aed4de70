import Derived.Test.YtndnhlhnjiopfaaSmRkD
namespace Go.Proofs.Ytndnhlhnjiopfaa
set_option linter.unusedVariables false
set_option linter.unusedSimpArgs false
open Go.RowKit
theorem QO (e:Nat) {n:Nat} (h:nl n<=9223372036854775807):Dat.has (.sl e [.int]) (.sl (L n)):=by
 refine ⟨by rw [As];exact h,λ k hk=>?_⟩
 unfold L
 rw [Jo (by rw [As] at hk;exact hk)]
 simp [hasRow,Dat.has]
theorem LU (r:Fr):A3 (decide (r.z<0)) (L r.z.natAbs) (L r.d)=r.good:=by
 rw [← Fr.neg_z,← Fr.num_z,← Fr.den_d];exact RN r
end Go.Proofs.Ytndnhlhnjiopfaa
