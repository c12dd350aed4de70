import Derived.Test.YtmedodfenejimaaGreatLkNum3
namespace Go.Proofs.YtmedodfenejimaaGreat
set_option linter.unusedVariables false
set_option linter.unusedSimpArgs false
def eqF (r s:Fr):Bool:=decide (r.z=s.z) && decide (r.d=s.d)
theorem SH {a b:Nat} (h:nl a=nl b) (hd:AL (nl a) a=AL (nl a) b):a=b:=by
 have h1:=CA (nl a) a
 have h2:=CA (nl b) b
 rw [GE (Nat.le_refl _)] at h1 h2
 rw [← h1,← h2,hd,h]
end Go.Proofs.YtmedodfenejimaaGreat
