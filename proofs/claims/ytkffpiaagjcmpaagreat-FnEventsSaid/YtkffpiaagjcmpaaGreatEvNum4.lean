import Derived.Test.YtkffpiaagjcmpaaGreatEvNum3
namespace Go.Proofs.YtkffpiaagjcmpaaGreat
set_option linter.unusedVariables false
set_option linter.unusedSimpArgs false
def eqF (r s:Fr):Bool:=decide (r.z=s.z) && decide (r.d=s.d)
theorem Hj {r s:Fr} : eqF r s=true↔r=s:=by
 unfold eqF
 rw [Bool.and_eq_true,decide_eq_true_iff,decide_eq_true_iff]
 exact ⟨λ h=>Fr.zd_ext h.1 h.2,λ h=>by subst h;exact ⟨rfl,rfl⟩⟩
theorem Vn {a b:Nat} (h:nl a=nl b) (hd:AX (nl a) a=AX (nl a) b):a=b:=by
 have h1:=Fo (nl a) a
 have h2:=Fo (nl b) b
 rw [Ss (Nat.le_refl _)] at h1 h2
 rw [← h1,← h2,hd,h]
end Go.Proofs.YtkffpiaagjcmpaaGreat
