import Derived.Test.YthoidhehmmcgnaaGreatSlNum3
namespace Go.Proofs.YthoidhehmmcgnaaGreat
set_option linter.unusedVariables false
set_option linter.unusedSimpArgs false
theorem Fr.mul_v{r s:Fr}{a b:Rat}(hr:r.v=some a)(hs:s.v=some b):Fr.mul r s=clamp (a*b):=by unfold Fr.mul Fr.bin;rw[hr,hs]
theorem Fr.v_cases(r:Fr):r=Fr.none\/∃q,r.v=some q:=by rcases Fr.cases r with h|⟨q,h,_⟩;exact .inl h;exact .inr ⟨q,h⟩
theorem Fr.mul_com(r s:Fr):Fr.mul r s=Fr.mul s r:=by rcases Fr.v_cases r with rfl|⟨a,ha⟩;unfold Fr.mul;rw[Fr.bin_none2];rfl;rcases Fr.v_cases s with rfl|⟨b,hb⟩;unfold Fr.mul;rw[Fr.bin_none2];rfl;rw[Fr.mul_v ha hb,Fr.mul_v hb ha,Rat.mul_comm]
def eqF(r s:Fr):Bool:=decide (r.z=s.z) && decide (r.d=s.d)
theorem U2{r s:Fr} : eqF r s=true<->r=s:=by unfold eqF;rw[Bool.and_eq_true,decide_eq_true_iff,decide_eq_true_iff];exact⟨λh=>Fr.zd_ext h.1 h.2,λh=>by subst h;exact⟨rfl,rfl⟩⟩
theorem WQ{a b:Nat}(h:nl a=nl b)(hd:AU (nl a) a=AU (nl a) b):a=b:=by have h1:=Cm (nl a) a;have h2:=Cm (nl b) b;rw[Gg (Nat.le_refl _)]at h1 h2;rw[← h1,← h2,hd,h]
end Go.Proofs.YthoidhehmmcgnaaGreat
