import Derived.Test.YthoidhehmmcgnaaGreatWtNum3
namespace Go.Proofs.YthoidhehmmcgnaaGreat
set_option linter.unusedVariables false
set_option linter.unusedSimpArgs false
theorem Fr.mul_v{r s:Fr}{a b:Rat}(hr:r.v=some a)(hs:s.v=some b):Fr.mul r s=clamp (a*b):=by unfold Fr.mul Fr.bin;rw[hr,hs]
theorem Fr.v_cases(r:Fr):r=Fr.none\/∃q,r.v=some q:=by rcases Fr.cases r with h|⟨q,h,_⟩;exact .inl h;exact .inr ⟨q,h⟩
theorem Fr.mul_com(r s:Fr):Fr.mul r s=Fr.mul s r:=by rcases Fr.v_cases r with rfl|⟨a,ha⟩;unfold Fr.mul;rw[Fr.bin_none2];rfl;rcases Fr.v_cases s with rfl|⟨b,hb⟩;unfold Fr.mul;rw[Fr.bin_none2];rfl;rw[Fr.mul_v ha hb,Fr.mul_v hb ha,Rat.mul_comm]
theorem Fr.min_v{r s:Fr}{a b:Rat}(hr:r.v=some a)(hs:s.v=some b):Fr.min r s=if a<=b then r else s:=by unfold Fr.min Fr.bin;rw[hr,hs]
theorem Fr.min_self(r:Fr):Fr.min r r=r:=by rcases Fr.v_cases r with rfl|⟨a,ha⟩;rfl;rw[Fr.min_v ha ha];split <;> rfl
def eqF(r s:Fr):Bool:=decide (r.z=s.z) && decide (r.d=s.d)
theorem Uk{r s:Fr} : eqF r s=true<->r=s:=by unfold eqF;rw[Bool.and_eq_true,decide_eq_true_iff,decide_eq_true_iff];exact⟨λh=>Fr.zd_ext h.1 h.2,λh=>by subst h;exact⟨rfl,rfl⟩⟩
theorem WE{a b:Nat}(h:nl a=nl b)(hd:AS (nl a) a=AS (nl a) b):a=b:=by have h1:=Ci (nl a) a;have h2:=Ci (nl b) b;rw[GV (Nat.le_refl _)]at h1 h2;rw[← h1,← h2,hd,h]
end Go.Proofs.YthoidhehmmcgnaaGreat
