import Derived.Test.YtmedodfenejimaaGreatEvRkG
import Derived.Test.YtmedodfenejimaaGreatEvNum4
namespace Go.Proofs.YtmedodfenejimaaGreat
set_option maxRecDepth 100000
set_option linter.unusedVariables false
set_option linter.unusedSimpArgs false
open Go.RowKit
theorem YD {a b:Int} (h1:decide (a<0)=decide (b<0)) (h2:a.natAbs=b.natAbs):a=b:=by rw [← FP a,← FP b,h1,h2]
def Dk:Con:={ ι:=Nat×Nat,pre:=λ i=>nl i.1<=1048576/\nl i.2<=1048576,args:=λ i=>[.one (cS (L i.1)),.one (cS (L i.2))],mono:=true,res:=λ i=>⟨false,[none],[rcB (decide (i.1=i.2))]⟩ }
theorem SE:Dk.Ok Tryz.prog 174:=by
 refine fok (X:=⟨tt,[],[],26,[]⟩) mixed AN (CTok.nil _) Tryz.func174 (λ (i:Nat×Nat)=>[(4,.mk 3 (Nat) (λ x1=>{ tm:=[(0,tX 1),(1,tX 2),(12,tI (nI ((L i.1).length))),(13,tI (nI x1))],en:=[(1,eV (L i.1)),(2,eV (L i.2))] }) (λ x1=>x1<=nl i.1/\nl i.1=nl i.2/\AQ x1 i.1=AQ x1 i.2) (λ x1=>nl i.1-x1) (λ _=>[]))]) ?_
 rintro ⟨a,b⟩ hpre
 have hpre:nl a<=1048576/\nl b<=1048576:=hpre
 refine AP (q:=let Z2:=(vB false=vB (decide (a=b)));let Z1:=nI ((L a).length);ifB ((Z1 != (nI ((L b).length)))) Z2 ((∃ x1:Nat,(x1<=nl a/\nl a=nl b/\AQ x1 a=AQ x1 b)/\((rf (vI Z1))/\(vI (0:Int)=vI (nI x1))/\(rf (L a))/\(rf (L b))))/\∀ x1:Nat,(x1<=nl a/\nl a=nl b/\AQ x1 a=AQ x1 b)->(ifB ((decide ((nI x1)<Z1))) ((0<=(nI x1)/\(nI x1)<((L a).length:Int))/\((x1<(L a).length)/\((0<=(nI x1)/\(nI x1)<((L b).length:Int))/\((x1<(L b).length)/\(ifB ((((((L a).getD x1 []).getD 0 (.int 0))).n != ((((L b).getD x1 []).getD 0 (.int 0))).n)) Z2 (∃ y2:Nat,(y2<=nl a/\nl a=nl b/\AQ y2 a=AQ y2 b)/\(nl a-y2<nl a-x1)/\((rf (vI Z1))/\(vI (wR ((nI x1)+(1:Int)))=vI (nI y2))/\(rf (L a))/\(rf (L b))))))))) ((vB true=vB (decide (a=b))))))) (by kernel_rfl) ?_
 conv=>zeta
 delta ifB vB vI wR nI
 have ha:=AK a
 have hb:=AK b
 refine ⟨λ c1=>?_,λ c1=>?_⟩
 ·try simp only [nrm] at c1
  exact congrArg Value.bool (decide_eq_false (λ e=>by subst e;omega)).symm
 try simp only [nrm] at c1
 refine ⟨⟨0,by
  exact ⟨Nat.zero_le _,by omega,rfl⟩,?_⟩,?_⟩
 ·refine ⟨rfl,?_,rfl,rfl⟩
  rfl
 intro (k:Nat) hki3
 have hki3:k<=nl a/\nl a=nl b/\AQ k a=AQ k b:=hki3
 refine And.symm ⟨λ c9=>?_,λ c9=>?_⟩
 ·try simp only [nrm] at c9
  exact congrArg Value.bool (decide_eq_true (SD hki3.2.1 (by have:=hki3.2.2;rwa [show k=nl a by omega] at this))).symm
 try simp only [nrm] at c9
 refine ao (by omega) λ o10=>?_
 refine ao (by omega) λ o11=>?_
 refine ao (by omega) λ o12=>?_
 refine ao (by omega) λ o13=>?_
 refine ⟨λ c14=>?_,λ c14=>?_⟩
 ·try simp only [nrm] at c14
  rw [L_n,L_n] at c14
  exact congrArg Value.bool (decide_eq_false (λ e=>c14 (by rw [e]))).symm
 try simp only [nrm] at c14
 rw [L_n,L_n] at c14
 refine ⟨k+1,by
  exact ⟨by omega,hki3.2.1,by rw [Aw,Aw,hki3.2.2,show dgt a k=dgt b k by omega]⟩,by
  omega,?_⟩
 refine ⟨rfl,?_,rfl,rfl⟩
 exact AU (AB (by omega) (by omega))
def F0:Con:={ ι:=Fr×Fr,pre:=λ i=>True,args:=λ i=>[dF i.1,dF i.2],mono:=true,res:=λ i=>⟨false,[none],[rcB (eqF i.1 i.2)]⟩ }
theorem Om:F0.Ok Tryz.prog 109:=by
 refine fok (X:=⟨tt,[(174,Dk)],[],28,[]⟩) mixed AN (CTok.cons SE (CTok.nil _)) Tryz.func109 (λ _=>[]) ?_
 rintro ⟨r,s⟩ hpre
 have hpre:True:=hpre
 refine AP (q:=let Z1:=(vB false=vB (eqF r s));ifB (((decide (r.z<0)) == (decide (s.z<0)))) (∃ i1:Nat×Nat,[DA.one (cS (L r.z.natAbs)),DA.one (cS (L s.z.natAbs))]=Dk.args i1/\Dk.pre i1/\(ifB ((decide (i1.1=i1.2))) (∃ i2:Nat×Nat,[DA.one (cS (L r.d)),DA.one (cS (L s.d))]=Dk.args i2/\Dk.pre i2/\((vB (decide (i2.1=i2.2))=vB (eqF r s)))) Z1)) Z1) (by kernel_rfl) ?_
 conv=>zeta
 delta ifB vB
 have h1:=r.nlz
 have h2:=r.nld
 have h3:=s.nlz
 have h4:=s.nld
 refine And.symm ⟨λ c1=>?_,λ c1=>?_⟩
 ·try simp only [nrm] at c1
  exact congrArg Value.bool (by unfold eqF;rw [decide_eq_false (λ e=>c1 (by rw [e]))];rfl)
 try simp only [nrm] at c1
 refine ⟨(r.z.natAbs,s.z.natAbs),by
  rfl,by
  show nl r.z.natAbs<=1048576/\nl s.z.natAbs<=1048576
  exact ⟨by omega,by omega⟩,?_⟩
 refine And.symm ⟨λ c5=>?_,λ c5=>?_⟩
 ·try simp only [nrm] at c5
  exact congrArg Value.bool (by unfold eqF;rw [decide_eq_false (λ e=>c5 (by rw [e]))];rfl)
 try simp only [nrm] at c5
 refine ⟨(r.d,s.d),by
  rfl,by
  show nl r.d<=1048576/\nl s.d<=1048576
  exact ⟨by omega,by omega⟩,?_⟩
 exact congrArg Value.bool (by unfold eqF;rw [decide_eq_true (YD c1 c5)];rfl)
end Go.Proofs.YtmedodfenejimaaGreat
