import Derived.Test.YtdgmbbjoifneiaaGreatDoorPyRkT
namespace Go.Proofs.YtdgmbbjoifneiaaGreatDoor
set_option linter.unusedVariables false
set_option linter.unusedSimpArgs false
open Go.RowKit
def Ek:Con:={ ι:=Int×Int×Int,pre:=λ i=>True,args:=λ i=>[.one (cI i.1),.one (cI i.2.1),.one (cI i.2.2)],mono:=true,res:=λ i=>⟨false,[none],[rcB (decide (i.1≥i.2.1) && decide (i.1<=i.2.2))]⟩ }
set_option maxRecDepth 100000 in
theorem RK:Ek.Ok Tryz.prog 38:=by
 refine fok (X:=⟨tt,[],[],15,[]⟩) mixed AP (CTok.nil _) Tryz.func38 (λ _=>[]) ?_
 rintro ⟨n,lo,hi⟩ hpre
 have hpre:True:=hpre
 refine AO (q:=let Z1:=decide (n≥lo) && decide (n<=hi);ifB ((decide (n≥lo))) ((vB (decide (n<=hi))=vB Z1)) ((vB false=vB Z1))) (by kernel_rfl) ?_
 conv=>zeta
 delta ifB vB
 refine ⟨λ c1=>?_,λ c1=>?_⟩
 ·try simp only [nrm] at c1
  have e:decide (n≥lo)=true:=by simpa using c1
  rw [e];rfl
 try simp only [nrm] at c1
 have e:decide (n≥lo)=false:=by simpa using c1
 rw [e];rfl
end Go.Proofs.YtdgmbbjoifneiaaGreatDoor
