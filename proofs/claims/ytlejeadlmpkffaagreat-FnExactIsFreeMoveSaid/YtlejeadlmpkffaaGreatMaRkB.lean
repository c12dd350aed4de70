import Derived.Test.YtlejeadlmpkffaaGreatMaRkT
namespace Go.Proofs.YtlejeadlmpkffaaGreat
set_option maxRecDepth 100000
set_option linter.unusedVariables false
set_option linter.unusedSimpArgs false
open Go.RowKit
def within_con:Con:={ ι:=Int×Int×Int,pre:=λ i=>True,args:=λ i=>[.one (.im (.int .i64 i.1)),.one (.im (.int .i64 i.2.1)),.one (.im (.int .i64 i.2.2))],res:=λ i=>⟨false,[none],[.im (Value.bool (decide (i.1≥i.2.1) && decide (i.1<=i.2.2)))]⟩ }
theorem within_ok:within_con.Ok Tryz.prog 113:=by
 refine fok (X:=⟨tt,[],[],15,[]⟩) mixed tt_ok (CTok.nil _) Tryz.func113 (λ _=>[]) ?_
 rintro ⟨n,lo,hi⟩ hpre
 have hpre:True:=hpre
 refine by_nf (q:=((decide (n≥lo))=true->((Value.bool (decide (n<=hi))=Value.bool (decide (n≥lo) && decide (n<=hi)))))/\((decide (n≥lo))=false->((Value.bool false=Value.bool (decide (n≥lo) && decide (n<=hi)))))) (by kernel_rfl) ?_
 refine ⟨λ c1=>?_,λ c1=>?_⟩
 ·try simp only [nrm] at c1
  have e:decide (n≥lo)=true:=by simpa using c1
  rw [e];rfl
 try simp only [nrm] at c1
 have e:decide (n≥lo)=false:=by simpa using c1
 rw [e];rfl
def l01In_con:Con:={ ι:=Int×Int×Int,pre:=λ i=>True,args:=λ i=>[.one (.im (.int .i64 i.1)),.one (.im (.int .i64 i.2.1)),.one (.im (.int .i64 i.2.2))],res:=λ i=>⟨false,[none],[.im (Value.bool (decide (i.1≥i.2.1) && decide (i.1<=i.2.2)))]⟩ }
theorem l01In_ok:l01In_con.Ok Tryz.prog 53:=by
 refine fok (X:=⟨tt,[],[],15,[]⟩) mixed tt_ok (CTok.nil _) Tryz.func53 (λ _=>[]) ?_
 rintro ⟨n,lo,hi⟩ hpre
 have hpre:True:=hpre
 refine by_nf (q:=((decide (n≥lo))=true->((Value.bool (decide (n<=hi))=Value.bool (decide (n≥lo) && decide (n<=hi)))))/\((decide (n≥lo))=false->((Value.bool false=Value.bool (decide (n≥lo) && decide (n<=hi)))))) (by kernel_rfl) ?_
 refine ⟨λ c1=>?_,λ c1=>?_⟩
 ·try simp only [nrm] at c1
  have e:decide (n≥lo)=true:=by simpa using c1
  rw [e];rfl
 try simp only [nrm] at c1
 have e:decide (n≥lo)=false:=by simpa using c1
 rw [e];rfl
end Go.Proofs.YtlejeadlmpkffaaGreat
