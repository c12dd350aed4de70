import Derived.Test.YtgggkcoljpimcaaDoorCkRkS2
namespace Go.Proofs.YtgggkcoljpimcaaDoor
set_option linter.unusedVariables false
set_option linter.unusedSimpArgs false
open Go.RowKit
def Au:Con:={ ι:=Scn,pre:=λ i=>hasRow [.int,.int,.int,.int,.sl 36 [.int,.int],.sl 25 [.sl 36 [.int,.int]],.sl 36 [.int,.int]] (Hf i),args:=λ i=>[DA.agg [cI i.low.1,cI i.low.2,cI i.high.1,cI i.high.2,DC.sl 30 [.int,.int] (AA i.robot),DC.sl 22 [.sl 30 [.int,.int]] (AH i.obst),DC.sl 30 [.int,.int] (AA i.tables)]],res:=λ i=>⟨false,[none],[rcB true]⟩ }
set_option maxRecDepth 100000 in
theorem DP:Au.Ok Tryd.prog 5:=by
 refine fok (X:=⟨tt,[(11,BU),(13,Al),(16,D5),(17,D4),(15,By)],[],27,[]⟩) mixed Bp (CTok.cons Jv (CTok.cons Jx (CTok.cons Mi (CTok.cons Mh (CTok.cons Jw (CTok.nil _)))))) Tryd.func5 (λ _=>[]) ?_
 intro (s:Scn) hpre
 have hpre:hasRow [.int,.int,.int,.int,.sl 36 [.int,.int],.sl 25 [.sl 36 [.int,.int]],.sl 36 [.int,.int]] (Hf s):=hpre
 refine Bv (q:=let Z3:=AH s.obst;let Z2:=AA s.robot;let Z1:=AA s.tables;∃ i1:Scn×Int,[DA.agg [cI s.low.1,cI s.low.2,cI s.high.1,cI s.high.2,DC.sl 30 [.int,.int] Z2,DC.sl 22 [.sl 30 [.int,.int]] Z3,DC.sl 30 [.int,.int] Z1],DA.one (cI (1048576:Int))]=BU.args i1/\BU.pre i1/\(ifB ((decide ((szR (AO [.int i1.1.low.1,.int i1.1.low.2,.int i1.1.high.1,.int i1.1.high.2,.sl (AA i1.1.robot),.sl (AH i1.1.obst),.sl (AA i1.1.tables)]) i1.2)<(0:Int)))) ((vB true=vB true)) (∃ i2:Scn,[DA.agg [cI s.low.1,cI s.low.2,cI s.high.1,cI s.high.2,DC.sl 30 [.int,.int] Z2,DC.sl 22 [.sl 30 [.int,.int]] Z3,DC.sl 30 [.int,.int] Z1]]=Al.args i2/\Al.pre i2/\(∃ i3:Scn,[DA.agg [cI i2.low.1,cI i2.low.2,cI i2.high.1,cI i2.high.2,DC.sl 36 [.int,.int] (AA i2.robot),DC.sl 25 [.sl 36 [.int,.int]] (AH i2.obst),DC.sl 36 [.int,.int] (AA i2.tables)]]=D5.args i3/\D5.pre i3/\(∃ i4:Scn,[DA.agg [cI s.low.1,cI s.low.2,cI s.high.1,cI s.high.2,DC.sl 30 [.int,.int] Z2,DC.sl 22 [.sl 30 [.int,.int]] Z3,DC.sl 30 [.int,.int] Z1]]=Al.args i4/\Al.pre i4/\(∃ i5:Scn,[DA.agg [cI i4.low.1,cI i4.low.2,cI i4.high.1,cI i4.high.2,DC.sl 36 [.int,.int] (AA i4.robot),DC.sl 25 [.sl 36 [.int,.int]] (AH i4.obst),DC.sl 36 [.int,.int] (AA i4.tables)]]=D4.args i5/\D4.pre i5/\(ifB (((GY i5) != (GY i3))) ((vB false=vB true)) (∃ i6:Scn,[DA.agg [cI s.low.1,cI s.low.2,cI s.high.1,cI s.high.2,DC.sl 30 [.int,.int] Z2,DC.sl 22 [.sl 30 [.int,.int]] Z3,DC.sl 30 [.int,.int] Z1]]=Al.args i6/\Al.pre i6/\(∃ i7:Scn,[DA.agg [cI i4.low.1,cI i4.low.2,cI i4.high.1,cI i4.high.2,DC.sl 36 [.int,.int] (AA i4.robot),DC.sl 25 [.sl 36 [.int,.int]] (AH i4.obst),DC.sl 36 [.int,.int] (AA i4.tables)],DA.agg [cI i6.low.1,cI i6.low.2,cI i6.high.1,cI i6.high.2,DC.sl 36 [.int,.int] (AA i6.robot),DC.sl 25 [.sl 36 [.int,.int]] (AH i6.obst),DC.sl 36 [.int,.int] (AA i6.tables)]]=By.args i7/\By.pre i7/\(ifB ((!true)) ((vB false=vB true)) ((vB true=vB true)))))))))))) (by kernel_rfl) ?_
 conv=>zeta
 delta ifB vB
 refine ⟨(s,(1048576:Int)),by
  rfl,by
  try dsimp only [BU]
  first|trivial|exact ⟨hpre,by omega,by omega⟩|exact gs,?_⟩
 refine ⟨λ c4=>?_,λ c4=>?_⟩
 ·try dsimp only at c4
  try simp only [nrm] at c4
  exact rfl
 try dsimp only at c4
 try simp only [nrm] at c4
 have z1:=M6 c4
 have gs:AO [.int s.low.1,.int s.low.2,.int s.high.1,.int s.high.2,.sl (AA s.robot),.sl (AH s.obst),.sl (AA s.tables)]<=1048576:=Int.ofNat_le.1 z1.2
 refine ⟨s,by
  rfl,by
  show AO [.int s.low.1,.int s.low.2,.int s.high.1,.int s.high.2,.sl (AA s.robot),.sl (AH s.obst),.sl (AA s.tables)]<=1048576
  first|trivial|exact ⟨hpre,by omega,by omega⟩|exact gs,?_⟩
 refine ⟨s,by
  rfl,by
  first|trivial|exact ⟨hpre,by omega,by omega⟩|exact gs,?_⟩
 refine ⟨s,by
  rfl,by
  show AO [.int s.low.1,.int s.low.2,.int s.high.1,.int s.high.2,.sl (AA s.robot),.sl (AH s.obst),.sl (AA s.tables)]<=1048576
  first|trivial|exact ⟨hpre,by omega,by omega⟩|exact gs,?_⟩
 refine ⟨s,by
  rfl,by
  first|trivial|exact ⟨hpre,by omega,by omega⟩|exact gs,?_⟩
 refine ⟨λ c18=>?_,λ c18=>?_⟩
 ·try simp only [nrm] at c18
  first|rfl|contradiction|(exfalso;omega)|simp_all
 try simp only [nrm] at c18
 refine ⟨s,by
  rfl,by
  show AO [.int s.low.1,.int s.low.2,.int s.high.1,.int s.high.2,.sl (AA s.robot),.sl (AH s.obst),.sl (AA s.tables)]<=1048576
  first|trivial|exact ⟨hpre,by omega,by omega⟩|exact gs,?_⟩
 refine ⟨s,by
  rfl,by
  first|trivial|exact ⟨hpre,by omega,by omega⟩|exact gs,?_⟩
 refine ⟨λ c26=>?_,λ c26=>?_⟩
 ·try simp only [nrm] at c26
  first|rfl|contradiction|(exfalso;omega)|simp_all
 try simp only [nrm] at c26
 exact rfl
end Go.Proofs.YtgggkcoljpimcaaDoor
