import Derived.Test.YtlejeadlmpkffaaGreatMaRkFr
import Derived.Test.YtlejeadlmpkffaaGreatMaRkLb
namespace Go.Proofs.YtlejeadlmpkffaaGreat
set_option linter.unusedVariables false
set_option linter.unusedSimpArgs false
open Go.RowKit
def lawIsFreeMove_con:Con:={ ι:=Scn×Int×PtD×PtD,pre:=λ i=>hasRow [.int,.int,.int,.int,.sl 38 [.int,.int],.sl 39 [.sl 38 [.int,.int]],.sl 38 [.int,.int]] (scnD i.1)/\hasRow [.bool,.sl 3 [.int],.sl 3 [.int],.bool,.sl 3 [.int],.sl 3 [.int]] (ptD i.2.2.1)/\hasRow [.bool,.sl 3 [.int],.sl 3 [.int],.bool,.sl 3 [.int],.sl 3 [.int]] (ptD i.2.2.2),args:=λ i=>[.agg [.im (.int .i64 i.1.low.1),.im (.int .i64 i.1.low.2),.im (.int .i64 i.1.high.1),.im (.int .i64 i.1.high.2),.sl 23 [.int,.int] (vecsD i.1.robot),.sl 24 [.sl 23 [.int,.int]] (areasD i.1.obst),.sl 23 [.int,.int] (vecsD i.1.tables)],.one (.im (.int .i64 i.2.1)),.agg [.im (.bool i.2.2.1.x.neg),.sl 3 [.int] i.2.2.1.x.num,.sl 3 [.int] i.2.2.1.x.den,.im (.bool i.2.2.1.y.neg),.sl 3 [.int] i.2.2.1.y.num,.sl 3 [.int] i.2.2.1.y.den],.agg [.im (.bool i.2.2.2.x.neg),.sl 3 [.int] i.2.2.2.x.num,.sl 3 [.int] i.2.2.2.x.den,.im (.bool i.2.2.2.y.neg),.sl 3 [.int] i.2.2.2.y.num,.sl 3 [.int] i.2.2.2.y.den]],res:=λ i=>⟨false,[none],[.im (Value.bool true)]⟩ }
set_option maxRecDepth 100000 in
set_option maxHeartbeats 4000000 in
theorem lawIsFreeMove_ok:lawIsFreeMove_con.Ok Tryz.prog 3:=by
 refine fok (X:=⟨tt,[(4,szScene_con),(5,szPoint_con),(7,toScene_con),(8,toPoint_con),(6,sFreeMove_con),(9,iFreeMove_con),(10,eqScene_con),(11,eqPoint_con)],[],67,[]⟩) mixed tt_ok (CTok.cons szScene_ok (CTok.cons szPoint_ok (CTok.cons toScene_ok (CTok.cons toPoint_ok (CTok.cons sFreeMove_ok (CTok.cons iFreeMove_ok (CTok.cons eqScene_ok (CTok.cons eqPoint_ok (CTok.nil _))))))))) Tryz.func3 (λ _=>[]) ?_
 rintro ⟨s,h,p,q⟩ hpre
 have hpre:hasRow [.int,.int,.int,.int,.sl 38 [.int,.int],.sl 39 [.sl 38 [.int,.int]],.sl 38 [.int,.int]] (scnD s)/\hasRow [.bool,.sl 3 [.int],.sl 3 [.int],.bool,.sl 3 [.int],.sl 3 [.int]] (ptD p)/\hasRow [.bool,.sl 3 [.int],.sl 3 [.int],.bool,.sl 3 [.int],.sl 3 [.int]] (ptD q):=hpre
 refine by_nf (q:=∃ i1:Scn×Int,[DA.agg [cI s.low.1,cI s.low.2,cI s.high.1,cI s.high.2,DC.sl 23 [.int,.int] (vecsD s.robot),DC.sl 24 [.sl 23 [.int,.int]] (areasD s.obst),DC.sl 23 [.int,.int] (vecsD s.tables)],DA.one (cI (1048576:Int))]=szScene_con.args i1/\szScene_con.pre i1/\(((decide ((szR (szRow [.int i1.1.low.1,.int i1.1.low.2,.int i1.1.high.1,.int i1.1.high.2,.sl (vecsD i1.1.robot),.sl (areasD i1.1.obst),.sl (vecsD i1.1.tables)]) i1.2)<(0:Int)))=true->((Value.bool true=Value.bool true)))/\((decide ((szR (szRow [.int i1.1.low.1,.int i1.1.low.2,.int i1.1.high.1,.int i1.1.high.2,.sl (vecsD i1.1.robot),.sl (areasD i1.1.obst),.sl (vecsD i1.1.tables)]) i1.2)<(0:Int)))=false->(∃ i2:PtD×Int,[DA.agg [cB p.x.neg,cS p.x.num,cS p.x.den,cB p.y.neg,cS p.y.num,cS p.y.den],DA.one (cI (szR (szRow [.int i1.1.low.1,.int i1.1.low.2,.int i1.1.high.1,.int i1.1.high.2,.sl (vecsD i1.1.robot),.sl (areasD i1.1.obst),.sl (vecsD i1.1.tables)]) i1.2))]=szPoint_con.args i2/\szPoint_con.pre i2/\(((decide ((szR (szRow [.bool i2.1.x.neg,.sl i2.1.x.num,.sl i2.1.x.den,.bool i2.1.y.neg,.sl i2.1.y.num,.sl i2.1.y.den]) i2.2)<(0:Int)))=true->((Value.bool true=Value.bool true)))/\((decide ((szR (szRow [.bool i2.1.x.neg,.sl i2.1.x.num,.sl i2.1.x.den,.bool i2.1.y.neg,.sl i2.1.y.num,.sl i2.1.y.den]) i2.2)<(0:Int)))=false->(∃ i3:PtD×Int,[DA.agg [cB q.x.neg,cS q.x.num,cS q.x.den,cB q.y.neg,cS q.y.num,cS q.y.den],DA.one (cI (szR (szRow [.bool i2.1.x.neg,.sl i2.1.x.num,.sl i2.1.x.den,.bool i2.1.y.neg,.sl i2.1.y.num,.sl i2.1.y.den]) i2.2))]=szPoint_con.args i3/\szPoint_con.pre i3/\(((decide ((szR (szRow [.bool i3.1.x.neg,.sl i3.1.x.num,.sl i3.1.x.den,.bool i3.1.y.neg,.sl i3.1.y.num,.sl i3.1.y.den]) i3.2)<(0:Int)))=true->((Value.bool true=Value.bool true)))/\((decide ((szR (szRow [.bool i3.1.x.neg,.sl i3.1.x.num,.sl i3.1.x.den,.bool i3.1.y.neg,.sl i3.1.y.num,.sl i3.1.y.den]) i3.2)<(0:Int)))=false->(∃ i4:Scn,[DA.agg [cI s.low.1,cI s.low.2,cI s.high.1,cI s.high.2,DC.sl 23 [.int,.int] (vecsD s.robot),DC.sl 24 [.sl 23 [.int,.int]] (areasD s.obst),DC.sl 23 [.int,.int] (vecsD s.tables)]]=toScene_con.args i4/\toScene_con.pre i4/\(∃ i5:PtD,[DA.agg [cB p.x.neg,cS p.x.num,cS p.x.den,cB p.y.neg,cS p.y.num,cS p.y.den]]=toPoint_con.args i5/\toPoint_con.pre i5/\(∃ i6:PtD,[DA.agg [cB q.x.neg,cS q.x.num,cS q.x.den,cB q.y.neg,cS q.y.num,cS q.y.den]]=toPoint_con.args i6/\toPoint_con.pre i6/\(∃ i7:Scn×Int×PtD×PtD,[DA.agg [cI i4.low.1,cI i4.low.2,cI i4.high.1,cI i4.high.2,DC.sl 38 [.int,.int] (vecsD i4.robot),DC.sl 39 [.sl 38 [.int,.int]] (areasD i4.obst),DC.sl 38 [.int,.int] (vecsD i4.tables)],DA.one (cI h),DA.agg [cB i5.x.neg,cS i5.x.num,cS i5.x.den,cB i5.y.neg,cS i5.y.num,cS i5.y.den],DA.agg [cB i6.x.neg,cS i6.x.num,cS i6.x.den,cB i6.y.neg,cS i6.y.num,cS i6.y.den]]=sFreeMove_con.args i7/\sFreeMove_con.pre i7/\(∃ i8:Scn,[DA.agg [cI s.low.1,cI s.low.2,cI s.high.1,cI s.high.2,DC.sl 23 [.int,.int] (vecsD s.robot),DC.sl 24 [.sl 23 [.int,.int]] (areasD s.obst),DC.sl 23 [.int,.int] (vecsD s.tables)]]=toScene_con.args i8/\toScene_con.pre i8/\(∃ i9:PtD,[DA.agg [cB p.x.neg,cS p.x.num,cS p.x.den,cB p.y.neg,cS p.y.num,cS p.y.den]]=toPoint_con.args i9/\toPoint_con.pre i9/\(∃ i10:PtD,[DA.agg [cB q.x.neg,cS q.x.num,cS q.x.den,cB q.y.neg,cS q.y.num,cS q.y.den]]=toPoint_con.args i10/\toPoint_con.pre i10/\(∃ i11:Scn×Int×PtD×PtD,[DA.agg [cI i8.low.1,cI i8.low.2,cI i8.high.1,cI i8.high.2,DC.sl 38 [.int,.int] (vecsD i8.robot),DC.sl 39 [.sl 38 [.int,.int]] (areasD i8.obst),DC.sl 38 [.int,.int] (vecsD i8.tables)],DA.one (cI h),DA.agg [cB i9.x.neg,cS i9.x.num,cS i9.x.den,cB i9.y.neg,cS i9.y.num,cS i9.y.den],DA.agg [cB i10.x.neg,cS i10.x.num,cS i10.x.den,cB i10.y.neg,cS i10.y.num,cS i10.y.den]]=iFreeMove_con.args i11/\iFreeMove_con.pre i11/\((((moveS i11.1 i11.2.1 i11.2.2.1 i11.2.2.2) != (moveS i7.1 i7.2.1 i7.2.2.1 i7.2.2.2))=true->((Value.bool false=Value.bool true)))/\(((moveS i11.1 i11.2.1 i11.2.2.1 i11.2.2.2) != (moveS i7.1 i7.2.1 i7.2.2.1 i7.2.2.2))=false->(∃ i12:Scn,[DA.agg [cI s.low.1,cI s.low.2,cI s.high.1,cI s.high.2,DC.sl 23 [.int,.int] (vecsD s.robot),DC.sl 24 [.sl 23 [.int,.int]] (areasD s.obst),DC.sl 23 [.int,.int] (vecsD s.tables)]]=toScene_con.args i12/\toScene_con.pre i12/\(∃ i13:Scn,[DA.agg [cI i8.low.1,cI i8.low.2,cI i8.high.1,cI i8.high.2,DC.sl 38 [.int,.int] (vecsD i8.robot),DC.sl 39 [.sl 38 [.int,.int]] (areasD i8.obst),DC.sl 38 [.int,.int] (vecsD i8.tables)],DA.agg [cI i12.low.1,cI i12.low.2,cI i12.high.1,cI i12.high.2,DC.sl 38 [.int,.int] (vecsD i12.robot),DC.sl 39 [.sl 38 [.int,.int]] (areasD i12.obst),DC.sl 38 [.int,.int] (vecsD i12.tables)]]=eqScene_con.args i13/\eqScene_con.pre i13/\(((!true)=true->((Value.bool false=Value.bool true)))/\((!true)=false->(∃ i14:PtD,[DA.agg [cB p.x.neg,cS p.x.num,cS p.x.den,cB p.y.neg,cS p.y.num,cS p.y.den]]=toPoint_con.args i14/\toPoint_con.pre i14/\(∃ i15:PtD,[DA.agg [cB i9.x.neg,cS i9.x.num,cS i9.x.den,cB i9.y.neg,cS i9.y.num,cS i9.y.den],DA.agg [cB i14.x.neg,cS i14.x.num,cS i14.x.den,cB i14.y.neg,cS i14.y.num,cS i14.y.den]]=eqPoint_con.args i15/\eqPoint_con.pre i15/\(((!true)=true->((Value.bool false=Value.bool true)))/\((!true)=false->(∃ i16:PtD,[DA.agg [cB q.x.neg,cS q.x.num,cS q.x.den,cB q.y.neg,cS q.y.num,cS q.y.den]]=toPoint_con.args i16/\toPoint_con.pre i16/\(∃ i17:PtD,[DA.agg [cB i10.x.neg,cS i10.x.num,cS i10.x.den,cB i10.y.neg,cS i10.y.num,cS i10.y.den],DA.agg [cB i16.x.neg,cS i16.x.num,cS i16.x.den,cB i16.y.neg,cS i16.y.num,cS i16.y.den]]=eqPoint_con.args i17/\eqPoint_con.pre i17/\(((!true)=true->((Value.bool false=Value.bool true)))/\((!true)=false->((Value.bool true=Value.bool true))))))))))))))))))))))))))))))))) (by kernel_rfl) ?_
 refine ⟨(s,(1048576:Int)),by
  rfl,by
  try dsimp only [szScene_con]
  exact ⟨hpre.1,by omega,by omega⟩,?_⟩
 refine ⟨λ c4=>?_,λ c4=>?_⟩
 ·try dsimp only at c4
  try simp only [nrm] at c4
  exact rfl
 try dsimp only at c4
 try simp only [nrm] at c4
 have z1:=szR_ge c4
 have gs:szRow [.int s.low.1,.int s.low.2,.int s.high.1,.int s.high.2,.sl (vecsD s.robot),.sl (areasD s.obst),.sl (vecsD s.tables)]<=1048576:=by have:=z1.2;omega
 have hz:scnSz s:=scnD_sz gs
 have hcs:(cntV [.int s.low.1,.int s.low.2,.int s.high.1,.int s.high.2,.sl (vecsD s.robot),.sl (areasD s.obst),.sl (vecsD s.tables)]:Int)<=2000000000:=cntV_small hpre.1 gs (by simp [KRow,Ty.K])
 refine ⟨(p,(szR (szRow [.int s.low.1,.int s.low.2,.int s.high.1,.int s.high.2,.sl (vecsD s.robot),.sl (areasD s.obst),.sl (vecsD s.tables)]) (1048576:Int))),by
  rfl,by
  try dsimp only [szPoint_con]
  exact ⟨hpre.2.1,c4,by have:=z1.1;omega⟩,?_⟩
 refine ⟨λ c9=>?_,λ c9=>?_⟩
 ·try dsimp only at c9
  try simp only [nrm] at c9
  exact rfl
 try dsimp only at c9
 try simp only [nrm] at c9
 have z2:=szR_ge c9
 have g_p:szRow [.bool p.x.neg,.sl p.x.num,.sl p.x.den,.bool p.y.neg,.sl p.y.num,.sl p.y.den]<=1048576:=by have:=z1.1;have:=z2.1;have:=z2.2;omega
 have hc_p:(cntV [.bool p.x.neg,.sl p.x.num,.sl p.x.den,.bool p.y.neg,.sl p.y.num,.sl p.y.den]:Int)<=2000000000:=cntV_small hpre.2.1 g_p (by simp [KRow,Ty.K])
 have hh_p:=pt_has hpre.2.1
 refine ⟨(q,(szR (szRow [.bool p.x.neg,.sl p.x.num,.sl p.x.den,.bool p.y.neg,.sl p.y.num,.sl p.y.den]) (szR (szRow [.int s.low.1,.int s.low.2,.int s.high.1,.int s.high.2,.sl (vecsD s.robot),.sl (areasD s.obst),.sl (vecsD s.tables)]) (1048576:Int)))),by
  rfl,by
  try dsimp only [szPoint_con]
  exact ⟨hpre.2.2,c9,by have:=z1.1;have:=z2.1;omega⟩,?_⟩
 refine ⟨λ c14=>?_,λ c14=>?_⟩
 ·try dsimp only at c14
  try simp only [nrm] at c14
  exact rfl
 try dsimp only at c14
 try simp only [nrm] at c14
 have z3:=szR_ge c14
 have g_q:szRow [.bool q.x.neg,.sl q.x.num,.sl q.x.den,.bool q.y.neg,.sl q.y.num,.sl q.y.den]<=1048576:=by have:=z1.1;have:=z2.1;have:=z3.1;have:=z3.2;omega
 have hc_q:(cntV [.bool q.x.neg,.sl q.x.num,.sl q.x.den,.bool q.y.neg,.sl q.y.num,.sl q.y.den]:Int)<=2000000000:=cntV_small hpre.2.2 g_q (by simp [KRow,Ty.K])
 have hh_q:=pt_has hpre.2.2
 refine ⟨s,by
  rfl,by
  try dsimp only [toScene_con]
  exact ⟨hpre.1,gs⟩,?_⟩
 refine ⟨p,by
  rfl,by
  try dsimp only [toPoint_con]
  exact ⟨hpre.2.1,g_p⟩,?_⟩
 refine ⟨q,by
  rfl,by
  try dsimp only [toPoint_con]
  exact ⟨hpre.2.2,g_q⟩,?_⟩
 refine ⟨(s,h,p,q),by
  rfl,by
  show scnSz s/\p.has/\q.has
  exact ⟨hz,hh_p,hh_q⟩,?_⟩
 refine ⟨s,by
  rfl,by
  try dsimp only [toScene_con]
  exact ⟨hpre.1,gs⟩,?_⟩
 refine ⟨p,by
  rfl,by
  try dsimp only [toPoint_con]
  exact ⟨hpre.2.1,g_p⟩,?_⟩
 refine ⟨q,by
  rfl,by
  try dsimp only [toPoint_con]
  exact ⟨hpre.2.2,g_q⟩,?_⟩
 refine ⟨(s,h,p,q),by
  rfl,by
  show scnSz s/\p.has/\q.has
  exact ⟨hz,hh_p,hh_q⟩,?_⟩
 refine ⟨λ c40=>?_,λ c40=>?_⟩
 ·replace c40:((moveS s h p q) != (moveS s h p q))=true:=c40
  try simp only [nrm] at c40
  contradiction
 replace c40:((moveS s h p q) != (moveS s h p q))=false:=c40
 try simp only [nrm] at c40
 refine ⟨s,by
  rfl,by
  try dsimp only [toScene_con]
  exact ⟨hpre.1,gs⟩,?_⟩
 refine ⟨s,by
  rfl,by
  exact hpre.1,?_⟩
 refine ⟨λ c48=>?_,λ c48=>?_⟩
 ·try simp only [nrm] at c48
  contradiction
 try simp only [nrm] at c48
 refine ⟨p,by
  rfl,by
  try dsimp only [toPoint_con]
  exact ⟨hpre.2.1,g_p⟩,?_⟩
 refine ⟨p,by
  rfl,by
  exact hpre.2.1,?_⟩
 refine ⟨λ c56=>?_,λ c56=>?_⟩
 ·try simp only [nrm] at c56
  contradiction
 try simp only [nrm] at c56
 refine ⟨q,by
  rfl,by
  try dsimp only [toPoint_con]
  exact ⟨hpre.2.2,g_q⟩,?_⟩
 refine ⟨q,by
  rfl,by
  exact hpre.2.2,?_⟩
 refine ⟨λ c64=>?_,λ c64=>?_⟩
 ·try simp only [nrm] at c64
  contradiction
 try simp only [nrm] at c64
 exact rfl
end Go.Proofs.YtlejeadlmpkffaaGreat
