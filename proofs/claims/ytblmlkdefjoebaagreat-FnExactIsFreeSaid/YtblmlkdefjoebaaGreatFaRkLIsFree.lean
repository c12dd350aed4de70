import Derived.Test.YtblmlkdefjoebaaGreatFaRkFr
import Derived.Test.YtblmlkdefjoebaaGreatFaRkLs
namespace Go.Proofs.YtblmlkdefjoebaaGreat
set_option linter.unusedVariables false
set_option linter.unusedSimpArgs false
open Go.RowKit
def lawIsFree_con:Con:={ ι:=Scn×Int×PtD,pre:=fun i=>hasRow [.int,.int,.int,.int,.sl 37 [.int,.int],.sl 74 [.sl 37 [.int,.int]],.sl 37 [.int,.int]] (scnD i.1)∧hasRow [.bool,.sl 3 [.int],.sl 3 [.int],.bool,.sl 3 [.int],.sl 3 [.int]] (ptD i.2.2),args:=fun i=>[.agg [.im (.int .i64 i.1.low.1),.im (.int .i64 i.1.low.2),.im (.int .i64 i.1.high.1),.im (.int .i64 i.1.high.2),.sl 23 [.int,.int] (vecsD i.1.robot),.sl 62 [.sl 23 [.int,.int]] (areasD i.1.obst),.sl 23 [.int,.int] (vecsD i.1.tables)],.one (.im (.int .i64 i.2.1)),.agg [.im (.bool i.2.2.x.neg),.sl 3 [.int] i.2.2.x.num,.sl 3 [.int] i.2.2.x.den,.im (.bool i.2.2.y.neg),.sl 3 [.int] i.2.2.y.num,.sl 3 [.int] i.2.2.y.den]],res:=fun i=>⟨false,[none],[.im (Value.bool true)]⟩ }
set_option maxRecDepth 100000 in
set_option maxHeartbeats 4000000 in
theorem lawIsFree_ok:lawIsFree_con.Ok Tryz.prog 5:=by
 refine fn_ok (X:=⟨tt,[(30,szScene_con),(31,szPoint_con),(33,toScene_con),(34,toPoint_con),(32,sFree_con),(35,iFree_con),(36,eqScene_con),(37,eqPoint_con)],[],49,[]⟩) mixed tt_ok (CTok.cons szScene_ok (CTok.cons szPoint_ok (CTok.cons toScene_ok (CTok.cons toPoint_ok (CTok.cons sFree_ok (CTok.cons iFree_ok (CTok.cons eqScene_ok (CTok.cons eqPoint_ok (CTok.nil _))))))))) (InlOk.nil _) Tryz.func5 (by decide) rfl rfl rfl (fun _=>Nat.le_of_ble_eq_true rfl) (fun _=>Nat.le_of_ble_eq_true rfl) (fun _=>[]) ?_
 rintro ⟨s,h,p⟩ hpre
 have hpre:hasRow [.int,.int,.int,.int,.sl 37 [.int,.int],.sl 74 [.sl 37 [.int,.int]],.sl 37 [.int,.int]] (scnD s)∧hasRow [.bool,.sl 3 [.int],.sl 3 [.int],.bool,.sl 3 [.int],.sl 3 [.int]] (ptD p):=hpre
 refine by_nf (q:=∃ i1:Scn×Int,[DA.agg [cI s.low.1,cI s.low.2,cI s.high.1,cI s.high.2,DC.sl 23 [.int,.int] (vecsD s.robot),DC.sl 62 [.sl 23 [.int,.int]] (areasD s.obst),DC.sl 23 [.int,.int] (vecsD s.tables)],DA.one (cI (1048576:Int))]=szScene_con.args i1∧szScene_con.pre i1∧(((decide ((szR (szRow [.int i1.1.low.1,.int i1.1.low.2,.int i1.1.high.1,.int i1.1.high.2,.sl (vecsD i1.1.robot),.sl (areasD i1.1.obst),.sl (vecsD i1.1.tables)]) i1.2) < (0:Int)))=true→((Value.bool true=Value.bool true)))∧((decide ((szR (szRow [.int i1.1.low.1,.int i1.1.low.2,.int i1.1.high.1,.int i1.1.high.2,.sl (vecsD i1.1.robot),.sl (areasD i1.1.obst),.sl (vecsD i1.1.tables)]) i1.2) < (0:Int)))=false→(∃ i2:PtD×Int,[DA.agg [cB p.x.neg,cS p.x.num,cS p.x.den,cB p.y.neg,cS p.y.num,cS p.y.den],DA.one (cI (szR (szRow [.int i1.1.low.1,.int i1.1.low.2,.int i1.1.high.1,.int i1.1.high.2,.sl (vecsD i1.1.robot),.sl (areasD i1.1.obst),.sl (vecsD i1.1.tables)]) i1.2))]=szPoint_con.args i2∧szPoint_con.pre i2∧(((decide ((szR (szRow [.bool i2.1.x.neg,.sl i2.1.x.num,.sl i2.1.x.den,.bool i2.1.y.neg,.sl i2.1.y.num,.sl i2.1.y.den]) i2.2) < (0:Int)))=true→((Value.bool true=Value.bool true)))∧((decide ((szR (szRow [.bool i2.1.x.neg,.sl i2.1.x.num,.sl i2.1.x.den,.bool i2.1.y.neg,.sl i2.1.y.num,.sl i2.1.y.den]) i2.2) < (0:Int)))=false→(∃ i3:Scn,[DA.agg [cI s.low.1,cI s.low.2,cI s.high.1,cI s.high.2,DC.sl 23 [.int,.int] (vecsD s.robot),DC.sl 62 [.sl 23 [.int,.int]] (areasD s.obst),DC.sl 23 [.int,.int] (vecsD s.tables)]]=toScene_con.args i3∧toScene_con.pre i3∧(∃ i4:PtD,[DA.agg [cB p.x.neg,cS p.x.num,cS p.x.den,cB p.y.neg,cS p.y.num,cS p.y.den]]=toPoint_con.args i4∧toPoint_con.pre i4∧(∃ i5:Scn×Int×PtD,[DA.agg [cI i3.low.1,cI i3.low.2,cI i3.high.1,cI i3.high.2,DC.sl 37 [.int,.int] (vecsD i3.robot),DC.sl 74 [.sl 37 [.int,.int]] (areasD i3.obst),DC.sl 37 [.int,.int] (vecsD i3.tables)],DA.one (cI h),DA.agg [cB i4.x.neg,cS i4.x.num,cS i4.x.den,cB i4.y.neg,cS i4.y.num,cS i4.y.den]]=sFree_con.args i5∧sFree_con.pre i5∧(∃ i6:Scn,[DA.agg [cI s.low.1,cI s.low.2,cI s.high.1,cI s.high.2,DC.sl 23 [.int,.int] (vecsD s.robot),DC.sl 62 [.sl 23 [.int,.int]] (areasD s.obst),DC.sl 23 [.int,.int] (vecsD s.tables)]]=toScene_con.args i6∧toScene_con.pre i6∧(∃ i7:PtD,[DA.agg [cB p.x.neg,cS p.x.num,cS p.x.den,cB p.y.neg,cS p.y.num,cS p.y.den]]=toPoint_con.args i7∧toPoint_con.pre i7∧(∃ i8:Scn×Int×PtD,[DA.agg [cI i6.low.1,cI i6.low.2,cI i6.high.1,cI i6.high.2,DC.sl 37 [.int,.int] (vecsD i6.robot),DC.sl 74 [.sl 37 [.int,.int]] (areasD i6.obst),DC.sl 37 [.int,.int] (vecsD i6.tables)],DA.one (cI h),DA.agg [cB i7.x.neg,cS i7.x.num,cS i7.x.den,cB i7.y.neg,cS i7.y.num,cS i7.y.den]]=iFree_con.args i8∧iFree_con.pre i8∧((((freeS i8.1 i8.2.1 i8.2.2) != (freeS i5.1 i5.2.1 i5.2.2))=true→((Value.bool false=Value.bool true)))∧(((freeS i8.1 i8.2.1 i8.2.2) != (freeS i5.1 i5.2.1 i5.2.2))=false→(∃ i9:Scn,[DA.agg [cI s.low.1,cI s.low.2,cI s.high.1,cI s.high.2,DC.sl 23 [.int,.int] (vecsD s.robot),DC.sl 62 [.sl 23 [.int,.int]] (areasD s.obst),DC.sl 23 [.int,.int] (vecsD s.tables)]]=toScene_con.args i9∧toScene_con.pre i9∧(∃ i10:Scn,[DA.agg [cI i6.low.1,cI i6.low.2,cI i6.high.1,cI i6.high.2,DC.sl 37 [.int,.int] (vecsD i6.robot),DC.sl 74 [.sl 37 [.int,.int]] (areasD i6.obst),DC.sl 37 [.int,.int] (vecsD i6.tables)],DA.agg [cI i9.low.1,cI i9.low.2,cI i9.high.1,cI i9.high.2,DC.sl 37 [.int,.int] (vecsD i9.robot),DC.sl 74 [.sl 37 [.int,.int]] (areasD i9.obst),DC.sl 37 [.int,.int] (vecsD i9.tables)]]=eqScene_con.args i10∧eqScene_con.pre i10∧(((!true)=true→((Value.bool false=Value.bool true)))∧((!true)=false→(∃ i11:PtD,[DA.agg [cB p.x.neg,cS p.x.num,cS p.x.den,cB p.y.neg,cS p.y.num,cS p.y.den]]=toPoint_con.args i11∧toPoint_con.pre i11∧(∃ i12:PtD,[DA.agg [cB i7.x.neg,cS i7.x.num,cS i7.x.den,cB i7.y.neg,cS i7.y.num,cS i7.y.den],DA.agg [cB i11.x.neg,cS i11.x.num,cS i11.x.den,cB i11.y.neg,cS i11.y.num,cS i11.y.den]]=eqPoint_con.args i12∧eqPoint_con.pre i12∧(((!true)=true→((Value.bool false=Value.bool true)))∧((!true)=false→((Value.bool true=Value.bool true)))))))))))))))))))))))) (by kernel_rfl) ?_
 refine ⟨(s,(1048576:Int)),by
  rfl,by
  try dsimp only [szScene_con]
  exact ⟨hpre.1,by omega,by omega⟩,?_⟩
 refine ⟨fun c4=>?_,fun c4=>?_⟩
 ·try dsimp only at c4
  try simp only [nrm] at c4
  exact rfl
 try dsimp only at c4
 try simp only [nrm] at c4
 have z1:=szR_ge c4
 have gs:szRow [.int s.low.1,.int s.low.2,.int s.high.1,.int s.high.2,.sl (vecsD s.robot),.sl (areasD s.obst),.sl (vecsD s.tables)]≤1048576:=by have:=z1.2;omega
 have hz:scnSz s:=scnD_sz gs
 have hcs:(cntV [.int s.low.1,.int s.low.2,.int s.high.1,.int s.high.2,.sl (vecsD s.robot),.sl (areasD s.obst),.sl (vecsD s.tables)]:Int)≤2000000000:=cntV_small hpre.1 gs (by simp [KRow,Ty.K])
 refine ⟨(p,(szR (szRow [.int s.low.1,.int s.low.2,.int s.high.1,.int s.high.2,.sl (vecsD s.robot),.sl (areasD s.obst),.sl (vecsD s.tables)]) (1048576:Int))),by
  rfl,by
  try dsimp only [szPoint_con]
  exact ⟨hpre.2,c4,by have:=z1.1;omega⟩,?_⟩
 refine ⟨fun c9=>?_,fun c9=>?_⟩
 ·try dsimp only at c9
  try simp only [nrm] at c9
  exact rfl
 try dsimp only at c9
 try simp only [nrm] at c9
 have z2:=szR_ge c9
 have g_p:szRow [.bool p.x.neg,.sl p.x.num,.sl p.x.den,.bool p.y.neg,.sl p.y.num,.sl p.y.den]≤1048576:=by have:=z1.1;have:=z2.1;have:=z2.2;omega
 have hc_p:(cntV [.bool p.x.neg,.sl p.x.num,.sl p.x.den,.bool p.y.neg,.sl p.y.num,.sl p.y.den]:Int)≤2000000000:=cntV_small hpre.2 g_p (by simp [KRow,Ty.K])
 have hh_p:=pt_has hpre.2
 refine ⟨s,by
  rfl,by
  trivial,?_⟩
 refine ⟨p,by
  rfl,by
  trivial,?_⟩
 refine ⟨(s,h,p),by
  rfl,by
  trivial,?_⟩
 refine ⟨s,by
  rfl,by
  trivial,?_⟩
 refine ⟨p,by
  rfl,by
  trivial,?_⟩
 refine ⟨(s,h,p),by
  rfl,by
  trivial,?_⟩
 refine ⟨fun c29=>?_,fun c29=>?_⟩
 ·replace c29:((freeS s h p) != (freeS s h p))=true:=c29
  try simp only [nrm] at c29
  contradiction
 replace c29:((freeS s h p) != (freeS s h p))=false:=c29
 try simp only [nrm] at c29
 refine ⟨s,by
  rfl,by
  trivial,?_⟩
 refine ⟨s,by
  rfl,by
  trivial,?_⟩
 refine ⟨fun c37=>?_,fun c37=>?_⟩
 ·try simp only [nrm] at c37
  contradiction
 try simp only [nrm] at c37
 refine ⟨p,by
  rfl,by
  trivial,?_⟩
 refine ⟨p,by
  rfl,by
  trivial,?_⟩
 refine ⟨fun c45=>?_,fun c45=>?_⟩
 ·try simp only [nrm] at c45
  contradiction
 try simp only [nrm] at c45
 exact rfl
end Go.Proofs.YtblmlkdefjoebaaGreat
