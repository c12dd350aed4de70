import Derived.Test.YthnkggacopepgaaGreatCtRkLs
namespace Go.Proofs.YthnkggacopepgaaGreat
set_option linter.unusedVariables false
set_option linter.unusedSimpArgs false
open Go.RowKit
def lawCanTurnAt_con:Con:={ ι:=Scn×Int×Int,pre:=fun i=>hasRow [.int,.int,.int,.int,.sl 61 [.int,.int],.sl 33 [.sl 61 [.int,.int]],.sl 61 [.int,.int]] (scnD i.1),args:=fun i=>[.agg [.im (.int .i64 i.1.low.1),.im (.int .i64 i.1.low.2),.im (.int .i64 i.1.high.1),.im (.int .i64 i.1.high.2),.sl 54 [.int,.int] (vecsD i.1.robot),.sl 22 [.sl 54 [.int,.int]] (areasD i.1.obst),.sl 54 [.int,.int] (vecsD i.1.tables)],.agg [.im (.int .i64 i.2.1),.im (.int .i64 i.2.2)]],res:=fun i=>⟨false,[none],[.im (Value.bool true)]⟩ }
set_option maxRecDepth 100000 in
set_option maxHeartbeats 4000000 in
theorem lawCanTurnAt_ok:lawCanTurnAt_con.Ok Tryz.prog 8:=by
 refine fn_ok (X:=⟨tt,[(33,szScene_con),(35,toScene_con),(43,toVec_con),(42,sCanTurn_con),(44,iCanTurn_con),(38,eqScene_con)],[],33⟩) mixed tt_ok (CTok.cons szScene_ok (CTok.cons toScene_ok (CTok.cons toVec_ok (CTok.cons sCanTurn_ok (CTok.cons iCanTurn_ok (CTok.cons eqScene_ok (CTok.nil _))))))) Tryz.func8 (by decide) rfl rfl rfl (fun _=>Nat.le_of_ble_eq_true rfl) (fun _=>Nat.le_of_ble_eq_true rfl) (fun _=>[]) ?_
 rintro ⟨s,x,y⟩ hpre
 have hpre:hasRow [.int,.int,.int,.int,.sl 61 [.int,.int],.sl 33 [.sl 61 [.int,.int]],.sl 61 [.int,.int]] (scnD s):=hpre
 refine by_nf (q:=∃ i1:Scn×Int,[DA.agg [cI s.low.1,cI s.low.2,cI s.high.1,cI s.high.2,DC.sl 54 [.int,.int] (vecsD s.robot),DC.sl 22 [.sl 54 [.int,.int]] (areasD s.obst),DC.sl 54 [.int,.int] (vecsD s.tables)],DA.one (cI (1048576:Int))]=szScene_con.args i1∧szScene_con.pre i1∧(((decide ((szR (szRow [.int i1.1.low.1,.int i1.1.low.2,.int i1.1.high.1,.int i1.1.high.2,.sl (vecsD i1.1.robot),.sl (areasD i1.1.obst),.sl (vecsD i1.1.tables)]) i1.2) < (0:Int)))=true→((Value.bool true=Value.bool true)))∧((decide ((szR (szRow [.int i1.1.low.1,.int i1.1.low.2,.int i1.1.high.1,.int i1.1.high.2,.sl (vecsD i1.1.robot),.sl (areasD i1.1.obst),.sl (vecsD i1.1.tables)]) i1.2) < (0:Int)))=false→(∃ i2:Scn,[DA.agg [cI s.low.1,cI s.low.2,cI s.high.1,cI s.high.2,DC.sl 54 [.int,.int] (vecsD s.robot),DC.sl 22 [.sl 54 [.int,.int]] (areasD s.obst),DC.sl 54 [.int,.int] (vecsD s.tables)]]=toScene_con.args i2∧toScene_con.pre i2∧(∃ i3:(Int×Int),[DA.agg [cI x,cI y]]=toVec_con.args i3∧toVec_con.pre i3∧(∃ i4:Scn×Int×Int,[DA.agg [cI i2.low.1,cI i2.low.2,cI i2.high.1,cI i2.high.2,DC.sl 61 [.int,.int] (vecsD i2.robot),DC.sl 33 [.sl 61 [.int,.int]] (areasD i2.obst),DC.sl 61 [.int,.int] (vecsD i2.tables)],DA.agg [cI i3.1,cI i3.2]]=sCanTurn_con.args i4∧sCanTurn_con.pre i4∧(∃ i5:Scn,[DA.agg [cI s.low.1,cI s.low.2,cI s.high.1,cI s.high.2,DC.sl 54 [.int,.int] (vecsD s.robot),DC.sl 22 [.sl 54 [.int,.int]] (areasD s.obst),DC.sl 54 [.int,.int] (vecsD s.tables)]]=toScene_con.args i5∧toScene_con.pre i5∧(∃ i6:(Int×Int),[DA.agg [cI x,cI y]]=toVec_con.args i6∧toVec_con.pre i6∧(∃ i7:Scn×Int×Int,[DA.agg [cI i5.low.1,cI i5.low.2,cI i5.high.1,cI i5.high.2,DC.sl 61 [.int,.int] (vecsD i5.robot),DC.sl 33 [.sl 61 [.int,.int]] (areasD i5.obst),DC.sl 61 [.int,.int] (vecsD i5.tables)],DA.agg [cI i6.1,cI i6.2]]=iCanTurn_con.args i7∧iCanTurn_con.pre i7∧((((canT i7.1 (i7.2.1,i7.2.2)) != (canT i4.1 (i4.2.1,i4.2.2)))=true→((Value.bool false=Value.bool true)))∧(((canT i7.1 (i7.2.1,i7.2.2)) != (canT i4.1 (i4.2.1,i4.2.2)))=false→(∃ i8:Scn,[DA.agg [cI s.low.1,cI s.low.2,cI s.high.1,cI s.high.2,DC.sl 54 [.int,.int] (vecsD s.robot),DC.sl 22 [.sl 54 [.int,.int]] (areasD s.obst),DC.sl 54 [.int,.int] (vecsD s.tables)]]=toScene_con.args i8∧toScene_con.pre i8∧(∃ i9:Scn,[DA.agg [cI i5.low.1,cI i5.low.2,cI i5.high.1,cI i5.high.2,DC.sl 61 [.int,.int] (vecsD i5.robot),DC.sl 33 [.sl 61 [.int,.int]] (areasD i5.obst),DC.sl 61 [.int,.int] (vecsD i5.tables)],DA.agg [cI i8.low.1,cI i8.low.2,cI i8.high.1,cI i8.high.2,DC.sl 61 [.int,.int] (vecsD i8.robot),DC.sl 33 [.sl 61 [.int,.int]] (areasD i8.obst),DC.sl 61 [.int,.int] (vecsD i8.tables)]]=eqScene_con.args i9∧eqScene_con.pre i9∧(((!true)=true→((Value.bool false=Value.bool true)))∧((!true)=false→((Value.bool true=Value.bool true))))))))))))))))) (by kernel_rfl) ?_
 refine ⟨(s,(1048576:Int)),by
  rfl,by
  show hasRow [.int,.int,.int,.int,.sl 61 [.int,.int],.sl 33 [.sl 61 [.int,.int]],.sl 61 [.int,.int]] [.int s.low.1,.int s.low.2,.int s.high.1,.int s.high.2,.sl (vecsD s.robot),.sl (areasD s.obst),.sl (vecsD s.tables)]∧0≤(1048576:Int)∧(1048576:Int)≤1048576
  first|trivial|exact ⟨hpre,by omega,by omega⟩|exact gs|exact hz|(simp [szRow,Dat.sz];done),?_⟩
 refine ⟨fun c4=>?_,fun c4=>?_⟩
 ·skip
  replace c4:(decide ((szR (szRow [.int s.low.1,.int s.low.2,.int s.high.1,.int s.high.2,.sl (vecsD s.robot),.sl (areasD s.obst),.sl (vecsD s.tables)]) (1048576:Int)) < (0:Int)))=true:=c4
  try simp only [nrm] at c4
  exact rfl
 ·skip
  replace c4:(decide ((szR (szRow [.int s.low.1,.int s.low.2,.int s.high.1,.int s.high.2,.sl (vecsD s.robot),.sl (areasD s.obst),.sl (vecsD s.tables)]) (1048576:Int)) < (0:Int)))=false:=c4
  try simp only [nrm] at c4
  have z1:=szR_ge c4
  have gs:szRow [.int s.low.1,.int s.low.2,.int s.high.1,.int s.high.2,.sl (vecsD s.robot),.sl (areasD s.obst),.sl (vecsD s.tables)]≤1048576:=Int.ofNat_le.1 z1.2
  have hz:scnSz s:=scnD_sz gs
  refine ⟨s,by
   rfl,by
   show szRow [.int s.low.1,.int s.low.2,.int s.high.1,.int s.high.2,.sl (vecsD s.robot),.sl (areasD s.obst),.sl (vecsD s.tables)]≤1048576
   first|trivial|exact ⟨hpre,by omega,by omega⟩|exact gs|exact hz|(simp [szRow,Dat.sz];done),?_⟩
  refine ⟨(x,y),by
   rfl,by
   show szRow [.int (x,y).1,.int (x,y).2]≤1048576
   first|trivial|exact ⟨hpre,by omega,by omega⟩|exact gs|exact hz|(simp [szRow,Dat.sz];done),?_⟩
  refine ⟨(s,x,y),by
   rfl,by
   show scnSz s
   first|trivial|exact ⟨hpre,by omega,by omega⟩|exact gs|exact hz|(simp [szRow,Dat.sz];done),?_⟩
  refine ⟨s,by
   rfl,by
   show szRow [.int s.low.1,.int s.low.2,.int s.high.1,.int s.high.2,.sl (vecsD s.robot),.sl (areasD s.obst),.sl (vecsD s.tables)]≤1048576
   first|trivial|exact ⟨hpre,by omega,by omega⟩|exact gs|exact hz|(simp [szRow,Dat.sz];done),?_⟩
  refine ⟨(x,y),by
   rfl,by
   show szRow [.int (x,y).1,.int (x,y).2]≤1048576
   first|trivial|exact ⟨hpre,by omega,by omega⟩|exact gs|exact hz|(simp [szRow,Dat.sz];done),?_⟩
  refine ⟨(s,x,y),by
   rfl,by
   show scnSz s
   first|trivial|exact ⟨hpre,by omega,by omega⟩|exact gs|exact hz|(simp [szRow,Dat.sz];done),?_⟩
  refine ⟨fun c24=>?_,fun c24=>?_⟩
  ·skip
   replace c24:((canT s (x,y)) != (canT s (x,y)))=true:=c24
   try simp only [nrm] at c24
   show Value.bool false=Value.bool true
   first|rfl|contradiction|(exfalso;omega)|simp_all
  ·skip
   replace c24:((canT s (x,y)) != (canT s (x,y)))=false:=c24
   try simp only [nrm] at c24
   refine ⟨s,by
    rfl,by
    show szRow [.int s.low.1,.int s.low.2,.int s.high.1,.int s.high.2,.sl (vecsD s.robot),.sl (areasD s.obst),.sl (vecsD s.tables)]≤1048576
    first|trivial|exact ⟨hpre,by omega,by omega⟩|exact gs|exact hz|(simp [szRow,Dat.sz];done),?_⟩
   refine ⟨s,by
    rfl,by
    first|trivial|exact ⟨hpre,by omega,by omega⟩|exact gs|exact hz|(simp [szRow,Dat.sz];done),?_⟩
   refine ⟨fun c32=>?_,fun c32=>?_⟩
   ·skip
    try simp only [nrm] at c32
    show Value.bool false=Value.bool true
    first|rfl|contradiction|(exfalso;omega)|simp_all
   ·skip
    try simp only [nrm] at c32
    exact rfl
end Go.Proofs.YthnkggacopepgaaGreat
