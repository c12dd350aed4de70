import Derived.Test.YthnkggacopepgaaGreatRcRkJ
import Derived.Test.YthnkggacopepgaaGreatRcRkLs
import Derived.Test.YthnkggacopepgaaGreatRcTyF
namespace Go.Proofs.YthnkggacopepgaaGreat
set_option linter.unusedVariables false
set_option linter.unusedSimpArgs false
open Go.RowKit
def eqPointS_con:Con:={ ι:=(List (List Dat)),pre:=fun i=>True,args:=fun i=>[.one (.sl 39 [.bool,.sl 3 [.int],.sl 3 [.int],.bool,.sl 3 [.int],.sl 3 [.int]] i),.one (.sl 39 [.bool,.sl 3 [.int],.sl 3 [.int],.bool,.sl 3 [.int],.sl 3 [.int]] i)],res:=fun i=>⟨false,[none],[.im (Value.bool true)]⟩ }
theorem eqPointS_ok:eqPointS_con.Ok Tryz.prog 37:=eqO_ok (.sl 39 [.bool,.sl 3 [.int],.sl 3 [.int],.bool,.sl 3 [.int],.sl 3 [.int]]) ⟨_,Tryz.func37,by decide,rfl⟩ (fun _=>rfl) (fun _=>rfl) (fun d v u w h h'=>by obtain ⟨l,_,_,rfl,_⟩:=Rd.sl_inv h;exact eqPointS_c l v u w h h')
def markPointS_con:Con:={ ι:=(List (List Dat))×Int,pre:=fun i=>0≤i.2∧i.2+(cntRows i.1:Int)≤4611686018427387904,args:=fun i=>[.one (.sl 39 [.bool,.sl 3 [.int],.sl 3 [.int],.bool,.sl 3 [.int],.sl 3 [.int]] i.1),.one (.im (.int .i64 i.2))],mu:=[0],new:=fun i=>[mkRows i.2 i.1],res:=fun i=>⟨false,[none],[.im (Value.int .i64 (i.2+(cntRows i.1:Int)))]⟩ }
theorem markPointS_ok:markPointS_con.Ok Tryz.prog 40:=markO_ok 39 [.bool,.sl 3 [.int],.sl 3 [.int],.bool,.sl 3 [.int],.sl 3 [.int]] ⟨_,Tryz.func40,by decide,rfl⟩ (fun _=>rfl) (fun _ h=>h) (fun ls k h0 h1 bs hn v w=>markPointS_c ls k h0 h1 bs hn v w)
def heldPointS_con:Con:={ ι:=(List (List Dat))×Int,pre:=fun i=>0≤i.2∧i.2+(cntRows i.1:Int)≤4611686018427387904∧Dat.has (.sl 39 [.bool,.sl 3 [.int],.sl 3 [.int],.bool,.sl 3 [.int],.sl 3 [.int]]) (.sl i.1),args:=fun i=>[.one (.sl 39 [.bool,.sl 3 [.int],.sl 3 [.int],.bool,.sl 3 [.int],.sl 3 [.int]] (mkRows i.2 i.1)),.one (.im (.int .i64 i.2))],res:=fun i=>⟨false,[none],[.im (Value.int .i64 (i.2+(cntRows i.1:Int)))]⟩ }
theorem heldPointS_ok:heldPointS_con.Ok Tryz.prog 41:=heldO_ok (.sl 39 [.bool,.sl 3 [.int],.sl 3 [.int],.bool,.sl 3 [.int],.sl 3 [.int]]) ⟨_,Tryz.func41,by decide,rfl⟩ (fun _=>rfl) (fun _=>rfl) (fun i=>i.1) (fun _=>rfl) (fun _=>rfl) (fun _ h=>h) (fun ls k h0 h1 w0 v0 hr v w h=>heldPointS_c ls k h0 h1 w0 v0 hr v w h)
theorem pqRow_has (q:Pq):hasRow [.bool,.sl 3 [.int],.sl 3 [.int],.bool,.sl 3 [.int],.sl 3 [.int]] (pqRow q):=by
 have h1:=q.x.nlz
 have h2:=q.x.nld
 have h3:=q.y.nlz
 have h4:=q.y.nld
 exact ⟨by simp [Dat.has],L_has 3 (by omega),L_has 3 (by omega),by simp [Dat.has],L_has 3 (by omega),L_has 3 (by omega),by simp [hasRow]⟩
theorem corR_row (s:Scn) (h:Int) (p:PtD):(corR s h p).length≤16∧∀ j,j < (corR s h p).length→∃ q:Pq,(corR s h p).getD j []=pqRow q:=by
 unfold corR
 split
 ·rw [corT_len]
  exact ⟨(robotAt_vec s h).2,fun j hj=>⟨mvR p ((robotAt s h).getD j (0,0)),by simp [corT,List.getD,hj]⟩⟩
 ·exact ⟨by simp,fun j hj=>by simp at hj⟩
theorem corR_has (s:Scn) (h:Int) (p:PtD):Dat.has (.sl 39 [.bool,.sl 3 [.int],.sl 3 [.int],.bool,.sl 3 [.int],.sl 3 [.int]]) (.sl (corR s h p)):=by
 have hr:=corR_row s h p
 refine ⟨by have:=hr.1;omega,fun j hj=>?_⟩
 obtain ⟨q,hq⟩:=hr.2 j hj
 rw [hq]
 exact pqRow_has q
theorem szRows_each {l:List (List Dat)} {m:Nat} (h:∀ j,j < l.length→szRow (l.getD j [])≤m):szRows l≤l.length*m:=by
 induction l with
 | nil=>simp [szRows]
 | cons x l ih=>
  have h0:=h 0 (by simp)
  have h1:=ih fun j hj=>by have:=h (j+1) (by simpa using hj);simpa using this
  simp only [List.getD_cons_zero] at h0
  simp only [szRows,List.length_cons,Nat.add_mul,Nat.one_mul]
  omega
theorem pqRow_sz (q:Pq):szRow (pqRow q)≤100:=by
 have h1:=q.x.nlz
 have h2:=q.x.nld
 have h3:=q.y.nlz
 have h4:=q.y.nld
 have k:∀ n,nl n≤24→szRows (L n)=0:=fun n hn=>has_leaf (e:=3) (ts:=[.int]) (by decide) (L_has 3 (by omega))
 simp only [szRow,Dat.sz,pqRow,L_len,k _ h1,k _ h2,k _ h3,k _ h4]
 omega
theorem corR_cnt (s:Scn) (h:Int) (p:PtD):(cntRows (corR s h p):Int)≤2000000000:=by
 have hr:=corR_row s h p
 have:=szRows_each (l:=corR s h p) (m:=100) fun j hj=>by
  obtain ⟨q,hq⟩:=hr.2 j hj
  rw [hq];exact pqRow_sz q
 exact cntRows_small (corR_has s h p) (by have:=hr.1;omega) (by simp [KRow,Ty.K])
def lawRobotCorners_con:Con:={ ι:=Scn×Int×PtD,pre:=fun i=>hasRow [.int,.int,.int,.int,.sl 61 [.int,.int],.sl 33 [.sl 61 [.int,.int]],.sl 61 [.int,.int]] (scnD i.1)∧hasRow [.bool,.sl 3 [.int],.sl 3 [.int],.bool,.sl 3 [.int],.sl 3 [.int]] (ptD i.2.2),args:=fun i=>[.agg [.im (.int .i64 i.1.low.1),.im (.int .i64 i.1.low.2),.im (.int .i64 i.1.high.1),.im (.int .i64 i.1.high.2),.sl 54 [.int,.int] (vecsD i.1.robot),.sl 22 [.sl 54 [.int,.int]] (areasD i.1.obst),.sl 54 [.int,.int] (vecsD i.1.tables)],.one (.im (.int .i64 i.2.1)),.agg [.im (.bool i.2.2.x.neg),.sl 3 [.int] i.2.2.x.num,.sl 3 [.int] i.2.2.x.den,.im (.bool i.2.2.y.neg),.sl 3 [.int] i.2.2.y.num,.sl 3 [.int] i.2.2.y.den]],res:=fun i=>⟨false,[none],[.im (Value.bool true)]⟩ }
set_option maxRecDepth 100000 in
set_option maxHeartbeats 4000000 in
theorem lawRobotCorners_ok:lawRobotCorners_con.Ok Tryz.prog 7:=by
 refine fn_ok (X:=⟨tt,[(33,szScene_con),(15,szPoint_con),(35,toScene_con),(18,toPoint_con),(34,sCorners_con),(36,iCorners_con),(37,eqPointS_con),(38,eqScene_con),(21,eqPoint_con),(39,markScene_con),(30,markPoint_con),(40,markPointS_con),(41,heldPointS_con)],[],97⟩) mixed tt_ok (CTok.cons szScene_ok (CTok.cons szPoint_ok (CTok.cons toScene_ok (CTok.cons toPoint_ok (CTok.cons sCorners_ok (CTok.cons iCorners_ok (CTok.cons eqPointS_ok (CTok.cons eqScene_ok (CTok.cons eqPoint_ok (CTok.cons markScene_ok (CTok.cons markPoint_ok (CTok.cons markPointS_ok (CTok.cons heldPointS_ok (CTok.nil _)))))))))))))) Tryz.func7 (by decide) rfl rfl rfl (fun _=>Nat.le_of_ble_eq_true rfl) (fun _=>Nat.le_of_ble_eq_true rfl) (fun _=>[]) ?_
 rintro ⟨s,h,p⟩ hpre
 have hpre:hasRow [.int,.int,.int,.int,.sl 61 [.int,.int],.sl 33 [.sl 61 [.int,.int]],.sl 61 [.int,.int]] (scnD s)∧hasRow [.bool,.sl 3 [.int],.sl 3 [.int],.bool,.sl 3 [.int],.sl 3 [.int]] (ptD p):=hpre
 refine by_nf (q:=∃ i1:Scn×Int,[DA.agg [cI s.low.1,cI s.low.2,cI s.high.1,cI s.high.2,DC.sl 54 [.int,.int] (vecsD s.robot),DC.sl 22 [.sl 54 [.int,.int]] (areasD s.obst),DC.sl 54 [.int,.int] (vecsD s.tables)],DA.one (cI (1048576:Int))]=szScene_con.args i1∧szScene_con.pre i1∧(((decide ((szR (szRow [.int i1.1.low.1,.int i1.1.low.2,.int i1.1.high.1,.int i1.1.high.2,.sl (vecsD i1.1.robot),.sl (areasD i1.1.obst),.sl (vecsD i1.1.tables)]) i1.2) < (0:Int)))=true→((Value.bool true=Value.bool true)))∧((decide ((szR (szRow [.int i1.1.low.1,.int i1.1.low.2,.int i1.1.high.1,.int i1.1.high.2,.sl (vecsD i1.1.robot),.sl (areasD i1.1.obst),.sl (vecsD i1.1.tables)]) i1.2) < (0:Int)))=false→(∃ i2:PtD×Int,[DA.agg [cB p.x.neg,cS p.x.num,cS p.x.den,cB p.y.neg,cS p.y.num,cS p.y.den],DA.one (cI (szR (szRow [.int i1.1.low.1,.int i1.1.low.2,.int i1.1.high.1,.int i1.1.high.2,.sl (vecsD i1.1.robot),.sl (areasD i1.1.obst),.sl (vecsD i1.1.tables)]) i1.2))]=szPoint_con.args i2∧szPoint_con.pre i2∧(((decide ((szR (szRow [.bool i2.1.x.neg,.sl i2.1.x.num,.sl i2.1.x.den,.bool i2.1.y.neg,.sl i2.1.y.num,.sl i2.1.y.den]) i2.2) < (0:Int)))=true→((Value.bool true=Value.bool true)))∧((decide ((szR (szRow [.bool i2.1.x.neg,.sl i2.1.x.num,.sl i2.1.x.den,.bool i2.1.y.neg,.sl i2.1.y.num,.sl i2.1.y.den]) i2.2) < (0:Int)))=false→(∃ i3:Scn,[DA.agg [cI s.low.1,cI s.low.2,cI s.high.1,cI s.high.2,DC.sl 54 [.int,.int] (vecsD s.robot),DC.sl 22 [.sl 54 [.int,.int]] (areasD s.obst),DC.sl 54 [.int,.int] (vecsD s.tables)]]=toScene_con.args i3∧toScene_con.pre i3∧(∃ i4:PtD,[DA.agg [cB p.x.neg,cS p.x.num,cS p.x.den,cB p.y.neg,cS p.y.num,cS p.y.den]]=toPoint_con.args i4∧toPoint_con.pre i4∧(∃ i5:Scn×Int×PtD,[DA.agg [cI i3.low.1,cI i3.low.2,cI i3.high.1,cI i3.high.2,DC.sl 61 [.int,.int] (vecsD i3.robot),DC.sl 33 [.sl 61 [.int,.int]] (areasD i3.obst),DC.sl 61 [.int,.int] (vecsD i3.tables)],DA.one (cI h),DA.agg [cB i4.x.neg,cS i4.x.num,cS i4.x.den,cB i4.y.neg,cS i4.y.num,cS i4.y.den]]=sCorners_con.args i5∧sCorners_con.pre i5∧(∃ i6:Scn,[DA.agg [cI s.low.1,cI s.low.2,cI s.high.1,cI s.high.2,DC.sl 54 [.int,.int] (vecsD s.robot),DC.sl 22 [.sl 54 [.int,.int]] (areasD s.obst),DC.sl 54 [.int,.int] (vecsD s.tables)]]=toScene_con.args i6∧toScene_con.pre i6∧(∃ i7:PtD,[DA.agg [cB p.x.neg,cS p.x.num,cS p.x.den,cB p.y.neg,cS p.y.num,cS p.y.den]]=toPoint_con.args i7∧toPoint_con.pre i7∧(∃ i8:Scn×Int×PtD,[DA.agg [cI i6.low.1,cI i6.low.2,cI i6.high.1,cI i6.high.2,DC.sl 61 [.int,.int] (vecsD i6.robot),DC.sl 33 [.sl 61 [.int,.int]] (areasD i6.obst),DC.sl 61 [.int,.int] (vecsD i6.tables)],DA.one (cI h),DA.agg [cB i7.x.neg,cS i7.x.num,cS i7.x.den,cB i7.y.neg,cS i7.y.num,cS i7.y.den]]=iCorners_con.args i8∧iCorners_con.pre i8∧(∃ i9:(List (List Dat)),[DA.one (DC.sl 39 [.bool,.sl 3 [.int],.sl 3 [.int],.bool,.sl 3 [.int],.sl 3 [.int]] (corR i8.1 i8.2.1 i8.2.2)),DA.one (DC.sl 39 [.bool,.sl 3 [.int],.sl 3 [.int],.bool,.sl 3 [.int],.sl 3 [.int]] (corR i5.1 i5.2.1 i5.2.2))]=eqPointS_con.args i9∧eqPointS_con.pre i9∧(((!true)=true→((Value.bool false=Value.bool true)))∧((!true)=false→(∃ i10:Scn,[DA.agg [cI s.low.1,cI s.low.2,cI s.high.1,cI s.high.2,DC.sl 54 [.int,.int] (vecsD s.robot),DC.sl 22 [.sl 54 [.int,.int]] (areasD s.obst),DC.sl 54 [.int,.int] (vecsD s.tables)]]=toScene_con.args i10∧toScene_con.pre i10∧(∃ i11:Scn,[DA.agg [cI i6.low.1,cI i6.low.2,cI i6.high.1,cI i6.high.2,DC.sl 61 [.int,.int] (vecsD i6.robot),DC.sl 33 [.sl 61 [.int,.int]] (areasD i6.obst),DC.sl 61 [.int,.int] (vecsD i6.tables)],DA.agg [cI i10.low.1,cI i10.low.2,cI i10.high.1,cI i10.high.2,DC.sl 61 [.int,.int] (vecsD i10.robot),DC.sl 33 [.sl 61 [.int,.int]] (areasD i10.obst),DC.sl 61 [.int,.int] (vecsD i10.tables)]]=eqScene_con.args i11∧eqScene_con.pre i11∧(((!true)=true→((Value.bool false=Value.bool true)))∧((!true)=false→(∃ i12:PtD,[DA.agg [cB p.x.neg,cS p.x.num,cS p.x.den,cB p.y.neg,cS p.y.num,cS p.y.den]]=toPoint_con.args i12∧toPoint_con.pre i12∧(∃ i13:PtD,[DA.agg [cB i7.x.neg,cS i7.x.num,cS i7.x.den,cB i7.y.neg,cS i7.y.num,cS i7.y.den],DA.agg [cB i12.x.neg,cS i12.x.num,cS i12.x.den,cB i12.y.neg,cS i12.y.num,cS i12.y.den]]=eqPoint_con.args i13∧eqPoint_con.pre i13∧(((!true)=true→((Value.bool false=Value.bool true)))∧((!true)=false→(∃ i14:Scn×Int,[DA.agg [cI i6.low.1,cI i6.low.2,cI i6.high.1,cI i6.high.2,DC.sl 61 [.int,.int] (vecsD i6.robot),DC.sl 33 [.sl 61 [.int,.int]] (areasD i6.obst),DC.sl 61 [.int,.int] (vecsD i6.tables)],DA.one (cI (1:Int))]=markScene_con.args i14∧markScene_con.pre i14∧(∃ i15:PtD×Int,[DA.agg [cB i7.x.neg,cS i7.x.num,cS i7.x.den,cB i7.y.neg,cS i7.y.num,cS i7.y.den],DA.one (cI (i14.2+(cntV [.int i14.1.low.1,.int i14.1.low.2,.int i14.1.high.1,.int i14.1.high.2,.sl (vecsD i14.1.robot),.sl (areasD i14.1.obst),.sl (vecsD i14.1.tables)]:Int)))]=markPoint_con.args i15∧markPoint_con.pre i15∧(((!(decide ((i15.2+(cntV [.bool i15.1.x.neg,.sl i15.1.x.num,.sl i15.1.x.den,.bool i15.1.y.neg,.sl i15.1.y.num,.sl i15.1.y.den]:Int)) < (0:Int))))=true→(∃ i16:(List (List Dat)),[DA.one (DC.sl 39 [.bool,.sl 3 [.int],.sl 3 [.int],.bool,.sl 3 [.int],.sl 3 [.int]] (corR i8.1 i8.2.1 i8.2.2)),DA.one (DC.sl 39 [.bool,.sl 3 [.int],.sl 3 [.int],.bool,.sl 3 [.int],.sl 3 [.int]] (corR i5.1 i5.2.1 i5.2.2))]=eqPointS_con.args i16∧eqPointS_con.pre i16∧(((!true)=true→((Value.bool false=Value.bool true)))∧((!true)=false→(∃ i17:(List (List Dat))×Int,[DA.one (DC.sl 39 [.bool,.sl 3 [.int],.sl 3 [.int],.bool,.sl 3 [.int],.sl 3 [.int]] (corR i8.1 i8.2.1 i8.2.2)),DA.one (cI (1:Int))]=markPointS_con.args i17∧markPointS_con.pre i17∧(∃ i18:(List (List Dat))×Int,[DA.one (DC.sl 39 [.bool,.sl 3 [.int],.sl 3 [.int],.bool,.sl 3 [.int],.sl 3 [.int]] (mkRows i17.2 i17.1)),DA.one (cI (1:Int))]=heldPointS_con.args i18∧heldPointS_con.pre i18∧(((decide ((i18.2+(cntRows i18.1:Int)) < (0:Int)))=true→((Value.bool false=Value.bool true)))∧((decide ((i18.2+(cntRows i18.1:Int)) < (0:Int)))=false→((((i18.2+(cntRows i18.1:Int)) != (i17.2+(cntRows i17.1:Int)))=true→((Value.bool false=Value.bool true)))∧(((i18.2+(cntRows i18.1:Int)) != (i17.2+(cntRows i17.1:Int)))=false→(∃ i19:Scn,[DA.agg [cI s.low.1,cI s.low.2,cI s.high.1,cI s.high.2,DC.sl 54 [.int,.int] (vecsD s.robot),DC.sl 22 [.sl 54 [.int,.int]] (areasD s.obst),DC.sl 54 [.int,.int] (vecsD s.tables)]]=toScene_con.args i19∧toScene_con.pre i19∧(∃ i20:PtD,[DA.agg [cB p.x.neg,cS p.x.num,cS p.x.den,cB p.y.neg,cS p.y.num,cS p.y.den]]=toPoint_con.args i20∧toPoint_con.pre i20∧(∃ i21:Scn×Int×PtD,[DA.agg [cI i19.low.1,cI i19.low.2,cI i19.high.1,cI i19.high.2,DC.sl 61 [.int,.int] (vecsD i19.robot),DC.sl 33 [.sl 61 [.int,.int]] (areasD i19.obst),DC.sl 61 [.int,.int] (vecsD i19.tables)],DA.one (cI h),DA.agg [cB i20.x.neg,cS i20.x.num,cS i20.x.den,cB i20.y.neg,cS i20.y.num,cS i20.y.den]]=iCorners_con.args i21∧iCorners_con.pre i21∧(∃ i22:(List (List Dat)),[DA.one (DC.sl 39 [.bool,.sl 3 [.int],.sl 3 [.int],.bool,.sl 3 [.int],.sl 3 [.int]] (corR i21.1 i21.2.1 i21.2.2)),DA.one (DC.sl 39 [.bool,.sl 3 [.int],.sl 3 [.int],.bool,.sl 3 [.int],.sl 3 [.int]] (corR i5.1 i5.2.1 i5.2.2))]=eqPointS_con.args i22∧eqPointS_con.pre i22∧(((!true)=true→((Value.bool false=Value.bool true)))∧((!true)=false→(∃ i23:(List (List Dat))×Int,[DA.one (DC.sl 39 [.bool,.sl 3 [.int],.sl 3 [.int],.bool,.sl 3 [.int],.sl 3 [.int]] (mkRows i17.2 i17.1)),DA.one (cI (1:Int))]=heldPointS_con.args i23∧heldPointS_con.pre i23∧(((decide ((i23.2+(cntRows i23.1:Int)) < (0:Int)))=true→((Value.bool false=Value.bool true)))∧((decide ((i23.2+(cntRows i23.1:Int)) < (0:Int)))=false→((((i23.2+(cntRows i23.1:Int)) != (i17.2+(cntRows i17.1:Int)))=true→((Value.bool false=Value.bool true)))∧(((i23.2+(cntRows i23.1:Int)) != (i17.2+(cntRows i17.1:Int)))=false→((Value.bool true=Value.bool true)))))))))))))))))))))))∧((!(decide ((i15.2+(cntV [.bool i15.1.x.neg,.sl i15.1.x.num,.sl i15.1.x.den,.bool i15.1.y.neg,.sl i15.1.y.num,.sl i15.1.y.den]:Int)) < (0:Int))))=false→((Value.bool false=Value.bool true))))))))))))))))))))))))))))) (by kernel_rfl) ?_
 refine ⟨(s,(1048576:Int)),by
  rfl,by
  show hasRow [.int,.int,.int,.int,.sl 61 [.int,.int],.sl 33 [.sl 61 [.int,.int]],.sl 61 [.int,.int]] [.int s.low.1,.int s.low.2,.int s.high.1,.int s.high.2,.sl (vecsD s.robot),.sl (areasD s.obst),.sl (vecsD s.tables)]∧0≤(1048576:Int)∧(1048576:Int)≤1048576
  first|trivial|exact ⟨hpre.1,by omega,by omega⟩|exact ⟨hpre.2,c4,by have:=z1.1;omega⟩|exact gs|exact gp|exact hz|exact hhp|exact ⟨by omega,by omega,hoh⟩|(refine ⟨?_,?_⟩ <;> omega),?_⟩
 refine ⟨fun c4=>?_,fun c4=>?_⟩
 ·skip
  replace c4:(decide ((szR (szRow [.int s.low.1,.int s.low.2,.int s.high.1,.int s.high.2,.sl (vecsD s.robot),.sl (areasD s.obst),.sl (vecsD s.tables)]) (1048576:Int)) < (0:Int)))=true:=c4
  try simp only [nrm] at c4
  exact rfl
 ·skip
  replace c4:(decide ((szR (szRow [.int s.low.1,.int s.low.2,.int s.high.1,.int s.high.2,.sl (vecsD s.robot),.sl (areasD s.obst),.sl (vecsD s.tables)]) (1048576:Int)) < (0:Int)))=false:=c4
  try simp only [nrm] at c4
  have z1:=szR_ge c4
  have gs:szRow [.int s.low.1,.int s.low.2,.int s.high.1,.int s.high.2,.sl (vecsD s.robot),.sl (areasD s.obst),.sl (vecsD s.tables)]≤1048576:=by have:=z1.2;omega
  have hz:scnSz s:=scnD_sz gs
  refine ⟨(p,(szR (szRow [.int s.low.1,.int s.low.2,.int s.high.1,.int s.high.2,.sl (vecsD s.robot),.sl (areasD s.obst),.sl (vecsD s.tables)]) (1048576:Int))),by
   rfl,by
   show hasRow [.bool,.sl 3 [.int],.sl 3 [.int],.bool,.sl 3 [.int],.sl 3 [.int]] [.bool p.x.neg,.sl p.x.num,.sl p.x.den,.bool p.y.neg,.sl p.y.num,.sl p.y.den]∧0≤(szR (szRow [.int s.low.1,.int s.low.2,.int s.high.1,.int s.high.2,.sl (vecsD s.robot),.sl (areasD s.obst),.sl (vecsD s.tables)]) (1048576:Int))∧(szR (szRow [.int s.low.1,.int s.low.2,.int s.high.1,.int s.high.2,.sl (vecsD s.robot),.sl (areasD s.obst),.sl (vecsD s.tables)]) (1048576:Int))≤1048576
   first|trivial|exact ⟨hpre.1,by omega,by omega⟩|exact ⟨hpre.2,c4,by have:=z1.1;omega⟩|exact gs|exact gp|exact hz|exact hhp|exact ⟨by omega,by omega,hoh⟩|(refine ⟨?_,?_⟩ <;> omega),?_⟩
  refine ⟨fun c9=>?_,fun c9=>?_⟩
  ·skip
   replace c9:(decide ((szR (szRow [.bool p.x.neg,.sl p.x.num,.sl p.x.den,.bool p.y.neg,.sl p.y.num,.sl p.y.den]) (szR (szRow [.int s.low.1,.int s.low.2,.int s.high.1,.int s.high.2,.sl (vecsD s.robot),.sl (areasD s.obst),.sl (vecsD s.tables)]) (1048576:Int))) < (0:Int)))=true:=c9
   try simp only [nrm] at c9
   exact rfl
  ·skip
   replace c9:(decide ((szR (szRow [.bool p.x.neg,.sl p.x.num,.sl p.x.den,.bool p.y.neg,.sl p.y.num,.sl p.y.den]) (szR (szRow [.int s.low.1,.int s.low.2,.int s.high.1,.int s.high.2,.sl (vecsD s.robot),.sl (areasD s.obst),.sl (vecsD s.tables)]) (1048576:Int))) < (0:Int)))=false:=c9
   try simp only [nrm] at c9
   have z2:=szR_ge c9
   have gp:szRow [.bool p.x.neg,.sl p.x.num,.sl p.x.den,.bool p.y.neg,.sl p.y.num,.sl p.y.den]≤1048576:=by have:=z1.1;have:=z2.1;have:=z2.2;omega
   have hcs:(cntV [.int s.low.1,.int s.low.2,.int s.high.1,.int s.high.2,.sl (vecsD s.robot),.sl (areasD s.obst),.sl (vecsD s.tables)]:Int)≤2000000000:=cntV_small hpre.1 gs (by simp [KRow,Ty.K])
   have hcp:(cntV [.bool p.x.neg,.sl p.x.num,.sl p.x.den,.bool p.y.neg,.sl p.y.num,.sl p.y.den]:Int)≤2000000000:=cntV_small hpre.2 gp (by simp [KRow,Ty.K])
   have hoh:=corR_has s h p
   have hoc:=corR_cnt s h p
   have hhp:=pt_has hpre.2
   refine ⟨s,by
    rfl,by
    show szRow [.int s.low.1,.int s.low.2,.int s.high.1,.int s.high.2,.sl (vecsD s.robot),.sl (areasD s.obst),.sl (vecsD s.tables)]≤1048576
    first|trivial|exact ⟨hpre.1,by omega,by omega⟩|exact ⟨hpre.2,c4,by have:=z1.1;omega⟩|exact gs|exact gp|exact hz|exact hhp|exact ⟨by omega,by omega,hoh⟩|(refine ⟨?_,?_⟩ <;> omega),?_⟩
   refine ⟨p,by
    rfl,by
    show szRow [.bool p.x.neg,.sl p.x.num,.sl p.x.den,.bool p.y.neg,.sl p.y.num,.sl p.y.den]≤1048576
    first|trivial|exact ⟨hpre.1,by omega,by omega⟩|exact ⟨hpre.2,c4,by have:=z1.1;omega⟩|exact gs|exact gp|exact hz|exact hhp|exact ⟨by omega,by omega,hoh⟩|(refine ⟨?_,?_⟩ <;> omega),?_⟩
   refine ⟨(s,h,p),by
    rfl,by
    show p.has
    first|trivial|exact ⟨hpre.1,by omega,by omega⟩|exact ⟨hpre.2,c4,by have:=z1.1;omega⟩|exact gs|exact gp|exact hz|exact hhp|exact ⟨by omega,by omega,hoh⟩|(refine ⟨?_,?_⟩ <;> omega),?_⟩
   refine ⟨s,by
    rfl,by
    show szRow [.int s.low.1,.int s.low.2,.int s.high.1,.int s.high.2,.sl (vecsD s.robot),.sl (areasD s.obst),.sl (vecsD s.tables)]≤1048576
    first|trivial|exact ⟨hpre.1,by omega,by omega⟩|exact ⟨hpre.2,c4,by have:=z1.1;omega⟩|exact gs|exact gp|exact hz|exact hhp|exact ⟨by omega,by omega,hoh⟩|(refine ⟨?_,?_⟩ <;> omega),?_⟩
   refine ⟨p,by
    rfl,by
    show szRow [.bool p.x.neg,.sl p.x.num,.sl p.x.den,.bool p.y.neg,.sl p.y.num,.sl p.y.den]≤1048576
    first|trivial|exact ⟨hpre.1,by omega,by omega⟩|exact ⟨hpre.2,c4,by have:=z1.1;omega⟩|exact gs|exact gp|exact hz|exact hhp|exact ⟨by omega,by omega,hoh⟩|(refine ⟨?_,?_⟩ <;> omega),?_⟩
   refine ⟨(s,h,p),by
    rfl,by
    show p.has
    first|trivial|exact ⟨hpre.1,by omega,by omega⟩|exact ⟨hpre.2,c4,by have:=z1.1;omega⟩|exact gs|exact gp|exact hz|exact hhp|exact ⟨by omega,by omega,hoh⟩|(refine ⟨?_,?_⟩ <;> omega),?_⟩
   refine ⟨corR s h p,by
    rfl,by
    first|trivial|exact ⟨hpre.1,by omega,by omega⟩|exact ⟨hpre.2,c4,by have:=z1.1;omega⟩|exact gs|exact gp|exact hz|exact hhp|exact ⟨by omega,by omega,hoh⟩|(refine ⟨?_,?_⟩ <;> omega),?_⟩
   refine ⟨fun c32=>?_,fun c32=>?_⟩
   ·skip
    try simp only [nrm] at c32
    show Value.bool false=Value.bool true
    first|rfl|contradiction|(exfalso;omega)|simp_all
   ·skip
    try simp only [nrm] at c32
    refine ⟨s,by
     rfl,by
     show szRow [.int s.low.1,.int s.low.2,.int s.high.1,.int s.high.2,.sl (vecsD s.robot),.sl (areasD s.obst),.sl (vecsD s.tables)]≤1048576
     first|trivial|exact ⟨hpre.1,by omega,by omega⟩|exact ⟨hpre.2,c4,by have:=z1.1;omega⟩|exact gs|exact gp|exact hz|exact hhp|exact ⟨by omega,by omega,hoh⟩|(refine ⟨?_,?_⟩ <;> omega),?_⟩
    refine ⟨s,by
     rfl,by
     first|trivial|exact ⟨hpre.1,by omega,by omega⟩|exact ⟨hpre.2,c4,by have:=z1.1;omega⟩|exact gs|exact gp|exact hz|exact hhp|exact ⟨by omega,by omega,hoh⟩|(refine ⟨?_,?_⟩ <;> omega),?_⟩
    refine ⟨fun c40=>?_,fun c40=>?_⟩
    ·skip
     try simp only [nrm] at c40
     show Value.bool false=Value.bool true
     first|rfl|contradiction|(exfalso;omega)|simp_all
    ·skip
     try simp only [nrm] at c40
     refine ⟨p,by
      rfl,by
      show szRow [.bool p.x.neg,.sl p.x.num,.sl p.x.den,.bool p.y.neg,.sl p.y.num,.sl p.y.den]≤1048576
      first|trivial|exact ⟨hpre.1,by omega,by omega⟩|exact ⟨hpre.2,c4,by have:=z1.1;omega⟩|exact gs|exact gp|exact hz|exact hhp|exact ⟨by omega,by omega,hoh⟩|(refine ⟨?_,?_⟩ <;> omega),?_⟩
     refine ⟨p,by
      rfl,by
      first|trivial|exact ⟨hpre.1,by omega,by omega⟩|exact ⟨hpre.2,c4,by have:=z1.1;omega⟩|exact gs|exact gp|exact hz|exact hhp|exact ⟨by omega,by omega,hoh⟩|(refine ⟨?_,?_⟩ <;> omega),?_⟩
     refine ⟨fun c48=>?_,fun c48=>?_⟩
     ·skip
      try simp only [nrm] at c48
      show Value.bool false=Value.bool true
      first|rfl|contradiction|(exfalso;omega)|simp_all
     ·skip
      try simp only [nrm] at c48
      refine ⟨(s,(1:Int)),by
       rfl,by
       show 0≤(1:Int)∧(1:Int)+(cntV [.int s.low.1,.int s.low.2,.int s.high.1,.int s.high.2,.sl (vecsD s.robot),.sl (areasD s.obst),.sl (vecsD s.tables)]:Int)≤4611686018427387904
       first|trivial|exact ⟨hpre.1,by omega,by omega⟩|exact ⟨hpre.2,c4,by have:=z1.1;omega⟩|exact gs|exact gp|exact hz|exact hhp|exact ⟨by omega,by omega,hoh⟩|(refine ⟨?_,?_⟩ <;> omega),?_⟩
      refine ⟨(p,((1:Int)+(cntV [.int s.low.1,.int s.low.2,.int s.high.1,.int s.high.2,.sl (vecsD s.robot),.sl (areasD s.obst),.sl (vecsD s.tables)]:Int))),by
       rfl,by
       show 0≤((1:Int)+(cntV [.int s.low.1,.int s.low.2,.int s.high.1,.int s.high.2,.sl (vecsD s.robot),.sl (areasD s.obst),.sl (vecsD s.tables)]:Int))∧((1:Int)+(cntV [.int s.low.1,.int s.low.2,.int s.high.1,.int s.high.2,.sl (vecsD s.robot),.sl (areasD s.obst),.sl (vecsD s.tables)]:Int))+(cntV [.bool p.x.neg,.sl p.x.num,.sl p.x.den,.bool p.y.neg,.sl p.y.num,.sl p.y.den]:Int)≤4611686018427387904
       first|trivial|exact ⟨hpre.1,by omega,by omega⟩|exact ⟨hpre.2,c4,by have:=z1.1;omega⟩|exact gs|exact gp|exact hz|exact hhp|exact ⟨by omega,by omega,hoh⟩|(refine ⟨?_,?_⟩ <;> omega),?_⟩
      refine ⟨fun c56=>?_,fun c56=>?_⟩
      ·skip
       replace c56:(!(decide ((((1:Int)+(cntV [.int s.low.1,.int s.low.2,.int s.high.1,.int s.high.2,.sl (vecsD s.robot),.sl (areasD s.obst),.sl (vecsD s.tables)]:Int))+(cntV [.bool p.x.neg,.sl p.x.num,.sl p.x.den,.bool p.y.neg,.sl p.y.num,.sl p.y.den]:Int)) < (0:Int))))=true:=c56
       try simp only [nrm] at c56
       refine ⟨corR s h p,by
        rfl,by
        first|trivial|exact ⟨hpre.1,by omega,by omega⟩|exact ⟨hpre.2,c4,by have:=z1.1;omega⟩|exact gs|exact gp|exact hz|exact hhp|exact ⟨by omega,by omega,hoh⟩|(refine ⟨?_,?_⟩ <;> omega),?_⟩
       refine ⟨fun c60=>?_,fun c60=>?_⟩
       ·skip
        try simp only [nrm] at c60
        show Value.bool false=Value.bool true
        first|rfl|contradiction|(exfalso;omega)|simp_all
       ·skip
        try simp only [nrm] at c60
        refine ⟨(corR s h p,(1:Int)),by
         rfl,by
         show 0≤(1:Int)∧(1:Int)+(cntRows (corR s h p):Int)≤4611686018427387904
         first|trivial|exact ⟨hpre.1,by omega,by omega⟩|exact ⟨hpre.2,c4,by have:=z1.1;omega⟩|exact gs|exact gp|exact hz|exact hhp|exact ⟨by omega,by omega,hoh⟩|(refine ⟨?_,?_⟩ <;> omega),?_⟩
        refine ⟨((corR s h p),(1:Int)),by
         rfl,by
         show 0≤(1:Int)∧(1:Int)+(cntRows (corR s h p):Int)≤4611686018427387904∧Dat.has (.sl 39 [.bool,.sl 3 [.int],.sl 3 [.int],.bool,.sl 3 [.int],.sl 3 [.int]]) (.sl (corR s h p))
         first|trivial|exact ⟨hpre.1,by omega,by omega⟩|exact ⟨hpre.2,c4,by have:=z1.1;omega⟩|exact gs|exact gp|exact hz|exact hhp|exact ⟨by omega,by omega,hoh⟩|(refine ⟨?_,?_⟩ <;> omega),?_⟩
        refine ⟨fun c68=>?_,fun c68=>?_⟩
        ·skip
         replace c68:(decide (((1:Int)+(cntRows (corR s h p):Int)) < (0:Int)))=true:=c68
         try simp only [nrm] at c68
         show Value.bool false=Value.bool true
         first|rfl|contradiction|(exfalso;omega)|simp_all
        ·skip
         replace c68:(decide (((1:Int)+(cntRows (corR s h p):Int)) < (0:Int)))=false:=c68
         try simp only [nrm] at c68
         refine ⟨fun c70=>?_,fun c70=>?_⟩
         ·skip
          replace c70:(((1:Int)+(cntRows (corR s h p):Int)) != ((1:Int)+(cntRows (corR s h p):Int)))=true:=c70
          try simp only [nrm] at c70
          show Value.bool false=Value.bool true
          first|rfl|contradiction|(exfalso;omega)|simp_all
         ·skip
          replace c70:(((1:Int)+(cntRows (corR s h p):Int)) != ((1:Int)+(cntRows (corR s h p):Int)))=false:=c70
          try simp only [nrm] at c70
          refine ⟨s,by
           rfl,by
           show szRow [.int s.low.1,.int s.low.2,.int s.high.1,.int s.high.2,.sl (vecsD s.robot),.sl (areasD s.obst),.sl (vecsD s.tables)]≤1048576
           first|trivial|exact ⟨hpre.1,by omega,by omega⟩|exact ⟨hpre.2,c4,by have:=z1.1;omega⟩|exact gs|exact gp|exact hz|exact hhp|exact ⟨by omega,by omega,hoh⟩|(refine ⟨?_,?_⟩ <;> omega),?_⟩
          refine ⟨p,by
           rfl,by
           show szRow [.bool p.x.neg,.sl p.x.num,.sl p.x.den,.bool p.y.neg,.sl p.y.num,.sl p.y.den]≤1048576
           first|trivial|exact ⟨hpre.1,by omega,by omega⟩|exact ⟨hpre.2,c4,by have:=z1.1;omega⟩|exact gs|exact gp|exact hz|exact hhp|exact ⟨by omega,by omega,hoh⟩|(refine ⟨?_,?_⟩ <;> omega),?_⟩
          refine ⟨(s,h,p),by
           rfl,by
           show p.has
           first|trivial|exact ⟨hpre.1,by omega,by omega⟩|exact ⟨hpre.2,c4,by have:=z1.1;omega⟩|exact gs|exact gp|exact hz|exact hhp|exact ⟨by omega,by omega,hoh⟩|(refine ⟨?_,?_⟩ <;> omega),?_⟩
          refine ⟨corR s h p,by
           rfl,by
           first|trivial|exact ⟨hpre.1,by omega,by omega⟩|exact ⟨hpre.2,c4,by have:=z1.1;omega⟩|exact gs|exact gp|exact hz|exact hhp|exact ⟨by omega,by omega,hoh⟩|(refine ⟨?_,?_⟩ <;> omega),?_⟩
          refine ⟨fun c84=>?_,fun c84=>?_⟩
          ·skip
           try simp only [nrm] at c84
           show Value.bool false=Value.bool true
           first|rfl|contradiction|(exfalso;omega)|simp_all
          ·skip
           try simp only [nrm] at c84
           refine ⟨((corR s h p),(1:Int)),by
            rfl,by
            show 0≤(1:Int)∧(1:Int)+(cntRows (corR s h p):Int)≤4611686018427387904∧Dat.has (.sl 39 [.bool,.sl 3 [.int],.sl 3 [.int],.bool,.sl 3 [.int],.sl 3 [.int]]) (.sl (corR s h p))
            first|trivial|exact ⟨hpre.1,by omega,by omega⟩|exact ⟨hpre.2,c4,by have:=z1.1;omega⟩|exact gs|exact gp|exact hz|exact hhp|exact ⟨by omega,by omega,hoh⟩|(refine ⟨?_,?_⟩ <;> omega),?_⟩
           refine ⟨fun c89=>?_,fun c89=>?_⟩
           ·skip
            replace c89:(decide (((1:Int)+(cntRows (corR s h p):Int)) < (0:Int)))=true:=c89
            try simp only [nrm] at c89
            show Value.bool false=Value.bool true
            first|rfl|contradiction|(exfalso;omega)|simp_all
           ·skip
            replace c89:(decide (((1:Int)+(cntRows (corR s h p):Int)) < (0:Int)))=false:=c89
            try simp only [nrm] at c89
            refine ⟨fun c91=>?_,fun c91=>?_⟩
            ·skip
             replace c91:(((1:Int)+(cntRows (corR s h p):Int)) != ((1:Int)+(cntRows (corR s h p):Int)))=true:=c91
             try simp only [nrm] at c91
             show Value.bool false=Value.bool true
             first|rfl|contradiction|(exfalso;omega)|simp_all
            ·skip
             replace c91:(((1:Int)+(cntRows (corR s h p):Int)) != ((1:Int)+(cntRows (corR s h p):Int)))=false:=c91
             try simp only [nrm] at c91
             exact rfl
      ·skip
       replace c56:(!(decide ((((1:Int)+(cntV [.int s.low.1,.int s.low.2,.int s.high.1,.int s.high.2,.sl (vecsD s.robot),.sl (areasD s.obst),.sl (vecsD s.tables)]:Int))+(cntV [.bool p.x.neg,.sl p.x.num,.sl p.x.den,.bool p.y.neg,.sl p.y.num,.sl p.y.den]:Int)) < (0:Int))))=false:=c56
       try simp only [nrm] at c56
       show Value.bool false=Value.bool true
       first|rfl|contradiction|(exfalso;omega)|simp_all
end Go.Proofs.YthnkggacopepgaaGreat
