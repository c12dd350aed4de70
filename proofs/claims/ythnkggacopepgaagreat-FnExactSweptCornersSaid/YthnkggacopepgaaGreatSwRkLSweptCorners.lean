import Derived.Test.YthnkggacopepgaaGreatSwRkK
import Derived.Test.YthnkggacopepgaaGreatSwRkLs
import Derived.Test.YthnkggacopepgaaGreatSwTyF
namespace Go.Proofs.YthnkggacopepgaaGreat
set_option linter.unusedVariables false
set_option linter.unusedSimpArgs false
open Go.RowKit
def eqPointS_con:Con:={ ι:=(List (List Dat)),pre:=fun i=>True,args:=fun i=>[.one (.sl 39 [.bool,.sl 3 [.int],.sl 3 [.int],.bool,.sl 3 [.int],.sl 3 [.int]] i),.one (.sl 39 [.bool,.sl 3 [.int],.sl 3 [.int],.bool,.sl 3 [.int],.sl 3 [.int]] i)],res:=fun i=>⟨false,[none],[.im (Value.bool true)]⟩ }
theorem eqPointS_ok:eqPointS_con.Ok Tryz.prog 37:=eqO_ok (.sl 39 [.bool,.sl 3 [.int],.sl 3 [.int],.bool,.sl 3 [.int],.sl 3 [.int]]) ⟨_,Tryz.func37,by decide,rfl⟩ (fun _=>rfl) (fun _=>rfl) (fun d v u w h h'=>by obtain ⟨l,_,_,rfl,_⟩:=Rd.sl_inv h;exact eqPointS_c l v u w h h')
def markPointS_con:Con:={ ι:=(List (List Dat))×Int,pre:=fun i=>0≤i.2∧i.2+(cntRows i.1:Int)≤4611686018427387904,args:=fun i=>[.one (.sl 39 [.bool,.sl 3 [.int],.sl 3 [.int],.bool,.sl 3 [.int],.sl 3 [.int]] i.1),.one (.im (.int .i64 i.2))],mu:=[0],new:=fun i=>[mkRows i.2 i.1],res:=fun i=>⟨false,[none],[.im (Value.int .i64 (i.2+(cntRows i.1:Int)))]⟩ }
theorem markPointS_ok:markPointS_con.Ok Tryz.prog 40:=markO_ok 39 [.bool,.sl 3 [.int],.sl 3 [.int],.bool,.sl 3 [.int],.sl 3 [.int]] ⟨_,Tryz.func40,by decide,rfl⟩ (fun _=>rfl) (fun _ h=>h) (fun ls k h0 h1 bs hn v w=>markPointS_c ls k h0 h1 bs hn v w)
def heldPointS_con:Con:={ ι:=(List (List Dat))×Int,pre:=fun i=>0≤i.2∧i.2+(cntRows i.1:Int)≤4611686018427387904∧Dat.has (.sl 39 [.bool,.sl 3 [.int],.sl 3 [.int],.bool,.sl 3 [.int],.sl 3 [.int]]) (.sl i.1),args:=fun i=>[.one (.sl 39 [.bool,.sl 3 [.int],.sl 3 [.int],.bool,.sl 3 [.int],.sl 3 [.int]] (mkRows i.2 i.1)),.one (.im (.int .i64 i.2))],res:=fun i=>⟨false,[none],[.im (Value.int .i64 (i.2+(cntRows i.1:Int)))]⟩ }
theorem heldPointS_ok:heldPointS_con.Ok Tryz.prog 41:=heldO_ok (.sl 39 [.bool,.sl 3 [.int],.sl 3 [.int],.bool,.sl 3 [.int],.sl 3 [.int]]) ⟨_,Tryz.func41,by decide,rfl⟩ (fun _=>rfl) (fun _=>rfl) (fun i=>i.1) (fun _=>rfl) (fun _=>rfl) (fun _ h=>h) (fun ls k h0 h1 w0 v0 hr v w h=>heldPointS_c ls k h0 h1 w0 v0 hr v w h)
theorem pqRow_has (q:Pq):hasRow [.bool,.sl 3 [.int],.sl 3 [.int],.bool,.sl 3 [.int],.sl 3 [.int]] (pqRow q):=by
 have h1:=q.x.nlz
 have h2:=q.x.nld
 have h3:=q.y.nlz
 have h4:=q.y.nld
 exact ⟨by simp [Dat.has],L_has 3 (by omega),L_has 3 (by omega),by simp [Dat.has],L_has 3 (by omega),L_has 3 (by omega),by simp [hasRow]⟩
theorem corR_row (s:Scn) (h:Int) (p:PtD):(corR s h p).length≤16∧∀ j,j < (corR s h p).length→∃ q:Pq,(corR s h p).getD j []=pqRow q:=by
 unfold corR
 split
 ·rw [corT_len]
  exact ⟨(robotAt_vec s h).2,fun j hj=>⟨mvR p ((robotAt s h).getD j (0,0)),by simp [corT,List.getD,hj]⟩⟩
 ·exact ⟨by simp,fun j hj=>by simp at hj⟩
theorem szRows_each {l:List (List Dat)} {m:Nat} (h:∀ j,j < l.length→szRow (l.getD j [])≤m):szRows l≤l.length*m:=by
 induction l with
 | nil=>simp [szRows]
 | cons x l ih=>
  have h0:=h 0 (by simp)
  have h1:=ih fun j hj=>by have:=h (j+1) (by simpa using hj);simpa using this
  simp only [List.getD_cons_zero] at h0
  simp only [szRows,List.length_cons,Nat.add_mul,Nat.one_mul]
  omega
theorem pqRow_sz (q:Pq):szRow (pqRow q)≤100:=by
 have h1:=q.x.nlz
 have h2:=q.x.nld
 have h3:=q.y.nlz
 have h4:=q.y.nld
 have k:∀ n,nl n≤24→szRows (L n)=0:=fun n hn=>has_leaf (e:=3) (ts:=[.int]) (by decide) (L_has 3 (by omega))
 simp only [szRow,Dat.sz,pqRow,L_len,k _ h1,k _ h2,k _ h3,k _ h4]
 omega
theorem swR_row (s:Scn) (h:Int) (p q:PtD):(swR s h p q).length≤32∧∀ j,j < (swR s h p q).length→∃ r:Pq,(swR s h p q).getD j []=pqRow r:=by
 have hp:=corR_row s h p
 have hq:=corR_row s h q
 unfold swR
 split
 ·exact ⟨by simp,fun j hj=>by simp at hj⟩
 ·refine ⟨by rw [List.length_append];omega,fun j hj=>?_⟩
  rw [List.length_append] at hj
  by_cases hl:j < (corR s h p).length
  ·obtain ⟨r,hr⟩:=hp.2 j hl
   exact ⟨r,by rw [← hr];simp [List.getD,List.getElem?_append_left hl]⟩
  ·obtain ⟨r,hr⟩:=hq.2 (j - (corR s h p).length) (by omega)
   exact ⟨r,by rw [← hr];simp [List.getD,List.getElem?_append_right (show (corR s h p).length≤j by omega)]⟩
theorem swR_has (s:Scn) (h:Int) (p q:PtD):Dat.has (.sl 39 [.bool,.sl 3 [.int],.sl 3 [.int],.bool,.sl 3 [.int],.sl 3 [.int]]) (.sl (swR s h p q))∧(cntRows (swR s h p q):Int)≤2000000000:=by
 have hr:=swR_row s h p q
 have h1:Dat.has (.sl 39 [.bool,.sl 3 [.int],.sl 3 [.int],.bool,.sl 3 [.int],.sl 3 [.int]]) (.sl (swR s h p q)):=by
  refine ⟨by have:=hr.1;omega,fun j hj=>?_⟩
  obtain ⟨r,hq⟩:=hr.2 j hj
  rw [hq]
  exact pqRow_has r
 have:=szRows_each (l:=swR s h p q) (m:=100) fun j hj=>by
  obtain ⟨r,hq⟩:=hr.2 j hj
  rw [hq];exact pqRow_sz r
 exact ⟨h1,cntRows_small h1 (by have:=hr.1;omega) (by simp [KRow,Ty.K])⟩
def lawSweptCorners_con:Con:={ ι:=Scn×Int×PtD×PtD,pre:=fun i=>hasRow [.int,.int,.int,.int,.sl 61 [.int,.int],.sl 33 [.sl 61 [.int,.int]],.sl 61 [.int,.int]] (scnD i.1)∧hasRow [.bool,.sl 3 [.int],.sl 3 [.int],.bool,.sl 3 [.int],.sl 3 [.int]] (ptD i.2.2.1)∧hasRow [.bool,.sl 3 [.int],.sl 3 [.int],.bool,.sl 3 [.int],.sl 3 [.int]] (ptD i.2.2.2),args:=fun i=>[.agg [.im (.int .i64 i.1.low.1),.im (.int .i64 i.1.low.2),.im (.int .i64 i.1.high.1),.im (.int .i64 i.1.high.2),.sl 54 [.int,.int] (vecsD i.1.robot),.sl 22 [.sl 54 [.int,.int]] (areasD i.1.obst),.sl 54 [.int,.int] (vecsD i.1.tables)],.one (.im (.int .i64 i.2.1)),.agg [.im (.bool i.2.2.1.x.neg),.sl 3 [.int] i.2.2.1.x.num,.sl 3 [.int] i.2.2.1.x.den,.im (.bool i.2.2.1.y.neg),.sl 3 [.int] i.2.2.1.y.num,.sl 3 [.int] i.2.2.1.y.den],.agg [.im (.bool i.2.2.2.x.neg),.sl 3 [.int] i.2.2.2.x.num,.sl 3 [.int] i.2.2.2.x.den,.im (.bool i.2.2.2.y.neg),.sl 3 [.int] i.2.2.2.y.num,.sl 3 [.int] i.2.2.2.y.den]],res:=fun i=>⟨false,[none],[.im (Value.bool true)]⟩ }
set_option maxRecDepth 100000 in
set_option maxHeartbeats 4000000 in
theorem lawSweptCorners_ok:lawSweptCorners_con.Ok Tryz.prog 9:=by
 refine fn_ok (X:=⟨tt,[(33,szScene_con),(15,szPoint_con),(35,toScene_con),(18,toPoint_con),(45,sSwept_con),(46,iSwept_con),(37,eqPointS_con),(38,eqScene_con),(21,eqPoint_con),(39,markScene_con),(30,markPoint_con),(40,markPointS_con),(41,heldPointS_con)],[],120⟩) mixed tt_ok (CTok.cons szScene_ok (CTok.cons szPoint_ok (CTok.cons toScene_ok (CTok.cons toPoint_ok (CTok.cons sSwept_ok (CTok.cons iSwept_ok (CTok.cons eqPointS_ok (CTok.cons eqScene_ok (CTok.cons eqPoint_ok (CTok.cons markScene_ok (CTok.cons markPoint_ok (CTok.cons markPointS_ok (CTok.cons heldPointS_ok (CTok.nil _)))))))))))))) Tryz.func9 (by decide) rfl rfl rfl (fun _=>Nat.le_of_ble_eq_true rfl) (fun _=>Nat.le_of_ble_eq_true rfl) (fun _=>[]) ?_
 rintro ⟨s,h,p,q⟩ hpre
 have hpre:hasRow [.int,.int,.int,.int,.sl 61 [.int,.int],.sl 33 [.sl 61 [.int,.int]],.sl 61 [.int,.int]] (scnD s)∧hasRow [.bool,.sl 3 [.int],.sl 3 [.int],.bool,.sl 3 [.int],.sl 3 [.int]] (ptD p)∧hasRow [.bool,.sl 3 [.int],.sl 3 [.int],.bool,.sl 3 [.int],.sl 3 [.int]] (ptD q):=hpre
 refine by_nf (q:=∃ i1:Scn×Int,[DA.agg [cI s.low.1,cI s.low.2,cI s.high.1,cI s.high.2,DC.sl 54 [.int,.int] (vecsD s.robot),DC.sl 22 [.sl 54 [.int,.int]] (areasD s.obst),DC.sl 54 [.int,.int] (vecsD s.tables)],DA.one (cI (1048576:Int))]=szScene_con.args i1∧szScene_con.pre i1∧(((decide ((szR (szRow [.int i1.1.low.1,.int i1.1.low.2,.int i1.1.high.1,.int i1.1.high.2,.sl (vecsD i1.1.robot),.sl (areasD i1.1.obst),.sl (vecsD i1.1.tables)]) i1.2) < (0:Int)))=true→((Value.bool true=Value.bool true)))∧((decide ((szR (szRow [.int i1.1.low.1,.int i1.1.low.2,.int i1.1.high.1,.int i1.1.high.2,.sl (vecsD i1.1.robot),.sl (areasD i1.1.obst),.sl (vecsD i1.1.tables)]) i1.2) < (0:Int)))=false→(∃ i2:PtD×Int,[DA.agg [cB p.x.neg,cS p.x.num,cS p.x.den,cB p.y.neg,cS p.y.num,cS p.y.den],DA.one (cI (szR (szRow [.int i1.1.low.1,.int i1.1.low.2,.int i1.1.high.1,.int i1.1.high.2,.sl (vecsD i1.1.robot),.sl (areasD i1.1.obst),.sl (vecsD i1.1.tables)]) i1.2))]=szPoint_con.args i2∧szPoint_con.pre i2∧(((decide ((szR (szRow [.bool i2.1.x.neg,.sl i2.1.x.num,.sl i2.1.x.den,.bool i2.1.y.neg,.sl i2.1.y.num,.sl i2.1.y.den]) i2.2) < (0:Int)))=true→((Value.bool true=Value.bool true)))∧((decide ((szR (szRow [.bool i2.1.x.neg,.sl i2.1.x.num,.sl i2.1.x.den,.bool i2.1.y.neg,.sl i2.1.y.num,.sl i2.1.y.den]) i2.2) < (0:Int)))=false→(∃ i3:PtD×Int,[DA.agg [cB q.x.neg,cS q.x.num,cS q.x.den,cB q.y.neg,cS q.y.num,cS q.y.den],DA.one (cI (szR (szRow [.bool i2.1.x.neg,.sl i2.1.x.num,.sl i2.1.x.den,.bool i2.1.y.neg,.sl i2.1.y.num,.sl i2.1.y.den]) i2.2))]=szPoint_con.args i3∧szPoint_con.pre i3∧(((decide ((szR (szRow [.bool i3.1.x.neg,.sl i3.1.x.num,.sl i3.1.x.den,.bool i3.1.y.neg,.sl i3.1.y.num,.sl i3.1.y.den]) i3.2) < (0:Int)))=true→((Value.bool true=Value.bool true)))∧((decide ((szR (szRow [.bool i3.1.x.neg,.sl i3.1.x.num,.sl i3.1.x.den,.bool i3.1.y.neg,.sl i3.1.y.num,.sl i3.1.y.den]) i3.2) < (0:Int)))=false→(∃ i4:Scn,[DA.agg [cI s.low.1,cI s.low.2,cI s.high.1,cI s.high.2,DC.sl 54 [.int,.int] (vecsD s.robot),DC.sl 22 [.sl 54 [.int,.int]] (areasD s.obst),DC.sl 54 [.int,.int] (vecsD s.tables)]]=toScene_con.args i4∧toScene_con.pre i4∧(∃ i5:PtD,[DA.agg [cB p.x.neg,cS p.x.num,cS p.x.den,cB p.y.neg,cS p.y.num,cS p.y.den]]=toPoint_con.args i5∧toPoint_con.pre i5∧(∃ i6:PtD,[DA.agg [cB q.x.neg,cS q.x.num,cS q.x.den,cB q.y.neg,cS q.y.num,cS q.y.den]]=toPoint_con.args i6∧toPoint_con.pre i6∧(∃ i7:Scn×Int×PtD×PtD,[DA.agg [cI i4.low.1,cI i4.low.2,cI i4.high.1,cI i4.high.2,DC.sl 61 [.int,.int] (vecsD i4.robot),DC.sl 33 [.sl 61 [.int,.int]] (areasD i4.obst),DC.sl 61 [.int,.int] (vecsD i4.tables)],DA.one (cI h),DA.agg [cB i5.x.neg,cS i5.x.num,cS i5.x.den,cB i5.y.neg,cS i5.y.num,cS i5.y.den],DA.agg [cB i6.x.neg,cS i6.x.num,cS i6.x.den,cB i6.y.neg,cS i6.y.num,cS i6.y.den]]=sSwept_con.args i7∧sSwept_con.pre i7∧(∃ i8:Scn,[DA.agg [cI s.low.1,cI s.low.2,cI s.high.1,cI s.high.2,DC.sl 54 [.int,.int] (vecsD s.robot),DC.sl 22 [.sl 54 [.int,.int]] (areasD s.obst),DC.sl 54 [.int,.int] (vecsD s.tables)]]=toScene_con.args i8∧toScene_con.pre i8∧(∃ i9:PtD,[DA.agg [cB p.x.neg,cS p.x.num,cS p.x.den,cB p.y.neg,cS p.y.num,cS p.y.den]]=toPoint_con.args i9∧toPoint_con.pre i9∧(∃ i10:PtD,[DA.agg [cB q.x.neg,cS q.x.num,cS q.x.den,cB q.y.neg,cS q.y.num,cS q.y.den]]=toPoint_con.args i10∧toPoint_con.pre i10∧(∃ i11:Scn×Int×PtD×PtD,[DA.agg [cI i8.low.1,cI i8.low.2,cI i8.high.1,cI i8.high.2,DC.sl 61 [.int,.int] (vecsD i8.robot),DC.sl 33 [.sl 61 [.int,.int]] (areasD i8.obst),DC.sl 61 [.int,.int] (vecsD i8.tables)],DA.one (cI h),DA.agg [cB i9.x.neg,cS i9.x.num,cS i9.x.den,cB i9.y.neg,cS i9.y.num,cS i9.y.den],DA.agg [cB i10.x.neg,cS i10.x.num,cS i10.x.den,cB i10.y.neg,cS i10.y.num,cS i10.y.den]]=iSwept_con.args i11∧iSwept_con.pre i11∧(∃ i12:(List (List Dat)),[DA.one (DC.sl 39 [.bool,.sl 3 [.int],.sl 3 [.int],.bool,.sl 3 [.int],.sl 3 [.int]] (swR i11.1 i11.2.1 i11.2.2.1 i11.2.2.2)),DA.one (DC.sl 39 [.bool,.sl 3 [.int],.sl 3 [.int],.bool,.sl 3 [.int],.sl 3 [.int]] (swR i7.1 i7.2.1 i7.2.2.1 i7.2.2.2))]=eqPointS_con.args i12∧eqPointS_con.pre i12∧(((!true)=true→((Value.bool false=Value.bool true)))∧((!true)=false→(∃ i13:Scn,[DA.agg [cI s.low.1,cI s.low.2,cI s.high.1,cI s.high.2,DC.sl 54 [.int,.int] (vecsD s.robot),DC.sl 22 [.sl 54 [.int,.int]] (areasD s.obst),DC.sl 54 [.int,.int] (vecsD s.tables)]]=toScene_con.args i13∧toScene_con.pre i13∧(∃ i14:Scn,[DA.agg [cI i8.low.1,cI i8.low.2,cI i8.high.1,cI i8.high.2,DC.sl 61 [.int,.int] (vecsD i8.robot),DC.sl 33 [.sl 61 [.int,.int]] (areasD i8.obst),DC.sl 61 [.int,.int] (vecsD i8.tables)],DA.agg [cI i13.low.1,cI i13.low.2,cI i13.high.1,cI i13.high.2,DC.sl 61 [.int,.int] (vecsD i13.robot),DC.sl 33 [.sl 61 [.int,.int]] (areasD i13.obst),DC.sl 61 [.int,.int] (vecsD i13.tables)]]=eqScene_con.args i14∧eqScene_con.pre i14∧(((!true)=true→((Value.bool false=Value.bool true)))∧((!true)=false→(∃ i15:PtD,[DA.agg [cB p.x.neg,cS p.x.num,cS p.x.den,cB p.y.neg,cS p.y.num,cS p.y.den]]=toPoint_con.args i15∧toPoint_con.pre i15∧(∃ i16:PtD,[DA.agg [cB i9.x.neg,cS i9.x.num,cS i9.x.den,cB i9.y.neg,cS i9.y.num,cS i9.y.den],DA.agg [cB i15.x.neg,cS i15.x.num,cS i15.x.den,cB i15.y.neg,cS i15.y.num,cS i15.y.den]]=eqPoint_con.args i16∧eqPoint_con.pre i16∧(((!true)=true→((Value.bool false=Value.bool true)))∧((!true)=false→(∃ i17:PtD,[DA.agg [cB q.x.neg,cS q.x.num,cS q.x.den,cB q.y.neg,cS q.y.num,cS q.y.den]]=toPoint_con.args i17∧toPoint_con.pre i17∧(∃ i18:PtD,[DA.agg [cB i10.x.neg,cS i10.x.num,cS i10.x.den,cB i10.y.neg,cS i10.y.num,cS i10.y.den],DA.agg [cB i17.x.neg,cS i17.x.num,cS i17.x.den,cB i17.y.neg,cS i17.y.num,cS i17.y.den]]=eqPoint_con.args i18∧eqPoint_con.pre i18∧(((!true)=true→((Value.bool false=Value.bool true)))∧((!true)=false→(∃ i19:Scn×Int,[DA.agg [cI i8.low.1,cI i8.low.2,cI i8.high.1,cI i8.high.2,DC.sl 61 [.int,.int] (vecsD i8.robot),DC.sl 33 [.sl 61 [.int,.int]] (areasD i8.obst),DC.sl 61 [.int,.int] (vecsD i8.tables)],DA.one (cI (1:Int))]=markScene_con.args i19∧markScene_con.pre i19∧(∃ i20:PtD×Int,[DA.agg [cB i9.x.neg,cS i9.x.num,cS i9.x.den,cB i9.y.neg,cS i9.y.num,cS i9.y.den],DA.one (cI (i19.2+(cntV [.int i19.1.low.1,.int i19.1.low.2,.int i19.1.high.1,.int i19.1.high.2,.sl (vecsD i19.1.robot),.sl (areasD i19.1.obst),.sl (vecsD i19.1.tables)]:Int)))]=markPoint_con.args i20∧markPoint_con.pre i20∧(∃ i21:PtD×Int,[DA.agg [cB i10.x.neg,cS i10.x.num,cS i10.x.den,cB i10.y.neg,cS i10.y.num,cS i10.y.den],DA.one (cI (i20.2+(cntV [.bool i20.1.x.neg,.sl i20.1.x.num,.sl i20.1.x.den,.bool i20.1.y.neg,.sl i20.1.y.num,.sl i20.1.y.den]:Int)))]=markPoint_con.args i21∧markPoint_con.pre i21∧(((!(decide ((i21.2+(cntV [.bool i21.1.x.neg,.sl i21.1.x.num,.sl i21.1.x.den,.bool i21.1.y.neg,.sl i21.1.y.num,.sl i21.1.y.den]:Int)) < (0:Int))))=true→(∃ i22:(List (List Dat)),[DA.one (DC.sl 39 [.bool,.sl 3 [.int],.sl 3 [.int],.bool,.sl 3 [.int],.sl 3 [.int]] (swR i11.1 i11.2.1 i11.2.2.1 i11.2.2.2)),DA.one (DC.sl 39 [.bool,.sl 3 [.int],.sl 3 [.int],.bool,.sl 3 [.int],.sl 3 [.int]] (swR i7.1 i7.2.1 i7.2.2.1 i7.2.2.2))]=eqPointS_con.args i22∧eqPointS_con.pre i22∧(((!true)=true→((Value.bool false=Value.bool true)))∧((!true)=false→(∃ i23:(List (List Dat))×Int,[DA.one (DC.sl 39 [.bool,.sl 3 [.int],.sl 3 [.int],.bool,.sl 3 [.int],.sl 3 [.int]] (swR i11.1 i11.2.1 i11.2.2.1 i11.2.2.2)),DA.one (cI (1:Int))]=markPointS_con.args i23∧markPointS_con.pre i23∧(∃ i24:(List (List Dat))×Int,[DA.one (DC.sl 39 [.bool,.sl 3 [.int],.sl 3 [.int],.bool,.sl 3 [.int],.sl 3 [.int]] (mkRows i23.2 i23.1)),DA.one (cI (1:Int))]=heldPointS_con.args i24∧heldPointS_con.pre i24∧(((decide ((i24.2+(cntRows i24.1:Int)) < (0:Int)))=true→((Value.bool false=Value.bool true)))∧((decide ((i24.2+(cntRows i24.1:Int)) < (0:Int)))=false→((((i24.2+(cntRows i24.1:Int)) != (i23.2+(cntRows i23.1:Int)))=true→((Value.bool false=Value.bool true)))∧(((i24.2+(cntRows i24.1:Int)) != (i23.2+(cntRows i23.1:Int)))=false→(∃ i25:Scn,[DA.agg [cI s.low.1,cI s.low.2,cI s.high.1,cI s.high.2,DC.sl 54 [.int,.int] (vecsD s.robot),DC.sl 22 [.sl 54 [.int,.int]] (areasD s.obst),DC.sl 54 [.int,.int] (vecsD s.tables)]]=toScene_con.args i25∧toScene_con.pre i25∧(∃ i26:PtD,[DA.agg [cB p.x.neg,cS p.x.num,cS p.x.den,cB p.y.neg,cS p.y.num,cS p.y.den]]=toPoint_con.args i26∧toPoint_con.pre i26∧(∃ i27:PtD,[DA.agg [cB q.x.neg,cS q.x.num,cS q.x.den,cB q.y.neg,cS q.y.num,cS q.y.den]]=toPoint_con.args i27∧toPoint_con.pre i27∧(∃ i28:Scn×Int×PtD×PtD,[DA.agg [cI i25.low.1,cI i25.low.2,cI i25.high.1,cI i25.high.2,DC.sl 61 [.int,.int] (vecsD i25.robot),DC.sl 33 [.sl 61 [.int,.int]] (areasD i25.obst),DC.sl 61 [.int,.int] (vecsD i25.tables)],DA.one (cI h),DA.agg [cB i26.x.neg,cS i26.x.num,cS i26.x.den,cB i26.y.neg,cS i26.y.num,cS i26.y.den],DA.agg [cB i27.x.neg,cS i27.x.num,cS i27.x.den,cB i27.y.neg,cS i27.y.num,cS i27.y.den]]=iSwept_con.args i28∧iSwept_con.pre i28∧(∃ i29:(List (List Dat)),[DA.one (DC.sl 39 [.bool,.sl 3 [.int],.sl 3 [.int],.bool,.sl 3 [.int],.sl 3 [.int]] (swR i28.1 i28.2.1 i28.2.2.1 i28.2.2.2)),DA.one (DC.sl 39 [.bool,.sl 3 [.int],.sl 3 [.int],.bool,.sl 3 [.int],.sl 3 [.int]] (swR i7.1 i7.2.1 i7.2.2.1 i7.2.2.2))]=eqPointS_con.args i29∧eqPointS_con.pre i29∧(((!true)=true→((Value.bool false=Value.bool true)))∧((!true)=false→(∃ i30:(List (List Dat))×Int,[DA.one (DC.sl 39 [.bool,.sl 3 [.int],.sl 3 [.int],.bool,.sl 3 [.int],.sl 3 [.int]] (mkRows i23.2 i23.1)),DA.one (cI (1:Int))]=heldPointS_con.args i30∧heldPointS_con.pre i30∧(((decide ((i30.2+(cntRows i30.1:Int)) < (0:Int)))=true→((Value.bool false=Value.bool true)))∧((decide ((i30.2+(cntRows i30.1:Int)) < (0:Int)))=false→((((i30.2+(cntRows i30.1:Int)) != (i23.2+(cntRows i23.1:Int)))=true→((Value.bool false=Value.bool true)))∧(((i30.2+(cntRows i30.1:Int)) != (i23.2+(cntRows i23.1:Int)))=false→((Value.bool true=Value.bool true))))))))))))))))))))))))∧((!(decide ((i21.2+(cntV [.bool i21.1.x.neg,.sl i21.1.x.num,.sl i21.1.x.den,.bool i21.1.y.neg,.sl i21.1.y.num,.sl i21.1.y.den]:Int)) < (0:Int))))=false→((Value.bool false=Value.bool true))))))))))))))))))))))))))))))))))))))) (by kernel_rfl) ?_
 refine ⟨(s,(1048576:Int)),by
  rfl,by
  show hasRow [.int,.int,.int,.int,.sl 61 [.int,.int],.sl 33 [.sl 61 [.int,.int]],.sl 61 [.int,.int]] [.int s.low.1,.int s.low.2,.int s.high.1,.int s.high.2,.sl (vecsD s.robot),.sl (areasD s.obst),.sl (vecsD s.tables)]∧0≤(1048576:Int)∧(1048576:Int)≤1048576
  first|trivial|exact ⟨hpre.1,by omega,by omega⟩|exact gs|exact hz|exact ⟨hpre.2.1,c4,by have:=z1.1;omega⟩|exact g_p|exact hh_p|exact ⟨hpre.2.2,c9,by have:=z1.1;have:=z2.1;omega⟩|exact g_q|exact hh_q|exact ⟨hh_p,hh_q⟩|exact ⟨by omega,by omega,hoh⟩|(refine ⟨?_,?_⟩ <;> omega),?_⟩
 refine ⟨fun c4=>?_,fun c4=>?_⟩
 ·skip
  replace c4:(decide ((szR (szRow [.int s.low.1,.int s.low.2,.int s.high.1,.int s.high.2,.sl (vecsD s.robot),.sl (areasD s.obst),.sl (vecsD s.tables)]) (1048576:Int)) < (0:Int)))=true:=c4
  try simp only [nrm] at c4
  exact rfl
 ·skip
  replace c4:(decide ((szR (szRow [.int s.low.1,.int s.low.2,.int s.high.1,.int s.high.2,.sl (vecsD s.robot),.sl (areasD s.obst),.sl (vecsD s.tables)]) (1048576:Int)) < (0:Int)))=false:=c4
  try simp only [nrm] at c4
  have z1:=szR_ge c4
  have gs:szRow [.int s.low.1,.int s.low.2,.int s.high.1,.int s.high.2,.sl (vecsD s.robot),.sl (areasD s.obst),.sl (vecsD s.tables)]≤1048576:=by have:=z1.2;omega
  have hz:scnSz s:=scnD_sz gs
  have hcs:(cntV [.int s.low.1,.int s.low.2,.int s.high.1,.int s.high.2,.sl (vecsD s.robot),.sl (areasD s.obst),.sl (vecsD s.tables)]:Int)≤2000000000:=cntV_small hpre.1 gs (by simp [KRow,Ty.K])
  refine ⟨(p,(szR (szRow [.int s.low.1,.int s.low.2,.int s.high.1,.int s.high.2,.sl (vecsD s.robot),.sl (areasD s.obst),.sl (vecsD s.tables)]) (1048576:Int))),by
   rfl,by
   show hasRow [.bool,.sl 3 [.int],.sl 3 [.int],.bool,.sl 3 [.int],.sl 3 [.int]] [.bool p.x.neg,.sl p.x.num,.sl p.x.den,.bool p.y.neg,.sl p.y.num,.sl p.y.den]∧0≤(szR (szRow [.int s.low.1,.int s.low.2,.int s.high.1,.int s.high.2,.sl (vecsD s.robot),.sl (areasD s.obst),.sl (vecsD s.tables)]) (1048576:Int))∧(szR (szRow [.int s.low.1,.int s.low.2,.int s.high.1,.int s.high.2,.sl (vecsD s.robot),.sl (areasD s.obst),.sl (vecsD s.tables)]) (1048576:Int))≤1048576
   first|trivial|exact ⟨hpre.1,by omega,by omega⟩|exact gs|exact hz|exact ⟨hpre.2.1,c4,by have:=z1.1;omega⟩|exact g_p|exact hh_p|exact ⟨hpre.2.2,c9,by have:=z1.1;have:=z2.1;omega⟩|exact g_q|exact hh_q|exact ⟨hh_p,hh_q⟩|exact ⟨by omega,by omega,hoh⟩|(refine ⟨?_,?_⟩ <;> omega),?_⟩
  refine ⟨fun c9=>?_,fun c9=>?_⟩
  ·skip
   replace c9:(decide ((szR (szRow [.bool p.x.neg,.sl p.x.num,.sl p.x.den,.bool p.y.neg,.sl p.y.num,.sl p.y.den]) (szR (szRow [.int s.low.1,.int s.low.2,.int s.high.1,.int s.high.2,.sl (vecsD s.robot),.sl (areasD s.obst),.sl (vecsD s.tables)]) (1048576:Int))) < (0:Int)))=true:=c9
   try simp only [nrm] at c9
   exact rfl
  ·skip
   replace c9:(decide ((szR (szRow [.bool p.x.neg,.sl p.x.num,.sl p.x.den,.bool p.y.neg,.sl p.y.num,.sl p.y.den]) (szR (szRow [.int s.low.1,.int s.low.2,.int s.high.1,.int s.high.2,.sl (vecsD s.robot),.sl (areasD s.obst),.sl (vecsD s.tables)]) (1048576:Int))) < (0:Int)))=false:=c9
   try simp only [nrm] at c9
   have z2:=szR_ge c9
   have g_p:szRow [.bool p.x.neg,.sl p.x.num,.sl p.x.den,.bool p.y.neg,.sl p.y.num,.sl p.y.den]≤1048576:=by have:=z1.1;have:=z2.1;have:=z2.2;omega
   have hc_p:(cntV [.bool p.x.neg,.sl p.x.num,.sl p.x.den,.bool p.y.neg,.sl p.y.num,.sl p.y.den]:Int)≤2000000000:=cntV_small hpre.2.1 g_p (by simp [KRow,Ty.K])
   have hh_p:=pt_has hpre.2.1
   refine ⟨(q,(szR (szRow [.bool p.x.neg,.sl p.x.num,.sl p.x.den,.bool p.y.neg,.sl p.y.num,.sl p.y.den]) (szR (szRow [.int s.low.1,.int s.low.2,.int s.high.1,.int s.high.2,.sl (vecsD s.robot),.sl (areasD s.obst),.sl (vecsD s.tables)]) (1048576:Int)))),by
    rfl,by
    show hasRow [.bool,.sl 3 [.int],.sl 3 [.int],.bool,.sl 3 [.int],.sl 3 [.int]] [.bool q.x.neg,.sl q.x.num,.sl q.x.den,.bool q.y.neg,.sl q.y.num,.sl q.y.den]∧0≤(szR (szRow [.bool p.x.neg,.sl p.x.num,.sl p.x.den,.bool p.y.neg,.sl p.y.num,.sl p.y.den]) (szR (szRow [.int s.low.1,.int s.low.2,.int s.high.1,.int s.high.2,.sl (vecsD s.robot),.sl (areasD s.obst),.sl (vecsD s.tables)]) (1048576:Int)))∧(szR (szRow [.bool p.x.neg,.sl p.x.num,.sl p.x.den,.bool p.y.neg,.sl p.y.num,.sl p.y.den]) (szR (szRow [.int s.low.1,.int s.low.2,.int s.high.1,.int s.high.2,.sl (vecsD s.robot),.sl (areasD s.obst),.sl (vecsD s.tables)]) (1048576:Int)))≤1048576
    first|trivial|exact ⟨hpre.1,by omega,by omega⟩|exact gs|exact hz|exact ⟨hpre.2.1,c4,by have:=z1.1;omega⟩|exact g_p|exact hh_p|exact ⟨hpre.2.2,c9,by have:=z1.1;have:=z2.1;omega⟩|exact g_q|exact hh_q|exact ⟨hh_p,hh_q⟩|exact ⟨by omega,by omega,hoh⟩|(refine ⟨?_,?_⟩ <;> omega),?_⟩
   refine ⟨fun c14=>?_,fun c14=>?_⟩
   ·skip
    replace c14:(decide ((szR (szRow [.bool q.x.neg,.sl q.x.num,.sl q.x.den,.bool q.y.neg,.sl q.y.num,.sl q.y.den]) (szR (szRow [.bool p.x.neg,.sl p.x.num,.sl p.x.den,.bool p.y.neg,.sl p.y.num,.sl p.y.den]) (szR (szRow [.int s.low.1,.int s.low.2,.int s.high.1,.int s.high.2,.sl (vecsD s.robot),.sl (areasD s.obst),.sl (vecsD s.tables)]) (1048576:Int)))) < (0:Int)))=true:=c14
    try simp only [nrm] at c14
    exact rfl
   ·skip
    replace c14:(decide ((szR (szRow [.bool q.x.neg,.sl q.x.num,.sl q.x.den,.bool q.y.neg,.sl q.y.num,.sl q.y.den]) (szR (szRow [.bool p.x.neg,.sl p.x.num,.sl p.x.den,.bool p.y.neg,.sl p.y.num,.sl p.y.den]) (szR (szRow [.int s.low.1,.int s.low.2,.int s.high.1,.int s.high.2,.sl (vecsD s.robot),.sl (areasD s.obst),.sl (vecsD s.tables)]) (1048576:Int)))) < (0:Int)))=false:=c14
    try simp only [nrm] at c14
    have z3:=szR_ge c14
    have g_q:szRow [.bool q.x.neg,.sl q.x.num,.sl q.x.den,.bool q.y.neg,.sl q.y.num,.sl q.y.den]≤1048576:=by have:=z1.1;have:=z2.1;have:=z3.1;have:=z3.2;omega
    have hc_q:(cntV [.bool q.x.neg,.sl q.x.num,.sl q.x.den,.bool q.y.neg,.sl q.y.num,.sl q.y.den]:Int)≤2000000000:=cntV_small hpre.2.2 g_q (by simp [KRow,Ty.K])
    have hh_q:=pt_has hpre.2.2
    have hb:=swR_has s h p q
    have hoh:=hb.1
    have hoc:=hb.2
    refine ⟨s,by
     rfl,by
     show szRow [.int s.low.1,.int s.low.2,.int s.high.1,.int s.high.2,.sl (vecsD s.robot),.sl (areasD s.obst),.sl (vecsD s.tables)]≤1048576
     first|trivial|exact ⟨hpre.1,by omega,by omega⟩|exact gs|exact hz|exact ⟨hpre.2.1,c4,by have:=z1.1;omega⟩|exact g_p|exact hh_p|exact ⟨hpre.2.2,c9,by have:=z1.1;have:=z2.1;omega⟩|exact g_q|exact hh_q|exact ⟨hh_p,hh_q⟩|exact ⟨by omega,by omega,hoh⟩|(refine ⟨?_,?_⟩ <;> omega),?_⟩
    refine ⟨p,by
     rfl,by
     show szRow [.bool p.x.neg,.sl p.x.num,.sl p.x.den,.bool p.y.neg,.sl p.y.num,.sl p.y.den]≤1048576
     first|trivial|exact ⟨hpre.1,by omega,by omega⟩|exact gs|exact hz|exact ⟨hpre.2.1,c4,by have:=z1.1;omega⟩|exact g_p|exact hh_p|exact ⟨hpre.2.2,c9,by have:=z1.1;have:=z2.1;omega⟩|exact g_q|exact hh_q|exact ⟨hh_p,hh_q⟩|exact ⟨by omega,by omega,hoh⟩|(refine ⟨?_,?_⟩ <;> omega),?_⟩
    refine ⟨q,by
     rfl,by
     show szRow [.bool q.x.neg,.sl q.x.num,.sl q.x.den,.bool q.y.neg,.sl q.y.num,.sl q.y.den]≤1048576
     first|trivial|exact ⟨hpre.1,by omega,by omega⟩|exact gs|exact hz|exact ⟨hpre.2.1,c4,by have:=z1.1;omega⟩|exact g_p|exact hh_p|exact ⟨hpre.2.2,c9,by have:=z1.1;have:=z2.1;omega⟩|exact g_q|exact hh_q|exact ⟨hh_p,hh_q⟩|exact ⟨by omega,by omega,hoh⟩|(refine ⟨?_,?_⟩ <;> omega),?_⟩
    refine ⟨(s,h,p,q),by
     rfl,by
     show p.has∧q.has
     first|trivial|exact ⟨hpre.1,by omega,by omega⟩|exact gs|exact hz|exact ⟨hpre.2.1,c4,by have:=z1.1;omega⟩|exact g_p|exact hh_p|exact ⟨hpre.2.2,c9,by have:=z1.1;have:=z2.1;omega⟩|exact g_q|exact hh_q|exact ⟨hh_p,hh_q⟩|exact ⟨by omega,by omega,hoh⟩|(refine ⟨?_,?_⟩ <;> omega),?_⟩
    refine ⟨s,by
     rfl,by
     show szRow [.int s.low.1,.int s.low.2,.int s.high.1,.int s.high.2,.sl (vecsD s.robot),.sl (areasD s.obst),.sl (vecsD s.tables)]≤1048576
     first|trivial|exact ⟨hpre.1,by omega,by omega⟩|exact gs|exact hz|exact ⟨hpre.2.1,c4,by have:=z1.1;omega⟩|exact g_p|exact hh_p|exact ⟨hpre.2.2,c9,by have:=z1.1;have:=z2.1;omega⟩|exact g_q|exact hh_q|exact ⟨hh_p,hh_q⟩|exact ⟨by omega,by omega,hoh⟩|(refine ⟨?_,?_⟩ <;> omega),?_⟩
    refine ⟨p,by
     rfl,by
     show szRow [.bool p.x.neg,.sl p.x.num,.sl p.x.den,.bool p.y.neg,.sl p.y.num,.sl p.y.den]≤1048576
     first|trivial|exact ⟨hpre.1,by omega,by omega⟩|exact gs|exact hz|exact ⟨hpre.2.1,c4,by have:=z1.1;omega⟩|exact g_p|exact hh_p|exact ⟨hpre.2.2,c9,by have:=z1.1;have:=z2.1;omega⟩|exact g_q|exact hh_q|exact ⟨hh_p,hh_q⟩|exact ⟨by omega,by omega,hoh⟩|(refine ⟨?_,?_⟩ <;> omega),?_⟩
    refine ⟨q,by
     rfl,by
     show szRow [.bool q.x.neg,.sl q.x.num,.sl q.x.den,.bool q.y.neg,.sl q.y.num,.sl q.y.den]≤1048576
     first|trivial|exact ⟨hpre.1,by omega,by omega⟩|exact gs|exact hz|exact ⟨hpre.2.1,c4,by have:=z1.1;omega⟩|exact g_p|exact hh_p|exact ⟨hpre.2.2,c9,by have:=z1.1;have:=z2.1;omega⟩|exact g_q|exact hh_q|exact ⟨hh_p,hh_q⟩|exact ⟨by omega,by omega,hoh⟩|(refine ⟨?_,?_⟩ <;> omega),?_⟩
    refine ⟨(s,h,p,q),by
     rfl,by
     show p.has∧q.has
     first|trivial|exact ⟨hpre.1,by omega,by omega⟩|exact gs|exact hz|exact ⟨hpre.2.1,c4,by have:=z1.1;omega⟩|exact g_p|exact hh_p|exact ⟨hpre.2.2,c9,by have:=z1.1;have:=z2.1;omega⟩|exact g_q|exact hh_q|exact ⟨hh_p,hh_q⟩|exact ⟨by omega,by omega,hoh⟩|(refine ⟨?_,?_⟩ <;> omega),?_⟩
    refine ⟨swR s h p q,by
     rfl,by
     first|trivial|exact ⟨hpre.1,by omega,by omega⟩|exact gs|exact hz|exact ⟨hpre.2.1,c4,by have:=z1.1;omega⟩|exact g_p|exact hh_p|exact ⟨hpre.2.2,c9,by have:=z1.1;have:=z2.1;omega⟩|exact g_q|exact hh_q|exact ⟨hh_p,hh_q⟩|exact ⟨by omega,by omega,hoh⟩|(refine ⟨?_,?_⟩ <;> omega),?_⟩
    refine ⟨fun c43=>?_,fun c43=>?_⟩
    ·skip
     try simp only [nrm] at c43
     show Value.bool false=Value.bool true
     first|rfl|contradiction|(exfalso;omega)|simp_all
    ·skip
     try simp only [nrm] at c43
     refine ⟨s,by
      rfl,by
      show szRow [.int s.low.1,.int s.low.2,.int s.high.1,.int s.high.2,.sl (vecsD s.robot),.sl (areasD s.obst),.sl (vecsD s.tables)]≤1048576
      first|trivial|exact ⟨hpre.1,by omega,by omega⟩|exact gs|exact hz|exact ⟨hpre.2.1,c4,by have:=z1.1;omega⟩|exact g_p|exact hh_p|exact ⟨hpre.2.2,c9,by have:=z1.1;have:=z2.1;omega⟩|exact g_q|exact hh_q|exact ⟨hh_p,hh_q⟩|exact ⟨by omega,by omega,hoh⟩|(refine ⟨?_,?_⟩ <;> omega),?_⟩
     refine ⟨s,by
      rfl,by
      first|trivial|exact ⟨hpre.1,by omega,by omega⟩|exact gs|exact hz|exact ⟨hpre.2.1,c4,by have:=z1.1;omega⟩|exact g_p|exact hh_p|exact ⟨hpre.2.2,c9,by have:=z1.1;have:=z2.1;omega⟩|exact g_q|exact hh_q|exact ⟨hh_p,hh_q⟩|exact ⟨by omega,by omega,hoh⟩|(refine ⟨?_,?_⟩ <;> omega),?_⟩
     refine ⟨fun c51=>?_,fun c51=>?_⟩
     ·skip
      try simp only [nrm] at c51
      show Value.bool false=Value.bool true
      first|rfl|contradiction|(exfalso;omega)|simp_all
     ·skip
      try simp only [nrm] at c51
      refine ⟨p,by
       rfl,by
       show szRow [.bool p.x.neg,.sl p.x.num,.sl p.x.den,.bool p.y.neg,.sl p.y.num,.sl p.y.den]≤1048576
       first|trivial|exact ⟨hpre.1,by omega,by omega⟩|exact gs|exact hz|exact ⟨hpre.2.1,c4,by have:=z1.1;omega⟩|exact g_p|exact hh_p|exact ⟨hpre.2.2,c9,by have:=z1.1;have:=z2.1;omega⟩|exact g_q|exact hh_q|exact ⟨hh_p,hh_q⟩|exact ⟨by omega,by omega,hoh⟩|(refine ⟨?_,?_⟩ <;> omega),?_⟩
      refine ⟨p,by
       rfl,by
       first|trivial|exact ⟨hpre.1,by omega,by omega⟩|exact gs|exact hz|exact ⟨hpre.2.1,c4,by have:=z1.1;omega⟩|exact g_p|exact hh_p|exact ⟨hpre.2.2,c9,by have:=z1.1;have:=z2.1;omega⟩|exact g_q|exact hh_q|exact ⟨hh_p,hh_q⟩|exact ⟨by omega,by omega,hoh⟩|(refine ⟨?_,?_⟩ <;> omega),?_⟩
      refine ⟨fun c59=>?_,fun c59=>?_⟩
      ·skip
       try simp only [nrm] at c59
       show Value.bool false=Value.bool true
       first|rfl|contradiction|(exfalso;omega)|simp_all
      ·skip
       try simp only [nrm] at c59
       refine ⟨q,by
        rfl,by
        show szRow [.bool q.x.neg,.sl q.x.num,.sl q.x.den,.bool q.y.neg,.sl q.y.num,.sl q.y.den]≤1048576
        first|trivial|exact ⟨hpre.1,by omega,by omega⟩|exact gs|exact hz|exact ⟨hpre.2.1,c4,by have:=z1.1;omega⟩|exact g_p|exact hh_p|exact ⟨hpre.2.2,c9,by have:=z1.1;have:=z2.1;omega⟩|exact g_q|exact hh_q|exact ⟨hh_p,hh_q⟩|exact ⟨by omega,by omega,hoh⟩|(refine ⟨?_,?_⟩ <;> omega),?_⟩
       refine ⟨q,by
        rfl,by
        first|trivial|exact ⟨hpre.1,by omega,by omega⟩|exact gs|exact hz|exact ⟨hpre.2.1,c4,by have:=z1.1;omega⟩|exact g_p|exact hh_p|exact ⟨hpre.2.2,c9,by have:=z1.1;have:=z2.1;omega⟩|exact g_q|exact hh_q|exact ⟨hh_p,hh_q⟩|exact ⟨by omega,by omega,hoh⟩|(refine ⟨?_,?_⟩ <;> omega),?_⟩
       refine ⟨fun c67=>?_,fun c67=>?_⟩
       ·skip
        try simp only [nrm] at c67
        show Value.bool false=Value.bool true
        first|rfl|contradiction|(exfalso;omega)|simp_all
       ·skip
        try simp only [nrm] at c67
        refine ⟨(s,(1:Int)),by
         rfl,by
         show 0≤(1:Int)∧(1:Int)+(cntV [.int s.low.1,.int s.low.2,.int s.high.1,.int s.high.2,.sl (vecsD s.robot),.sl (areasD s.obst),.sl (vecsD s.tables)]:Int)≤4611686018427387904
         first|trivial|exact ⟨hpre.1,by omega,by omega⟩|exact gs|exact hz|exact ⟨hpre.2.1,c4,by have:=z1.1;omega⟩|exact g_p|exact hh_p|exact ⟨hpre.2.2,c9,by have:=z1.1;have:=z2.1;omega⟩|exact g_q|exact hh_q|exact ⟨hh_p,hh_q⟩|exact ⟨by omega,by omega,hoh⟩|(refine ⟨?_,?_⟩ <;> omega),?_⟩
        refine ⟨(p,((1:Int)+(cntV [.int s.low.1,.int s.low.2,.int s.high.1,.int s.high.2,.sl (vecsD s.robot),.sl (areasD s.obst),.sl (vecsD s.tables)]:Int))),by
         rfl,by
         show 0≤((1:Int)+(cntV [.int s.low.1,.int s.low.2,.int s.high.1,.int s.high.2,.sl (vecsD s.robot),.sl (areasD s.obst),.sl (vecsD s.tables)]:Int))∧((1:Int)+(cntV [.int s.low.1,.int s.low.2,.int s.high.1,.int s.high.2,.sl (vecsD s.robot),.sl (areasD s.obst),.sl (vecsD s.tables)]:Int))+(cntV [.bool p.x.neg,.sl p.x.num,.sl p.x.den,.bool p.y.neg,.sl p.y.num,.sl p.y.den]:Int)≤4611686018427387904
         first|trivial|exact ⟨hpre.1,by omega,by omega⟩|exact gs|exact hz|exact ⟨hpre.2.1,c4,by have:=z1.1;omega⟩|exact g_p|exact hh_p|exact ⟨hpre.2.2,c9,by have:=z1.1;have:=z2.1;omega⟩|exact g_q|exact hh_q|exact ⟨hh_p,hh_q⟩|exact ⟨by omega,by omega,hoh⟩|(refine ⟨?_,?_⟩ <;> omega),?_⟩
        refine ⟨(q,(((1:Int)+(cntV [.int s.low.1,.int s.low.2,.int s.high.1,.int s.high.2,.sl (vecsD s.robot),.sl (areasD s.obst),.sl (vecsD s.tables)]:Int))+(cntV [.bool p.x.neg,.sl p.x.num,.sl p.x.den,.bool p.y.neg,.sl p.y.num,.sl p.y.den]:Int))),by
         rfl,by
         show 0≤(((1:Int)+(cntV [.int s.low.1,.int s.low.2,.int s.high.1,.int s.high.2,.sl (vecsD s.robot),.sl (areasD s.obst),.sl (vecsD s.tables)]:Int))+(cntV [.bool p.x.neg,.sl p.x.num,.sl p.x.den,.bool p.y.neg,.sl p.y.num,.sl p.y.den]:Int))∧(((1:Int)+(cntV [.int s.low.1,.int s.low.2,.int s.high.1,.int s.high.2,.sl (vecsD s.robot),.sl (areasD s.obst),.sl (vecsD s.tables)]:Int))+(cntV [.bool p.x.neg,.sl p.x.num,.sl p.x.den,.bool p.y.neg,.sl p.y.num,.sl p.y.den]:Int))+(cntV [.bool q.x.neg,.sl q.x.num,.sl q.x.den,.bool q.y.neg,.sl q.y.num,.sl q.y.den]:Int)≤4611686018427387904
         first|trivial|exact ⟨hpre.1,by omega,by omega⟩|exact gs|exact hz|exact ⟨hpre.2.1,c4,by have:=z1.1;omega⟩|exact g_p|exact hh_p|exact ⟨hpre.2.2,c9,by have:=z1.1;have:=z2.1;omega⟩|exact g_q|exact hh_q|exact ⟨hh_p,hh_q⟩|exact ⟨by omega,by omega,hoh⟩|(refine ⟨?_,?_⟩ <;> omega),?_⟩
        refine ⟨fun c78=>?_,fun c78=>?_⟩
        ·skip
         replace c78:(!(decide (((((1:Int)+(cntV [.int s.low.1,.int s.low.2,.int s.high.1,.int s.high.2,.sl (vecsD s.robot),.sl (areasD s.obst),.sl (vecsD s.tables)]:Int))+(cntV [.bool p.x.neg,.sl p.x.num,.sl p.x.den,.bool p.y.neg,.sl p.y.num,.sl p.y.den]:Int))+(cntV [.bool q.x.neg,.sl q.x.num,.sl q.x.den,.bool q.y.neg,.sl q.y.num,.sl q.y.den]:Int)) < (0:Int))))=true:=c78
         try simp only [nrm] at c78
         refine ⟨swR s h p q,by
          rfl,by
          first|trivial|exact ⟨hpre.1,by omega,by omega⟩|exact gs|exact hz|exact ⟨hpre.2.1,c4,by have:=z1.1;omega⟩|exact g_p|exact hh_p|exact ⟨hpre.2.2,c9,by have:=z1.1;have:=z2.1;omega⟩|exact g_q|exact hh_q|exact ⟨hh_p,hh_q⟩|exact ⟨by omega,by omega,hoh⟩|(refine ⟨?_,?_⟩ <;> omega),?_⟩
         refine ⟨fun c82=>?_,fun c82=>?_⟩
         ·skip
          try simp only [nrm] at c82
          show Value.bool false=Value.bool true
          first|rfl|contradiction|(exfalso;omega)|simp_all
         ·skip
          try simp only [nrm] at c82
          refine ⟨(swR s h p q,(1:Int)),by
           rfl,by
           show 0≤(1:Int)∧(1:Int)+(cntRows (swR s h p q):Int)≤4611686018427387904
           first|trivial|exact ⟨hpre.1,by omega,by omega⟩|exact gs|exact hz|exact ⟨hpre.2.1,c4,by have:=z1.1;omega⟩|exact g_p|exact hh_p|exact ⟨hpre.2.2,c9,by have:=z1.1;have:=z2.1;omega⟩|exact g_q|exact hh_q|exact ⟨hh_p,hh_q⟩|exact ⟨by omega,by omega,hoh⟩|(refine ⟨?_,?_⟩ <;> omega),?_⟩
          refine ⟨((swR s h p q),(1:Int)),by
           rfl,by
           show 0≤(1:Int)∧(1:Int)+(cntRows (swR s h p q):Int)≤4611686018427387904∧Dat.has (.sl 39 [.bool,.sl 3 [.int],.sl 3 [.int],.bool,.sl 3 [.int],.sl 3 [.int]]) (.sl (swR s h p q))
           first|trivial|exact ⟨hpre.1,by omega,by omega⟩|exact gs|exact hz|exact ⟨hpre.2.1,c4,by have:=z1.1;omega⟩|exact g_p|exact hh_p|exact ⟨hpre.2.2,c9,by have:=z1.1;have:=z2.1;omega⟩|exact g_q|exact hh_q|exact ⟨hh_p,hh_q⟩|exact ⟨by omega,by omega,hoh⟩|(refine ⟨?_,?_⟩ <;> omega),?_⟩
          refine ⟨fun c90=>?_,fun c90=>?_⟩
          ·skip
           replace c90:(decide (((1:Int)+(cntRows (swR s h p q):Int)) < (0:Int)))=true:=c90
           try simp only [nrm] at c90
           show Value.bool false=Value.bool true
           first|rfl|contradiction|(exfalso;omega)|simp_all
          ·skip
           replace c90:(decide (((1:Int)+(cntRows (swR s h p q):Int)) < (0:Int)))=false:=c90
           try simp only [nrm] at c90
           refine ⟨fun c92=>?_,fun c92=>?_⟩
           ·skip
            replace c92:(((1:Int)+(cntRows (swR s h p q):Int)) != ((1:Int)+(cntRows (swR s h p q):Int)))=true:=c92
            try simp only [nrm] at c92
            show Value.bool false=Value.bool true
            first|rfl|contradiction|(exfalso;omega)|simp_all
           ·skip
            replace c92:(((1:Int)+(cntRows (swR s h p q):Int)) != ((1:Int)+(cntRows (swR s h p q):Int)))=false:=c92
            try simp only [nrm] at c92
            refine ⟨s,by
             rfl,by
             show szRow [.int s.low.1,.int s.low.2,.int s.high.1,.int s.high.2,.sl (vecsD s.robot),.sl (areasD s.obst),.sl (vecsD s.tables)]≤1048576
             first|trivial|exact ⟨hpre.1,by omega,by omega⟩|exact gs|exact hz|exact ⟨hpre.2.1,c4,by have:=z1.1;omega⟩|exact g_p|exact hh_p|exact ⟨hpre.2.2,c9,by have:=z1.1;have:=z2.1;omega⟩|exact g_q|exact hh_q|exact ⟨hh_p,hh_q⟩|exact ⟨by omega,by omega,hoh⟩|(refine ⟨?_,?_⟩ <;> omega),?_⟩
            refine ⟨p,by
             rfl,by
             show szRow [.bool p.x.neg,.sl p.x.num,.sl p.x.den,.bool p.y.neg,.sl p.y.num,.sl p.y.den]≤1048576
             first|trivial|exact ⟨hpre.1,by omega,by omega⟩|exact gs|exact hz|exact ⟨hpre.2.1,c4,by have:=z1.1;omega⟩|exact g_p|exact hh_p|exact ⟨hpre.2.2,c9,by have:=z1.1;have:=z2.1;omega⟩|exact g_q|exact hh_q|exact ⟨hh_p,hh_q⟩|exact ⟨by omega,by omega,hoh⟩|(refine ⟨?_,?_⟩ <;> omega),?_⟩
            refine ⟨q,by
             rfl,by
             show szRow [.bool q.x.neg,.sl q.x.num,.sl q.x.den,.bool q.y.neg,.sl q.y.num,.sl q.y.den]≤1048576
             first|trivial|exact ⟨hpre.1,by omega,by omega⟩|exact gs|exact hz|exact ⟨hpre.2.1,c4,by have:=z1.1;omega⟩|exact g_p|exact hh_p|exact ⟨hpre.2.2,c9,by have:=z1.1;have:=z2.1;omega⟩|exact g_q|exact hh_q|exact ⟨hh_p,hh_q⟩|exact ⟨by omega,by omega,hoh⟩|(refine ⟨?_,?_⟩ <;> omega),?_⟩
            refine ⟨(s,h,p,q),by
             rfl,by
             show p.has∧q.has
             first|trivial|exact ⟨hpre.1,by omega,by omega⟩|exact gs|exact hz|exact ⟨hpre.2.1,c4,by have:=z1.1;omega⟩|exact g_p|exact hh_p|exact ⟨hpre.2.2,c9,by have:=z1.1;have:=z2.1;omega⟩|exact g_q|exact hh_q|exact ⟨hh_p,hh_q⟩|exact ⟨by omega,by omega,hoh⟩|(refine ⟨?_,?_⟩ <;> omega),?_⟩
            refine ⟨swR s h p q,by
             rfl,by
             first|trivial|exact ⟨hpre.1,by omega,by omega⟩|exact gs|exact hz|exact ⟨hpre.2.1,c4,by have:=z1.1;omega⟩|exact g_p|exact hh_p|exact ⟨hpre.2.2,c9,by have:=z1.1;have:=z2.1;omega⟩|exact g_q|exact hh_q|exact ⟨hh_p,hh_q⟩|exact ⟨by omega,by omega,hoh⟩|(refine ⟨?_,?_⟩ <;> omega),?_⟩
            refine ⟨fun c109=>?_,fun c109=>?_⟩
            ·skip
             try simp only [nrm] at c109
             show Value.bool false=Value.bool true
             first|rfl|contradiction|(exfalso;omega)|simp_all
            ·skip
             try simp only [nrm] at c109
             refine ⟨((swR s h p q),(1:Int)),by
              rfl,by
              show 0≤(1:Int)∧(1:Int)+(cntRows (swR s h p q):Int)≤4611686018427387904∧Dat.has (.sl 39 [.bool,.sl 3 [.int],.sl 3 [.int],.bool,.sl 3 [.int],.sl 3 [.int]]) (.sl (swR s h p q))
              first|trivial|exact ⟨hpre.1,by omega,by omega⟩|exact gs|exact hz|exact ⟨hpre.2.1,c4,by have:=z1.1;omega⟩|exact g_p|exact hh_p|exact ⟨hpre.2.2,c9,by have:=z1.1;have:=z2.1;omega⟩|exact g_q|exact hh_q|exact ⟨hh_p,hh_q⟩|exact ⟨by omega,by omega,hoh⟩|(refine ⟨?_,?_⟩ <;> omega),?_⟩
             refine ⟨fun c114=>?_,fun c114=>?_⟩
             ·skip
              replace c114:(decide (((1:Int)+(cntRows (swR s h p q):Int)) < (0:Int)))=true:=c114
              try simp only [nrm] at c114
              show Value.bool false=Value.bool true
              first|rfl|contradiction|(exfalso;omega)|simp_all
             ·skip
              replace c114:(decide (((1:Int)+(cntRows (swR s h p q):Int)) < (0:Int)))=false:=c114
              try simp only [nrm] at c114
              refine ⟨fun c116=>?_,fun c116=>?_⟩
              ·skip
               replace c116:(((1:Int)+(cntRows (swR s h p q):Int)) != ((1:Int)+(cntRows (swR s h p q):Int)))=true:=c116
               try simp only [nrm] at c116
               show Value.bool false=Value.bool true
               first|rfl|contradiction|(exfalso;omega)|simp_all
              ·skip
               replace c116:(((1:Int)+(cntRows (swR s h p q):Int)) != ((1:Int)+(cntRows (swR s h p q):Int)))=false:=c116
               try simp only [nrm] at c116
               exact rfl
        ·skip
         replace c78:(!(decide (((((1:Int)+(cntV [.int s.low.1,.int s.low.2,.int s.high.1,.int s.high.2,.sl (vecsD s.robot),.sl (areasD s.obst),.sl (vecsD s.tables)]:Int))+(cntV [.bool p.x.neg,.sl p.x.num,.sl p.x.den,.bool p.y.neg,.sl p.y.num,.sl p.y.den]:Int))+(cntV [.bool q.x.neg,.sl q.x.num,.sl q.x.den,.bool q.y.neg,.sl q.y.num,.sl q.y.den]:Int)) < (0:Int))))=false:=c78
         try simp only [nrm] at c78
         show Value.bool false=Value.bool true
         first|rfl|contradiction|(exfalso;omega)|simp_all
end Go.Proofs.YthnkggacopepgaaGreat
