import Derived.Test.YthnkggacopepgaaGreatSbRkL2
import Derived.Test.YthnkggacopepgaaGreatSbRkH
namespace Go.Proofs.YthnkggacopepgaaGreat
set_option linter.unusedVariables false
set_option linter.unusedSimpArgs false
open Go.RowKit
def lawSquareBetween_con:Con:={ ι:=(List V2)×PtD×PtD,pre:=fun i=>Dat.has (.sl 61 [.int,.int]) (.sl (vecsD i.1))∧hasRow [.bool,.sl 3 [.int],.sl 3 [.int],.bool,.sl 3 [.int],.sl 3 [.int]] (ptD i.2.1)∧hasRow [.bool,.sl 3 [.int],.sl 3 [.int],.bool,.sl 3 [.int],.sl 3 [.int]] (ptD i.2.2),args:=fun i=>[.one (.sl 54 [.int,.int] (vecsD i.1)),.agg [.im (.bool i.2.1.x.neg),.sl 3 [.int] i.2.1.x.num,.sl 3 [.int] i.2.1.x.den,.im (.bool i.2.1.y.neg),.sl 3 [.int] i.2.1.y.num,.sl 3 [.int] i.2.1.y.den],.agg [.im (.bool i.2.2.x.neg),.sl 3 [.int] i.2.2.x.num,.sl 3 [.int] i.2.2.x.den,.im (.bool i.2.2.y.neg),.sl 3 [.int] i.2.2.y.num,.sl 3 [.int] i.2.2.y.den]],res:=fun i=>⟨false,[none],[.im (Value.bool true)]⟩ }
set_option maxRecDepth 100000 in
set_option maxHeartbeats 4000000 in
theorem lawSquareBetween_ok:lawSquareBetween_con.Ok Tryz.prog 10:=by
 refine fn_ok (X:=⟨tt,[(14,szVecS_con),(15,szPoint_con),(17,toVecS_con),(18,toPoint_con),(47,sSqBet_con),(48,iSqBet_con),(28,eqRat_con),(20,eqVecS_con),(21,eqPoint_con),(29,markVecS_con),(30,markPoint_con),(31,markRat_con),(32,heldRat_con)],[],115⟩) mixed tt_ok (CTok.cons szVecS_ok (CTok.cons szPoint_ok (CTok.cons toVecS_ok (CTok.cons toPoint_ok (CTok.cons sSqBet_ok (CTok.cons iSqBet_ok (CTok.cons eqRat_ok (CTok.cons eqVecS_ok (CTok.cons eqPoint_ok (CTok.cons markVecS_ok (CTok.cons markPoint_ok (CTok.cons markRat_ok (CTok.cons heldRat_ok (CTok.nil _)))))))))))))) Tryz.func10 (by decide) rfl rfl rfl (fun _=>Nat.le_of_ble_eq_true rfl) (fun _=>Nat.le_of_ble_eq_true rfl) (fun _=>[]) ?_
 rintro ⟨l,p,q⟩ hpre
 have hpre:Dat.has (.sl 61 [.int,.int]) (.sl (vecsD l))∧hasRow [.bool,.sl 3 [.int],.sl 3 [.int],.bool,.sl 3 [.int],.sl 3 [.int]] (ptD p)∧hasRow [.bool,.sl 3 [.int],.sl 3 [.int],.bool,.sl 3 [.int],.sl 3 [.int]] (ptD q):=hpre
 refine by_nf (q:=∃ i1:(List (List Dat))×Int,[DA.one (DC.sl 54 [.int,.int] (vecsD l)),DA.one (cI (1048576:Int))]=szVecS_con.args i1∧szVecS_con.pre i1∧(((decide ((szR (i1.1.length+szRows i1.1) i1.2) < (0:Int)))=true→((Value.bool true=Value.bool true)))∧((decide ((szR (i1.1.length+szRows i1.1) i1.2) < (0:Int)))=false→(∃ i2:PtD×Int,[DA.agg [cB p.x.neg,cS p.x.num,cS p.x.den,cB p.y.neg,cS p.y.num,cS p.y.den],DA.one (cI (szR (i1.1.length+szRows i1.1) i1.2))]=szPoint_con.args i2∧szPoint_con.pre i2∧(((decide ((szR (szRow [.bool i2.1.x.neg,.sl i2.1.x.num,.sl i2.1.x.den,.bool i2.1.y.neg,.sl i2.1.y.num,.sl i2.1.y.den]) i2.2) < (0:Int)))=true→((Value.bool true=Value.bool true)))∧((decide ((szR (szRow [.bool i2.1.x.neg,.sl i2.1.x.num,.sl i2.1.x.den,.bool i2.1.y.neg,.sl i2.1.y.num,.sl i2.1.y.den]) i2.2) < (0:Int)))=false→(∃ i3:PtD×Int,[DA.agg [cB q.x.neg,cS q.x.num,cS q.x.den,cB q.y.neg,cS q.y.num,cS q.y.den],DA.one (cI (szR (szRow [.bool i2.1.x.neg,.sl i2.1.x.num,.sl i2.1.x.den,.bool i2.1.y.neg,.sl i2.1.y.num,.sl i2.1.y.den]) i2.2))]=szPoint_con.args i3∧szPoint_con.pre i3∧(((decide ((szR (szRow [.bool i3.1.x.neg,.sl i3.1.x.num,.sl i3.1.x.den,.bool i3.1.y.neg,.sl i3.1.y.num,.sl i3.1.y.den]) i3.2) < (0:Int)))=true→((Value.bool true=Value.bool true)))∧((decide ((szR (szRow [.bool i3.1.x.neg,.sl i3.1.x.num,.sl i3.1.x.den,.bool i3.1.y.neg,.sl i3.1.y.num,.sl i3.1.y.den]) i3.2) < (0:Int)))=false→(∃ i4:(List (List Dat)),[DA.one (DC.sl 54 [.int,.int] (vecsD l))]=toVecS_con.args i4∧toVecS_con.pre i4∧(∃ i5:PtD,[DA.agg [cB p.x.neg,cS p.x.num,cS p.x.den,cB p.y.neg,cS p.y.num,cS p.y.den]]=toPoint_con.args i5∧toPoint_con.pre i5∧(∃ i6:PtD,[DA.agg [cB q.x.neg,cS q.x.num,cS q.x.den,cB q.y.neg,cS q.y.num,cS q.y.den]]=toPoint_con.args i6∧toPoint_con.pre i6∧(∃ i7:(List V2)×PtD×PtD,[DA.one (DC.sl 61 [.int,.int] i4),DA.agg [cB i5.x.neg,cS i5.x.num,cS i5.x.den,cB i5.y.neg,cS i5.y.num,cS i5.y.den],DA.agg [cB i6.x.neg,cS i6.x.num,cS i6.x.den,cB i6.y.neg,cS i6.y.num,cS i6.y.den]]=sSqBet_con.args i7∧sSqBet_con.pre i7∧(∃ i8:(List (List Dat)),[DA.one (DC.sl 54 [.int,.int] (vecsD l))]=toVecS_con.args i8∧toVecS_con.pre i8∧(∃ i9:PtD,[DA.agg [cB p.x.neg,cS p.x.num,cS p.x.den,cB p.y.neg,cS p.y.num,cS p.y.den]]=toPoint_con.args i9∧toPoint_con.pre i9∧(∃ i10:PtD,[DA.agg [cB q.x.neg,cS q.x.num,cS q.x.den,cB q.y.neg,cS q.y.num,cS q.y.den]]=toPoint_con.args i10∧toPoint_con.pre i10∧(∃ i11:(List V2)×PtD×PtD,[DA.one (DC.sl 61 [.int,.int] i8),DA.agg [cB i9.x.neg,cS i9.x.num,cS i9.x.den,cB i9.y.neg,cS i9.y.num,cS i9.y.den],DA.agg [cB i10.x.neg,cS i10.x.num,cS i10.x.den,cB i10.y.neg,cS i10.y.num,cS i10.y.den]]=iSqBet_con.args i11∧iSqBet_con.pre i11∧(∃ i12:RatD,[dF (sbR i11.1 i11.2.1 i11.2.2),dF (sbR i7.1 i7.2.1 i7.2.2)]=eqRat_con.args i12∧eqRat_con.pre i12∧(((!true)=true→((Value.bool false=Value.bool true)))∧((!true)=false→(∃ i13:(List (List Dat)),[DA.one (DC.sl 54 [.int,.int] (vecsD l))]=toVecS_con.args i13∧toVecS_con.pre i13∧(∃ i14:(List (List Dat)),[DA.one (DC.sl 61 [.int,.int] i8),DA.one (DC.sl 61 [.int,.int] i13)]=eqVecS_con.args i14∧eqVecS_con.pre i14∧(((!true)=true→((Value.bool false=Value.bool true)))∧((!true)=false→(∃ i15:PtD,[DA.agg [cB p.x.neg,cS p.x.num,cS p.x.den,cB p.y.neg,cS p.y.num,cS p.y.den]]=toPoint_con.args i15∧toPoint_con.pre i15∧(∃ i16:PtD,[DA.agg [cB i9.x.neg,cS i9.x.num,cS i9.x.den,cB i9.y.neg,cS i9.y.num,cS i9.y.den],DA.agg [cB i15.x.neg,cS i15.x.num,cS i15.x.den,cB i15.y.neg,cS i15.y.num,cS i15.y.den]]=eqPoint_con.args i16∧eqPoint_con.pre i16∧(((!true)=true→((Value.bool false=Value.bool true)))∧((!true)=false→(∃ i17:PtD,[DA.agg [cB q.x.neg,cS q.x.num,cS q.x.den,cB q.y.neg,cS q.y.num,cS q.y.den]]=toPoint_con.args i17∧toPoint_con.pre i17∧(∃ i18:PtD,[DA.agg [cB i10.x.neg,cS i10.x.num,cS i10.x.den,cB i10.y.neg,cS i10.y.num,cS i10.y.den],DA.agg [cB i17.x.neg,cS i17.x.num,cS i17.x.den,cB i17.y.neg,cS i17.y.num,cS i17.y.den]]=eqPoint_con.args i18∧eqPoint_con.pre i18∧(((!true)=true→((Value.bool false=Value.bool true)))∧((!true)=false→(∃ i19:(List (List Dat))×Int,[DA.one (DC.sl 61 [.int,.int] i8),DA.one (cI (1:Int))]=markVecS_con.args i19∧markVecS_con.pre i19∧(∃ i20:PtD×Int,[DA.agg [cB i9.x.neg,cS i9.x.num,cS i9.x.den,cB i9.y.neg,cS i9.y.num,cS i9.y.den],DA.one (cI (i19.2+(cntRows i19.1:Int)))]=markPoint_con.args i20∧markPoint_con.pre i20∧(∃ i21:PtD×Int,[DA.agg [cB i10.x.neg,cS i10.x.num,cS i10.x.den,cB i10.y.neg,cS i10.y.num,cS i10.y.den],DA.one (cI (i20.2+(cntV [.bool i20.1.x.neg,.sl i20.1.x.num,.sl i20.1.x.den,.bool i20.1.y.neg,.sl i20.1.y.num,.sl i20.1.y.den]:Int)))]=markPoint_con.args i21∧markPoint_con.pre i21∧(((!(decide ((i21.2+(cntV [.bool i21.1.x.neg,.sl i21.1.x.num,.sl i21.1.x.den,.bool i21.1.y.neg,.sl i21.1.y.num,.sl i21.1.y.den]:Int)) < (0:Int))))=true→(∃ i22:RatD,[dF (sbR i11.1 i11.2.1 i11.2.2),dF (sbR i7.1 i7.2.1 i7.2.2)]=eqRat_con.args i22∧eqRat_con.pre i22∧(((!true)=true→((Value.bool false=Value.bool true)))∧((!true)=false→(∃ i23:RatD×Int,[dF (sbR i11.1 i11.2.1 i11.2.2),DA.one (cI (1:Int))]=markRat_con.args i23∧markRat_con.pre i23∧(∃ i24:RatD×Int,[DA.agg [cB (decide ((sbR i11.1 i11.2.1 i11.2.2).z < 0)),cS (mkRows (i23.2+((0:Nat):Int)) i23.1.num),cS (mkRows (i23.2+((0:Nat):Int)+(cntRows i23.1.num:Int)) i23.1.den)],DA.one (cI (1:Int))]=heldRat_con.args i24∧heldRat_con.pre i24∧(((decide ((i24.2+(cntV [.bool i24.1.neg,.sl i24.1.num,.sl i24.1.den]:Int)) < (0:Int)))=true→((Value.bool false=Value.bool true)))∧((decide ((i24.2+(cntV [.bool i24.1.neg,.sl i24.1.num,.sl i24.1.den]:Int)) < (0:Int)))=false→((((i24.2+(cntV [.bool i24.1.neg,.sl i24.1.num,.sl i24.1.den]:Int)) != (i23.2+(cntV [.bool i23.1.neg,.sl i23.1.num,.sl i23.1.den]:Int)))=true→((Value.bool false=Value.bool true)))∧(((i24.2+(cntV [.bool i24.1.neg,.sl i24.1.num,.sl i24.1.den]:Int)) != (i23.2+(cntV [.bool i23.1.neg,.sl i23.1.num,.sl i23.1.den]:Int)))=false→(∃ i25:(List (List Dat)),[DA.one (DC.sl 54 [.int,.int] (vecsD l))]=toVecS_con.args i25∧toVecS_con.pre i25∧(∃ i26:PtD,[DA.agg [cB p.x.neg,cS p.x.num,cS p.x.den,cB p.y.neg,cS p.y.num,cS p.y.den]]=toPoint_con.args i26∧toPoint_con.pre i26∧(∃ i27:PtD,[DA.agg [cB q.x.neg,cS q.x.num,cS q.x.den,cB q.y.neg,cS q.y.num,cS q.y.den]]=toPoint_con.args i27∧toPoint_con.pre i27∧(∃ i28:(List V2)×PtD×PtD,[DA.one (DC.sl 61 [.int,.int] i25),DA.agg [cB i26.x.neg,cS i26.x.num,cS i26.x.den,cB i26.y.neg,cS i26.y.num,cS i26.y.den],DA.agg [cB i27.x.neg,cS i27.x.num,cS i27.x.den,cB i27.y.neg,cS i27.y.num,cS i27.y.den]]=iSqBet_con.args i28∧iSqBet_con.pre i28∧(∃ i29:RatD,[dF (sbR i28.1 i28.2.1 i28.2.2),dF (sbR i7.1 i7.2.1 i7.2.2)]=eqRat_con.args i29∧eqRat_con.pre i29∧(((!true)=true→((Value.bool false=Value.bool true)))∧((!true)=false→(∃ i30:RatD×Int,[DA.agg [cB (decide ((sbR i11.1 i11.2.1 i11.2.2).z < 0)),cS (mkRows (i23.2+((0:Nat):Int)) i23.1.num),cS (mkRows (i23.2+((0:Nat):Int)+(cntRows i23.1.num:Int)) i23.1.den)],DA.one (cI (1:Int))]=heldRat_con.args i30∧heldRat_con.pre i30∧(((decide ((i30.2+(cntV [.bool i30.1.neg,.sl i30.1.num,.sl i30.1.den]:Int)) < (0:Int)))=true→((Value.bool false=Value.bool true)))∧((decide ((i30.2+(cntV [.bool i30.1.neg,.sl i30.1.num,.sl i30.1.den]:Int)) < (0:Int)))=false→((((i30.2+(cntV [.bool i30.1.neg,.sl i30.1.num,.sl i30.1.den]:Int)) != (i23.2+(cntV [.bool i23.1.neg,.sl i23.1.num,.sl i23.1.den]:Int)))=true→((Value.bool false=Value.bool true)))∧(((i30.2+(cntV [.bool i30.1.neg,.sl i30.1.num,.sl i30.1.den]:Int)) != (i23.2+(cntV [.bool i23.1.neg,.sl i23.1.num,.sl i23.1.den]:Int)))=false→((Value.bool true=Value.bool true))))))))))))))))))))))))∧((!(decide ((i21.2+(cntV [.bool i21.1.x.neg,.sl i21.1.x.num,.sl i21.1.x.den,.bool i21.1.y.neg,.sl i21.1.y.num,.sl i21.1.y.den]:Int)) < (0:Int))))=false→((Value.bool false=Value.bool true))))))))))))))))))))))))))))))))))))))) (by kernel_rfl) ?_
 have hz0:=vecs_rows0 hpre.1
 have hp_p:hasRow [.bool,.sl 3 [.int],.sl 3 [.int],.bool,.sl 3 [.int],.sl 3 [.int]] [.bool p.x.neg,.sl p.x.num,.sl p.x.den,.bool p.y.neg,.sl p.y.num,.sl p.y.den]:=hpre.2.1
 have hh_p:=pt_has hpre.2.1
 have hp_q:hasRow [.bool,.sl 3 [.int],.sl 3 [.int],.bool,.sl 3 [.int],.sl 3 [.int]] [.bool q.x.neg,.sl q.x.num,.sl q.x.den,.bool q.y.neg,.sl q.y.num,.sl q.y.den]:=hpre.2.2
 have hh_q:=pt_has hpre.2.2
 refine ⟨((vecsD l),(1048576:Int)),by
  rfl,by
  show Dat.has (.sl 61 [.int,.int]) (.sl (vecsD l))∧0≤(1048576:Int)∧(1048576:Int)≤1048576
  exact ⟨hpre.1,by omega,by omega⟩,?_⟩
 refine ⟨fun c4=>?_,fun c4=>?_⟩
 ·skip
  replace c4:(decide ((szR ((vecsD l).length+szRows (vecsD l)) (1048576:Int)) < (0:Int)))=true:=c4
  try simp only [nrm] at c4
  exact rfl
 ·skip
  replace c4:(decide ((szR ((vecsD l).length+szRows (vecsD l)) (1048576:Int)) < (0:Int)))=false:=c4
  try simp only [nrm] at c4
  have z1:=szR_ge c4
  have hs:(vecsD l).length+szRows (vecsD l)≤1048576:=by have:=z1.2;omega
  refine ⟨(p,(szR ((vecsD l).length+szRows (vecsD l)) (1048576:Int))),by
   rfl,by
   show hasRow [.bool,.sl 3 [.int],.sl 3 [.int],.bool,.sl 3 [.int],.sl 3 [.int]] [.bool p.x.neg,.sl p.x.num,.sl p.x.den,.bool p.y.neg,.sl p.y.num,.sl p.y.den]∧0≤(szR ((vecsD l).length+szRows (vecsD l)) (1048576:Int))∧(szR ((vecsD l).length+szRows (vecsD l)) (1048576:Int))≤1048576
   exact ⟨hp_p,c4,by have:=z1.1;omega⟩,?_⟩
  refine ⟨fun c9=>?_,fun c9=>?_⟩
  ·skip
   replace c9:(decide ((szR (szRow [.bool p.x.neg,.sl p.x.num,.sl p.x.den,.bool p.y.neg,.sl p.y.num,.sl p.y.den]) (szR ((vecsD l).length+szRows (vecsD l)) (1048576:Int))) < (0:Int)))=true:=c9
   try simp only [nrm] at c9
   exact rfl
  ·skip
   replace c9:(decide ((szR (szRow [.bool p.x.neg,.sl p.x.num,.sl p.x.den,.bool p.y.neg,.sl p.y.num,.sl p.y.den]) (szR ((vecsD l).length+szRows (vecsD l)) (1048576:Int))) < (0:Int)))=false:=c9
   try simp only [nrm] at c9
   have z2:=szR_ge c9
   have gs_p:szRow [.bool p.x.neg,.sl p.x.num,.sl p.x.den,.bool p.y.neg,.sl p.y.num,.sl p.y.den]≤1048576:=by have:=z1.1;have:=z1.1;have:=z2.2;omega
   refine ⟨(q,(szR (szRow [.bool p.x.neg,.sl p.x.num,.sl p.x.den,.bool p.y.neg,.sl p.y.num,.sl p.y.den]) (szR ((vecsD l).length+szRows (vecsD l)) (1048576:Int)))),by
    rfl,by
    show hasRow [.bool,.sl 3 [.int],.sl 3 [.int],.bool,.sl 3 [.int],.sl 3 [.int]] [.bool q.x.neg,.sl q.x.num,.sl q.x.den,.bool q.y.neg,.sl q.y.num,.sl q.y.den]∧0≤(szR (szRow [.bool p.x.neg,.sl p.x.num,.sl p.x.den,.bool p.y.neg,.sl p.y.num,.sl p.y.den]) (szR ((vecsD l).length+szRows (vecsD l)) (1048576:Int)))∧(szR (szRow [.bool p.x.neg,.sl p.x.num,.sl p.x.den,.bool p.y.neg,.sl p.y.num,.sl p.y.den]) (szR ((vecsD l).length+szRows (vecsD l)) (1048576:Int)))≤1048576
    exact ⟨hp_q,c9,by have:=z1.1;have:=z2.1;omega⟩,?_⟩
   refine ⟨fun c14=>?_,fun c14=>?_⟩
   ·skip
    replace c14:(decide ((szR (szRow [.bool q.x.neg,.sl q.x.num,.sl q.x.den,.bool q.y.neg,.sl q.y.num,.sl q.y.den]) (szR (szRow [.bool p.x.neg,.sl p.x.num,.sl p.x.den,.bool p.y.neg,.sl p.y.num,.sl p.y.den]) (szR ((vecsD l).length+szRows (vecsD l)) (1048576:Int)))) < (0:Int)))=true:=c14
    try simp only [nrm] at c14
    exact rfl
   ·skip
    replace c14:(decide ((szR (szRow [.bool q.x.neg,.sl q.x.num,.sl q.x.den,.bool q.y.neg,.sl q.y.num,.sl q.y.den]) (szR (szRow [.bool p.x.neg,.sl p.x.num,.sl p.x.den,.bool p.y.neg,.sl p.y.num,.sl p.y.den]) (szR ((vecsD l).length+szRows (vecsD l)) (1048576:Int)))) < (0:Int)))=false:=c14
    try simp only [nrm] at c14
    have z3:=szR_ge c14
    have gs_q:szRow [.bool q.x.neg,.sl q.x.num,.sl q.x.den,.bool q.y.neg,.sl q.y.num,.sl q.y.den]≤1048576:=by have:=z1.1;have:=z2.1;have:=z3.2;omega
    have hcl:=cntRows_small hpre.1 hs (by simp [KRow,Ty.K])
    have hrh:=frD_has (sbR l p q)
    have hc_p:(cntV [.bool p.x.neg,.sl p.x.num,.sl p.x.den,.bool p.y.neg,.sl p.y.num,.sl p.y.den]:Int)≤2000000000:=cntV_small hp_p gs_p (by simp [KRow,Ty.K])
    have hc_q:(cntV [.bool q.x.neg,.sl q.x.num,.sl q.x.den,.bool q.y.neg,.sl q.y.num,.sl q.y.den]:Int)≤2000000000:=cntV_small hp_q gs_q (by simp [KRow,Ty.K])
    have hcr:(cntV [.bool (frD (sbR l p q)).neg,.sl (frD (sbR l p q)).num,.sl (frD (sbR l p q)).den]:Int)≤2000000000:=fr_cnt (sbR l p q)
    refine ⟨(vecsD l),by
     rfl,by
     show (vecsD l).length+szRows (vecsD l)≤1048576
     trivial,?_⟩
    refine ⟨p,by
     rfl,by
     show szRow [.bool p.x.neg,.sl p.x.num,.sl p.x.den,.bool p.y.neg,.sl p.y.num,.sl p.y.den]≤1048576
     trivial,?_⟩
    refine ⟨q,by
     rfl,by
     show szRow [.bool q.x.neg,.sl q.x.num,.sl q.x.den,.bool q.y.neg,.sl q.y.num,.sl q.y.den]≤1048576
     trivial,?_⟩
    refine ⟨(l,p,q),by
     rfl,by
     show p.has∧q.has
     trivial,?_⟩
    refine ⟨(vecsD l),by
     rfl,by
     show (vecsD l).length+szRows (vecsD l)≤1048576
     trivial,?_⟩
    refine ⟨p,by
     rfl,by
     show szRow [.bool p.x.neg,.sl p.x.num,.sl p.x.den,.bool p.y.neg,.sl p.y.num,.sl p.y.den]≤1048576
     trivial,?_⟩
    refine ⟨q,by
     rfl,by
     show szRow [.bool q.x.neg,.sl q.x.num,.sl q.x.den,.bool q.y.neg,.sl q.y.num,.sl q.y.den]≤1048576
     trivial,?_⟩
    refine ⟨(l,p,q),by
     rfl,by
     show p.has∧q.has
     trivial,?_⟩
    refine ⟨(frD (sbR l p q)),by
     rfl,by
     trivial,?_⟩
    refine ⟨fun c43=>?_,fun c43=>?_⟩
    ·skip
     try simp only [nrm] at c43
     contradiction
    ·skip
     try simp only [nrm] at c43
     refine ⟨(vecsD l),by
      rfl,by
      show (vecsD l).length+szRows (vecsD l)≤1048576
      trivial,?_⟩
     refine ⟨(vecsD l),by
      rfl,by
      trivial,?_⟩
     refine ⟨fun c51=>?_,fun c51=>?_⟩
     ·skip
      try simp only [nrm] at c51
      contradiction
     ·skip
      try simp only [nrm] at c51
      refine ⟨p,by
       rfl,by
       show szRow [.bool p.x.neg,.sl p.x.num,.sl p.x.den,.bool p.y.neg,.sl p.y.num,.sl p.y.den]≤1048576
       trivial,?_⟩
      refine ⟨p,by
       rfl,by
       trivial,?_⟩
      refine ⟨fun c59=>?_,fun c59=>?_⟩
      ·skip
       try simp only [nrm] at c59
       contradiction
      ·skip
       try simp only [nrm] at c59
       refine ⟨q,by
        rfl,by
        show szRow [.bool q.x.neg,.sl q.x.num,.sl q.x.den,.bool q.y.neg,.sl q.y.num,.sl q.y.den]≤1048576
        trivial,?_⟩
       refine ⟨q,by
        rfl,by
        trivial,?_⟩
       refine ⟨fun c67=>?_,fun c67=>?_⟩
       ·skip
        try simp only [nrm] at c67
        contradiction
       ·skip
        try simp only [nrm] at c67
        refine ⟨((vecsD l),(1:Int)),by
         rfl,by
         show 0≤(1:Int)∧(1:Int)+(cntRows (vecsD l):Int)≤4611686018427387904
         refine ⟨?_,?_⟩ <;> omega,?_⟩
        refine ⟨(p,((1:Int)+(cntRows (vecsD l):Int))),by
         rfl,by
         show 0≤((1:Int)+(cntRows (vecsD l):Int))∧((1:Int)+(cntRows (vecsD l):Int))+(cntV [.bool p.x.neg,.sl p.x.num,.sl p.x.den,.bool p.y.neg,.sl p.y.num,.sl p.y.den]:Int)≤4611686018427387904
         refine ⟨?_,?_⟩ <;> omega,?_⟩
        refine ⟨(q,(((1:Int)+(cntRows (vecsD l):Int))+(cntV [.bool p.x.neg,.sl p.x.num,.sl p.x.den,.bool p.y.neg,.sl p.y.num,.sl p.y.den]:Int))),by
         rfl,by
         show 0≤(((1:Int)+(cntRows (vecsD l):Int))+(cntV [.bool p.x.neg,.sl p.x.num,.sl p.x.den,.bool p.y.neg,.sl p.y.num,.sl p.y.den]:Int))∧(((1:Int)+(cntRows (vecsD l):Int))+(cntV [.bool p.x.neg,.sl p.x.num,.sl p.x.den,.bool p.y.neg,.sl p.y.num,.sl p.y.den]:Int))+(cntV [.bool q.x.neg,.sl q.x.num,.sl q.x.den,.bool q.y.neg,.sl q.y.num,.sl q.y.den]:Int)≤4611686018427387904
         refine ⟨?_,?_⟩ <;> omega,?_⟩
        refine ⟨fun c78=>?_,fun c78=>?_⟩
        ·skip
         replace c78:(!(decide (((((1:Int)+(cntRows (vecsD l):Int))+(cntV [.bool p.x.neg,.sl p.x.num,.sl p.x.den,.bool p.y.neg,.sl p.y.num,.sl p.y.den]:Int))+(cntV [.bool q.x.neg,.sl q.x.num,.sl q.x.den,.bool q.y.neg,.sl q.y.num,.sl q.y.den]:Int)) < (0:Int))))=true:=c78
         try simp only [nrm] at c78
         refine ⟨(frD (sbR l p q)),by
          rfl,by
          trivial,?_⟩
         refine ⟨fun c82=>?_,fun c82=>?_⟩
         ·skip
          try simp only [nrm] at c82
          contradiction
         ·skip
          try simp only [nrm] at c82
          refine ⟨((frD (sbR l p q)),(1:Int)),by
           rfl,by
           show 0≤(1:Int)∧(1:Int)+(cntV [.bool (frD (sbR l p q)).neg,.sl (frD (sbR l p q)).num,.sl (frD (sbR l p q)).den]:Int)≤4611686018427387904
           refine ⟨?_,?_⟩ <;> omega,?_⟩
          refine ⟨((frD (sbR l p q)),(1:Int)),by
           rfl,by
           show 0≤(1:Int)∧(1:Int)+(cntV [.bool (frD (sbR l p q)).neg,.sl (frD (sbR l p q)).num,.sl (frD (sbR l p q)).den]:Int)≤4611686018427387904∧hasRow [.bool,.sl 3 [.int],.sl 3 [.int]] [.bool (frD (sbR l p q)).neg,.sl (frD (sbR l p q)).num,.sl (frD (sbR l p q)).den]
           refine ⟨?_,?_,hrh⟩ <;> omega,?_⟩
          refine ⟨fun c90=>?_,fun c90=>?_⟩
          ·skip
           replace c90:(decide (((1:Int)+(cntV [.bool (frD (sbR l p q)).neg,.sl (frD (sbR l p q)).num,.sl (frD (sbR l p q)).den]:Int)) < (0:Int)))=true:=c90
           try simp only [nrm] at c90
           contradiction
          ·skip
           replace c90:(decide (((1:Int)+(cntV [.bool (frD (sbR l p q)).neg,.sl (frD (sbR l p q)).num,.sl (frD (sbR l p q)).den]:Int)) < (0:Int)))=false:=c90
           try simp only [nrm] at c90
           refine ⟨fun c92=>?_,fun c92=>?_⟩
           ·skip
            replace c92:(((1:Int)+(cntV [.bool (frD (sbR l p q)).neg,.sl (frD (sbR l p q)).num,.sl (frD (sbR l p q)).den]:Int)) != ((1:Int)+(cntV [.bool (frD (sbR l p q)).neg,.sl (frD (sbR l p q)).num,.sl (frD (sbR l p q)).den]:Int)))=true:=c92
            try simp only [nrm] at c92
            contradiction
           ·skip
            replace c92:(((1:Int)+(cntV [.bool (frD (sbR l p q)).neg,.sl (frD (sbR l p q)).num,.sl (frD (sbR l p q)).den]:Int)) != ((1:Int)+(cntV [.bool (frD (sbR l p q)).neg,.sl (frD (sbR l p q)).num,.sl (frD (sbR l p q)).den]:Int)))=false:=c92
            try simp only [nrm] at c92
            refine ⟨(vecsD l),by
             rfl,by
             show (vecsD l).length+szRows (vecsD l)≤1048576
             trivial,?_⟩
            refine ⟨p,by
             rfl,by
             show szRow [.bool p.x.neg,.sl p.x.num,.sl p.x.den,.bool p.y.neg,.sl p.y.num,.sl p.y.den]≤1048576
             trivial,?_⟩
            refine ⟨q,by
             rfl,by
             show szRow [.bool q.x.neg,.sl q.x.num,.sl q.x.den,.bool q.y.neg,.sl q.y.num,.sl q.y.den]≤1048576
             trivial,?_⟩
            refine ⟨(l,p,q),by
             rfl,by
             show p.has∧q.has
             trivial,?_⟩
            refine ⟨(frD (sbR l p q)),by
             rfl,by
             trivial,?_⟩
            refine ⟨fun c109=>?_,fun c109=>?_⟩
            ·skip
             try simp only [nrm] at c109
             contradiction
            ·skip
             try simp only [nrm] at c109
             refine ⟨((frD (sbR l p q)),(1:Int)),by
              rfl,by
              show 0≤(1:Int)∧(1:Int)+(cntV [.bool (frD (sbR l p q)).neg,.sl (frD (sbR l p q)).num,.sl (frD (sbR l p q)).den]:Int)≤4611686018427387904∧hasRow [.bool,.sl 3 [.int],.sl 3 [.int]] [.bool (frD (sbR l p q)).neg,.sl (frD (sbR l p q)).num,.sl (frD (sbR l p q)).den]
              refine ⟨?_,?_,hrh⟩ <;> omega,?_⟩
             refine ⟨fun c114=>?_,fun c114=>?_⟩
             ·skip
              replace c114:(decide (((1:Int)+(cntV [.bool (frD (sbR l p q)).neg,.sl (frD (sbR l p q)).num,.sl (frD (sbR l p q)).den]:Int)) < (0:Int)))=true:=c114
              try simp only [nrm] at c114
              contradiction
             ·skip
              replace c114:(decide (((1:Int)+(cntV [.bool (frD (sbR l p q)).neg,.sl (frD (sbR l p q)).num,.sl (frD (sbR l p q)).den]:Int)) < (0:Int)))=false:=c114
              try simp only [nrm] at c114
              refine ⟨fun c116=>?_,fun c116=>?_⟩
              ·skip
               replace c116:(((1:Int)+(cntV [.bool (frD (sbR l p q)).neg,.sl (frD (sbR l p q)).num,.sl (frD (sbR l p q)).den]:Int)) != ((1:Int)+(cntV [.bool (frD (sbR l p q)).neg,.sl (frD (sbR l p q)).num,.sl (frD (sbR l p q)).den]:Int)))=true:=c116
               try simp only [nrm] at c116
               contradiction
              ·skip
               replace c116:(((1:Int)+(cntV [.bool (frD (sbR l p q)).neg,.sl (frD (sbR l p q)).num,.sl (frD (sbR l p q)).den]:Int)) != ((1:Int)+(cntV [.bool (frD (sbR l p q)).neg,.sl (frD (sbR l p q)).num,.sl (frD (sbR l p q)).den]:Int)))=false:=c116
               try simp only [nrm] at c116
               exact rfl
        ·skip
         replace c78:(!(decide (((((1:Int)+(cntRows (vecsD l):Int))+(cntV [.bool p.x.neg,.sl p.x.num,.sl p.x.den,.bool p.y.neg,.sl p.y.num,.sl p.y.den]:Int))+(cntV [.bool q.x.neg,.sl q.x.num,.sl q.x.den,.bool q.y.neg,.sl q.y.num,.sl q.y.den]:Int)) < (0:Int))))=false:=c78
         try simp only [nrm] at c78
         contradiction
end Go.Proofs.YthnkggacopepgaaGreat
