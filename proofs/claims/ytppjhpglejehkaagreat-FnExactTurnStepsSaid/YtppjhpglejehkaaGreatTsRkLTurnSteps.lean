import Derived.Test.YtppjhpglejehkaaGreatTsRkTa
import Derived.Test.YtppjhpglejehkaaGreatTsRkLs
namespace Go.Proofs.YtppjhpglejehkaaGreat
set_option linter.unusedVariables false
set_option linter.unusedSimpArgs false
open Go.RowKit
theorem tsT_row (g h:Int):∀ k j,j < (tsT g h k).length→∃ n:Int,(tsT g h k).getD j []=[.int n]
 | 0,j,hj=>by simp [tsT] at hj
 | k+1,j,hj=>by
  have hl:=tsT_len g h k
  have hl1:=tsT_len g h (k+1)
  by_cases hc:j < (tsT g h k).length
  ·obtain ⟨n,hn⟩:=tsT_row g h k j hc
   refine ⟨n,?_⟩
   rw [← hn]
   simp [tsT,List.getD,List.getElem?_append_left hc]
  ·have:j=(tsT g h k).length:=by omega
   subst this
   exact ⟨hdT g h (k+1),by simp [tsT,List.getD]⟩
theorem tsR_has (s:Scn) (k g h:Int):Dat.has (.sl 3 [.int]) (.sl (tsR s k g h))∧(cntRows (tsR s k g h):Int)≤2000000000:=by
 have hl:=tsT_len g h (tbR g h).length
 have hb:=tbR_len g h
 have h1:(tsR s k g h).length≤2∧∀ j,j < (tsR s k g h).length→∃ n:Int,(tsR s k g h).getD j []=[.int n]:=by
  unfold tsR
  split
  ·exact ⟨by omega,fun j hj=>tsT_row g h _ j hj⟩
  ·exact ⟨by simp,fun j hj=>by simp at hj⟩
 have h2:Dat.has (.sl 3 [.int]) (.sl (tsR s k g h)):=by
  refine ⟨by have:=h1.1;omega,fun j hj=>?_⟩
  obtain ⟨n,hn⟩:=h1.2 j hj
  rw [hn]
  simp [hasRow,Dat.has]
 have e:szRows (tsR s k g h)=0:=has_leaf (by decide) h2
 exact ⟨h2,cntRows_small h2 (by have:=h1.1;omega) (by simp [KRow,Ty.K])⟩
def lawTurnSteps_con:Con:={ ι:=Scn×Int×Int×Int,pre:=fun i=>hasRow [.int,.int,.int,.int,.sl 31 [.int,.int],.sl 32 [.sl 31 [.int,.int]],.sl 31 [.int,.int]] (scnD i.1),args:=fun i=>[.agg [.im (.int .i64 i.1.low.1),.im (.int .i64 i.1.low.2),.im (.int .i64 i.1.high.1),.im (.int .i64 i.1.high.2),.sl 23 [.int,.int] (vecsD i.1.robot),.sl 24 [.sl 23 [.int,.int]] (areasD i.1.obst),.sl 23 [.int,.int] (vecsD i.1.tables)],.one (.im (.int .i64 i.2.1)),.one (.im (.int .i64 i.2.2.1)),.one (.im (.int .i64 i.2.2.2))],res:=fun i=>⟨false,[none],[.im (Value.bool true)]⟩ }
set_option maxRecDepth 100000 in
set_option maxHeartbeats 4000000 in
theorem lawTurnSteps_ok:lawTurnSteps_con.Ok Tryz.prog 3:=by
 refine fn_ok (X:=⟨tt,[(6,szScene_con),(8,toScene_con),(7,sTurnSteps_con),(9,iTurnSteps_con),(10,eqIntS_con),(11,eqScene_con),(12,markScene_con),(13,markIntS_con),(14,heldIntS_con)],[],84⟩) mixed tt_ok (CTok.cons szScene_ok (CTok.cons toScene_ok (CTok.cons sTurnSteps_ok (CTok.cons iTurnSteps_ok (CTok.cons eqIntS_ok (CTok.cons eqScene_ok (CTok.cons markScene_ok (CTok.cons markIntS_ok (CTok.cons heldIntS_ok (CTok.nil _)))))))))) Tryz.func3 (by decide) rfl rfl rfl (fun _=>Nat.le_of_ble_eq_true rfl) (fun _=>Nat.le_of_ble_eq_true rfl) (fun _=>[]) ?_
 rintro ⟨s,k,g,h⟩ hpre
 have hpre:hasRow [.int,.int,.int,.int,.sl 31 [.int,.int],.sl 32 [.sl 31 [.int,.int]],.sl 31 [.int,.int]] (scnD s):=hpre
 refine by_nf (q:=∃ i1:Scn×Int,[DA.agg [cI s.low.1,cI s.low.2,cI s.high.1,cI s.high.2,DC.sl 23 [.int,.int] (vecsD s.robot),DC.sl 24 [.sl 23 [.int,.int]] (areasD s.obst),DC.sl 23 [.int,.int] (vecsD s.tables)],DA.one (cI (1048576:Int))]=szScene_con.args i1∧szScene_con.pre i1∧(((decide ((szR (szRow [.int i1.1.low.1,.int i1.1.low.2,.int i1.1.high.1,.int i1.1.high.2,.sl (vecsD i1.1.robot),.sl (areasD i1.1.obst),.sl (vecsD i1.1.tables)]) i1.2) < (0:Int)))=true→((Value.bool true=Value.bool true)))∧((decide ((szR (szRow [.int i1.1.low.1,.int i1.1.low.2,.int i1.1.high.1,.int i1.1.high.2,.sl (vecsD i1.1.robot),.sl (areasD i1.1.obst),.sl (vecsD i1.1.tables)]) i1.2) < (0:Int)))=false→(∃ i2:Scn,[DA.agg [cI s.low.1,cI s.low.2,cI s.high.1,cI s.high.2,DC.sl 23 [.int,.int] (vecsD s.robot),DC.sl 24 [.sl 23 [.int,.int]] (areasD s.obst),DC.sl 23 [.int,.int] (vecsD s.tables)]]=toScene_con.args i2∧toScene_con.pre i2∧(∃ i3:Scn×Int×Int×Int,[DA.agg [cI i2.low.1,cI i2.low.2,cI i2.high.1,cI i2.high.2,DC.sl 31 [.int,.int] (vecsD i2.robot),DC.sl 32 [.sl 31 [.int,.int]] (areasD i2.obst),DC.sl 31 [.int,.int] (vecsD i2.tables)],DA.one (cI k),DA.one (cI g),DA.one (cI h)]=sTurnSteps_con.args i3∧sTurnSteps_con.pre i3∧(∃ i4:Scn,[DA.agg [cI s.low.1,cI s.low.2,cI s.high.1,cI s.high.2,DC.sl 23 [.int,.int] (vecsD s.robot),DC.sl 24 [.sl 23 [.int,.int]] (areasD s.obst),DC.sl 23 [.int,.int] (vecsD s.tables)]]=toScene_con.args i4∧toScene_con.pre i4∧(∃ i5:Scn×Int×Int×Int,[DA.agg [cI i4.low.1,cI i4.low.2,cI i4.high.1,cI i4.high.2,DC.sl 31 [.int,.int] (vecsD i4.robot),DC.sl 32 [.sl 31 [.int,.int]] (areasD i4.obst),DC.sl 31 [.int,.int] (vecsD i4.tables)],DA.one (cI k),DA.one (cI g),DA.one (cI h)]=iTurnSteps_con.args i5∧iTurnSteps_con.pre i5∧(∃ i6:(List (List Dat)),[DA.one (cS (tsR i5.1 i5.2.1 i5.2.2.1 i5.2.2.2)),DA.one (cS (tsR i3.1 i3.2.1 i3.2.2.1 i3.2.2.2))]=eqIntS_con.args i6∧eqIntS_con.pre i6∧(((!true)=true→((Value.bool false=Value.bool true)))∧((!true)=false→(∃ i7:Scn,[DA.agg [cI s.low.1,cI s.low.2,cI s.high.1,cI s.high.2,DC.sl 23 [.int,.int] (vecsD s.robot),DC.sl 24 [.sl 23 [.int,.int]] (areasD s.obst),DC.sl 23 [.int,.int] (vecsD s.tables)]]=toScene_con.args i7∧toScene_con.pre i7∧(∃ i8:Scn,[DA.agg [cI i4.low.1,cI i4.low.2,cI i4.high.1,cI i4.high.2,DC.sl 31 [.int,.int] (vecsD i4.robot),DC.sl 32 [.sl 31 [.int,.int]] (areasD i4.obst),DC.sl 31 [.int,.int] (vecsD i4.tables)],DA.agg [cI i7.low.1,cI i7.low.2,cI i7.high.1,cI i7.high.2,DC.sl 31 [.int,.int] (vecsD i7.robot),DC.sl 32 [.sl 31 [.int,.int]] (areasD i7.obst),DC.sl 31 [.int,.int] (vecsD i7.tables)]]=eqScene_con.args i8∧eqScene_con.pre i8∧(((!true)=true→((Value.bool false=Value.bool true)))∧((!true)=false→(∃ i9:Scn×Int,[DA.agg [cI i4.low.1,cI i4.low.2,cI i4.high.1,cI i4.high.2,DC.sl 31 [.int,.int] (vecsD i4.robot),DC.sl 32 [.sl 31 [.int,.int]] (areasD i4.obst),DC.sl 31 [.int,.int] (vecsD i4.tables)],DA.one (cI (1:Int))]=markScene_con.args i9∧markScene_con.pre i9∧(((!(decide ((i9.2+(cntV [.int i9.1.low.1,.int i9.1.low.2,.int i9.1.high.1,.int i9.1.high.2,.sl (vecsD i9.1.robot),.sl (areasD i9.1.obst),.sl (vecsD i9.1.tables)]:Int)) < (0:Int))))=true→(∃ i10:(List (List Dat)),[DA.one (cS (tsR i5.1 i5.2.1 i5.2.2.1 i5.2.2.2)),DA.one (cS (tsR i3.1 i3.2.1 i3.2.2.1 i3.2.2.2))]=eqIntS_con.args i10∧eqIntS_con.pre i10∧(((!true)=true→((Value.bool false=Value.bool true)))∧((!true)=false→(∃ i11:(List (List Dat))×Int,[DA.one (cS (tsR i5.1 i5.2.1 i5.2.2.1 i5.2.2.2)),DA.one (cI (1:Int))]=markIntS_con.args i11∧markIntS_con.pre i11∧(∃ i12:(List (List Dat))×Int,[DA.one (cS (mkRows i11.2 i11.1)),DA.one (cI (1:Int))]=heldIntS_con.args i12∧heldIntS_con.pre i12∧(((decide ((i12.2+(cntRows i12.1:Int)) < (0:Int)))=true→((Value.bool false=Value.bool true)))∧((decide ((i12.2+(cntRows i12.1:Int)) < (0:Int)))=false→((((i12.2+(cntRows i12.1:Int)) != (i11.2+(cntRows i11.1:Int)))=true→((Value.bool false=Value.bool true)))∧(((i12.2+(cntRows i12.1:Int)) != (i11.2+(cntRows i11.1:Int)))=false→(∃ i13:Scn,[DA.agg [cI s.low.1,cI s.low.2,cI s.high.1,cI s.high.2,DC.sl 23 [.int,.int] (vecsD s.robot),DC.sl 24 [.sl 23 [.int,.int]] (areasD s.obst),DC.sl 23 [.int,.int] (vecsD s.tables)]]=toScene_con.args i13∧toScene_con.pre i13∧(∃ i14:Scn×Int×Int×Int,[DA.agg [cI i13.low.1,cI i13.low.2,cI i13.high.1,cI i13.high.2,DC.sl 31 [.int,.int] (vecsD i13.robot),DC.sl 32 [.sl 31 [.int,.int]] (areasD i13.obst),DC.sl 31 [.int,.int] (vecsD i13.tables)],DA.one (cI k),DA.one (cI g),DA.one (cI h)]=iTurnSteps_con.args i14∧iTurnSteps_con.pre i14∧(∃ i15:(List (List Dat)),[DA.one (cS (tsR i14.1 i14.2.1 i14.2.2.1 i14.2.2.2)),DA.one (cS (tsR i3.1 i3.2.1 i3.2.2.1 i3.2.2.2))]=eqIntS_con.args i15∧eqIntS_con.pre i15∧(((!true)=true→((Value.bool false=Value.bool true)))∧((!true)=false→(∃ i16:(List (List Dat))×Int,[DA.one (cS (mkRows i11.2 i11.1)),DA.one (cI (1:Int))]=heldIntS_con.args i16∧heldIntS_con.pre i16∧(((decide ((i16.2+(cntRows i16.1:Int)) < (0:Int)))=true→((Value.bool false=Value.bool true)))∧((decide ((i16.2+(cntRows i16.1:Int)) < (0:Int)))=false→((((i16.2+(cntRows i16.1:Int)) != (i11.2+(cntRows i11.1:Int)))=true→((Value.bool false=Value.bool true)))∧(((i16.2+(cntRows i16.1:Int)) != (i11.2+(cntRows i11.1:Int)))=false→((Value.bool true=Value.bool true))))))))))))))))))))))∧((!(decide ((i9.2+(cntV [.int i9.1.low.1,.int i9.1.low.2,.int i9.1.high.1,.int i9.1.high.2,.sl (vecsD i9.1.robot),.sl (areasD i9.1.obst),.sl (vecsD i9.1.tables)]:Int)) < (0:Int))))=false→((Value.bool false=Value.bool true))))))))))))))))))) (by kernel_rfl) ?_
 refine ⟨(s,(1048576:Int)),by
  rfl,by
  show hasRow [.int,.int,.int,.int,.sl 31 [.int,.int],.sl 32 [.sl 31 [.int,.int]],.sl 31 [.int,.int]] [.int s.low.1,.int s.low.2,.int s.high.1,.int s.high.2,.sl (vecsD s.robot),.sl (areasD s.obst),.sl (vecsD s.tables)]∧0≤(1048576:Int)∧(1048576:Int)≤1048576
  first|trivial|exact ⟨hpre,by omega,by omega⟩|exact ⟨hpre.1,by omega,by omega⟩|exact gs|exact hz|exact ⟨by omega,by omega,hoh⟩|(refine ⟨?_,?_⟩ <;> omega),?_⟩
 refine ⟨fun c4=>?_,fun c4=>?_⟩
 ·skip
  replace c4:(decide ((szR (szRow [.int s.low.1,.int s.low.2,.int s.high.1,.int s.high.2,.sl (vecsD s.robot),.sl (areasD s.obst),.sl (vecsD s.tables)]) (1048576:Int)) < (0:Int)))=true:=c4
  try simp only [nrm] at c4
  exact rfl
 ·skip
  replace c4:(decide ((szR (szRow [.int s.low.1,.int s.low.2,.int s.high.1,.int s.high.2,.sl (vecsD s.robot),.sl (areasD s.obst),.sl (vecsD s.tables)]) (1048576:Int)) < (0:Int)))=false:=c4
  try simp only [nrm] at c4
  have z1:=szR_ge c4
  have gs:szRow [.int s.low.1,.int s.low.2,.int s.high.1,.int s.high.2,.sl (vecsD s.robot),.sl (areasD s.obst),.sl (vecsD s.tables)]≤1048576:=Int.ofNat_le.1 z1.2
  have hz:scnSz s:=scnD_sz gs
  have hcs:(cntV [.int s.low.1,.int s.low.2,.int s.high.1,.int s.high.2,.sl (vecsD s.robot),.sl (areasD s.obst),.sl (vecsD s.tables)]:Int)≤2000000000:=cntV_small hpre gs (by simp [KRow,Ty.K])
  have hoh:=(tsR_has s k g h).1
  have hoc:=(tsR_has s k g h).2
  refine ⟨s,by
   rfl,by
   show szRow [.int s.low.1,.int s.low.2,.int s.high.1,.int s.high.2,.sl (vecsD s.robot),.sl (areasD s.obst),.sl (vecsD s.tables)]≤1048576
   first|trivial|exact ⟨hpre,by omega,by omega⟩|exact ⟨hpre.1,by omega,by omega⟩|exact gs|exact hz|exact ⟨by omega,by omega,hoh⟩|(refine ⟨?_,?_⟩ <;> omega),?_⟩
  refine ⟨(s,k,g,h),by
   rfl,by
   show scnSz s
   first|trivial|exact ⟨hpre,by omega,by omega⟩|exact ⟨hpre.1,by omega,by omega⟩|exact gs|exact hz|exact ⟨by omega,by omega,hoh⟩|(refine ⟨?_,?_⟩ <;> omega),?_⟩
  refine ⟨s,by
   rfl,by
   show szRow [.int s.low.1,.int s.low.2,.int s.high.1,.int s.high.2,.sl (vecsD s.robot),.sl (areasD s.obst),.sl (vecsD s.tables)]≤1048576
   first|trivial|exact ⟨hpre,by omega,by omega⟩|exact ⟨hpre.1,by omega,by omega⟩|exact gs|exact hz|exact ⟨by omega,by omega,hoh⟩|(refine ⟨?_,?_⟩ <;> omega),?_⟩
  refine ⟨(s,k,g,h),by
   rfl,by
   show scnSz s
   first|trivial|exact ⟨hpre,by omega,by omega⟩|exact ⟨hpre.1,by omega,by omega⟩|exact gs|exact hz|exact ⟨by omega,by omega,hoh⟩|(refine ⟨?_,?_⟩ <;> omega),?_⟩
  refine ⟨tsR s k g h,by
   rfl,by
   first|trivial|exact ⟨hpre,by omega,by omega⟩|exact ⟨hpre.1,by omega,by omega⟩|exact gs|exact hz|exact ⟨by omega,by omega,hoh⟩|(refine ⟨?_,?_⟩ <;> omega),?_⟩
  refine ⟨fun c21=>?_,fun c21=>?_⟩
  ·skip
   try simp only [nrm] at c21
   show Value.bool false=Value.bool true
   first|rfl|contradiction|(exfalso;omega)|simp_all
  ·skip
   try simp only [nrm] at c21
   refine ⟨s,by
    rfl,by
    show szRow [.int s.low.1,.int s.low.2,.int s.high.1,.int s.high.2,.sl (vecsD s.robot),.sl (areasD s.obst),.sl (vecsD s.tables)]≤1048576
    first|trivial|exact ⟨hpre,by omega,by omega⟩|exact ⟨hpre.1,by omega,by omega⟩|exact gs|exact hz|exact ⟨by omega,by omega,hoh⟩|(refine ⟨?_,?_⟩ <;> omega),?_⟩
   refine ⟨s,by
    rfl,by
    first|trivial|exact ⟨hpre,by omega,by omega⟩|exact ⟨hpre.1,by omega,by omega⟩|exact gs|exact hz|exact ⟨by omega,by omega,hoh⟩|(refine ⟨?_,?_⟩ <;> omega),?_⟩
   refine ⟨fun c29=>?_,fun c29=>?_⟩
   ·skip
    try simp only [nrm] at c29
    show Value.bool false=Value.bool true
    first|rfl|contradiction|(exfalso;omega)|simp_all
   ·skip
    try simp only [nrm] at c29
    refine ⟨(s,(1:Int)),by
     rfl,by
     show 0≤(1:Int)∧(1:Int)+(cntV [.int s.low.1,.int s.low.2,.int s.high.1,.int s.high.2,.sl (vecsD s.robot),.sl (areasD s.obst),.sl (vecsD s.tables)]:Int)≤4611686018427387904
     first|trivial|exact ⟨hpre,by omega,by omega⟩|exact ⟨hpre.1,by omega,by omega⟩|exact gs|exact hz|exact ⟨by omega,by omega,hoh⟩|(refine ⟨?_,?_⟩ <;> omega),?_⟩
    refine ⟨fun c34=>?_,fun c34=>?_⟩
    ·skip
     replace c34:(!(decide (((1:Int)+(cntV [.int s.low.1,.int s.low.2,.int s.high.1,.int s.high.2,.sl (vecsD s.robot),.sl (areasD s.obst),.sl (vecsD s.tables)]:Int)) < (0:Int))))=true:=c34
     try simp only [nrm] at c34
     refine ⟨tsR s k g h,by
      rfl,by
      first|trivial|exact ⟨hpre,by omega,by omega⟩|exact ⟨hpre.1,by omega,by omega⟩|exact gs|exact hz|exact ⟨by omega,by omega,hoh⟩|(refine ⟨?_,?_⟩ <;> omega),?_⟩
     refine ⟨fun c38=>?_,fun c38=>?_⟩
     ·skip
      try simp only [nrm] at c38
      show Value.bool false=Value.bool true
      first|rfl|contradiction|(exfalso;omega)|simp_all
     ·skip
      try simp only [nrm] at c38
      refine ⟨(tsR s k g h,(1:Int)),by
       rfl,by
       show 0≤(1:Int)∧(1:Int)+(cntRows (tsR s k g h):Int)≤4611686018427387904
       first|trivial|exact ⟨hpre,by omega,by omega⟩|exact ⟨hpre.1,by omega,by omega⟩|exact gs|exact hz|exact ⟨by omega,by omega,hoh⟩|(refine ⟨?_,?_⟩ <;> omega),?_⟩
      refine ⟨((tsR s k g h),(1:Int)),by
       rfl,by
       show 0≤(1:Int)∧(1:Int)+(cntRows (tsR s k g h):Int)≤4611686018427387904∧Dat.has (.sl 3 [.int]) (.sl (tsR s k g h))
       first|trivial|exact ⟨hpre,by omega,by omega⟩|exact ⟨hpre.1,by omega,by omega⟩|exact gs|exact hz|exact ⟨by omega,by omega,hoh⟩|(refine ⟨?_,?_⟩ <;> omega),?_⟩
      refine ⟨fun c46=>?_,fun c46=>?_⟩
      ·skip
       replace c46:(decide (((1:Int)+(cntRows (tsR s k g h):Int)) < (0:Int)))=true:=c46
       try simp only [nrm] at c46
       show Value.bool false=Value.bool true
       first|rfl|contradiction|(exfalso;omega)|simp_all
      ·skip
       replace c46:(decide (((1:Int)+(cntRows (tsR s k g h):Int)) < (0:Int)))=false:=c46
       try simp only [nrm] at c46
       refine ⟨fun c48=>?_,fun c48=>?_⟩
       ·skip
        replace c48:(((1:Int)+(cntRows (tsR s k g h):Int)) != ((1:Int)+(cntRows (tsR s k g h):Int)))=true:=c48
        try simp only [nrm] at c48
        show Value.bool false=Value.bool true
        first|rfl|contradiction|(exfalso;omega)|simp_all
       ·skip
        replace c48:(((1:Int)+(cntRows (tsR s k g h):Int)) != ((1:Int)+(cntRows (tsR s k g h):Int)))=false:=c48
        try simp only [nrm] at c48
        refine ⟨s,by
         rfl,by
         show szRow [.int s.low.1,.int s.low.2,.int s.high.1,.int s.high.2,.sl (vecsD s.robot),.sl (areasD s.obst),.sl (vecsD s.tables)]≤1048576
         first|trivial|exact ⟨hpre,by omega,by omega⟩|exact ⟨hpre.1,by omega,by omega⟩|exact gs|exact hz|exact ⟨by omega,by omega,hoh⟩|(refine ⟨?_,?_⟩ <;> omega),?_⟩
        refine ⟨(s,k,g,h),by
         rfl,by
         show scnSz s
         first|trivial|exact ⟨hpre,by omega,by omega⟩|exact ⟨hpre.1,by omega,by omega⟩|exact gs|exact hz|exact ⟨by omega,by omega,hoh⟩|(refine ⟨?_,?_⟩ <;> omega),?_⟩
        refine ⟨tsR s k g h,by
         rfl,by
         first|trivial|exact ⟨hpre,by omega,by omega⟩|exact ⟨hpre.1,by omega,by omega⟩|exact gs|exact hz|exact ⟨by omega,by omega,hoh⟩|(refine ⟨?_,?_⟩ <;> omega),?_⟩
        refine ⟨fun c59=>?_,fun c59=>?_⟩
        ·skip
         try simp only [nrm] at c59
         show Value.bool false=Value.bool true
         first|rfl|contradiction|(exfalso;omega)|simp_all
        ·skip
         try simp only [nrm] at c59
         refine ⟨((tsR s k g h),(1:Int)),by
          rfl,by
          show 0≤(1:Int)∧(1:Int)+(cntRows (tsR s k g h):Int)≤4611686018427387904∧Dat.has (.sl 3 [.int]) (.sl (tsR s k g h))
          first|trivial|exact ⟨hpre,by omega,by omega⟩|exact ⟨hpre.1,by omega,by omega⟩|exact gs|exact hz|exact ⟨by omega,by omega,hoh⟩|(refine ⟨?_,?_⟩ <;> omega),?_⟩
         refine ⟨fun c64=>?_,fun c64=>?_⟩
         ·skip
          replace c64:(decide (((1:Int)+(cntRows (tsR s k g h):Int)) < (0:Int)))=true:=c64
          try simp only [nrm] at c64
          show Value.bool false=Value.bool true
          first|rfl|contradiction|(exfalso;omega)|simp_all
         ·skip
          replace c64:(decide (((1:Int)+(cntRows (tsR s k g h):Int)) < (0:Int)))=false:=c64
          try simp only [nrm] at c64
          refine ⟨fun c66=>?_,fun c66=>?_⟩
          ·skip
           replace c66:(((1:Int)+(cntRows (tsR s k g h):Int)) != ((1:Int)+(cntRows (tsR s k g h):Int)))=true:=c66
           try simp only [nrm] at c66
           show Value.bool false=Value.bool true
           first|rfl|contradiction|(exfalso;omega)|simp_all
          ·skip
           replace c66:(((1:Int)+(cntRows (tsR s k g h):Int)) != ((1:Int)+(cntRows (tsR s k g h):Int)))=false:=c66
           try simp only [nrm] at c66
           exact rfl
    ·skip
     replace c34:(!(decide (((1:Int)+(cntV [.int s.low.1,.int s.low.2,.int s.high.1,.int s.high.2,.sl (vecsD s.robot),.sl (areasD s.obst),.sl (vecsD s.tables)]:Int)) < (0:Int))))=false:=c34
     try simp only [nrm] at c34
     show Value.bool false=Value.bool true
     first|rfl|contradiction|(exfalso;omega)|simp_all
end Go.Proofs.YtppjhpglejehkaaGreat
