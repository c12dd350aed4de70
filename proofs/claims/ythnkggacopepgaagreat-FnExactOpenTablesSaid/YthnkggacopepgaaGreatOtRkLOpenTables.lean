import Derived.Test.YthnkggacopepgaaGreatOtRkLs
namespace Go.Proofs.YthnkggacopepgaaGreat
set_option linter.unusedVariables false
set_option linter.unusedSimpArgs false
open Go.RowKit
theorem openT_row (s:Scn):∀ k j,j < (openT s k).length→∃ n:Int,(openT s k).getD j []=[.int n]
 | 0,j,h=>by simp [openT] at h
 | k+1,j,h=>by
  cases hc:canT s (s.tables.getD k (0,0)) with
  | true=>
   rw [open_yes hc] at h ⊢
   by_cases hj:j < (openT s k).length
   ·obtain ⟨n,hn⟩:=openT_row s k j hj
    refine ⟨n,?_⟩
    rw [← hn]
    simp [List.getD,List.getElem?_append_left hj]
   ·have hj2:j=(openT s k).length:=by simp only [List.length_append,List.length_cons,List.length_nil] at h;omega
    subst hj2
    exact ⟨k,by simp [List.getD]⟩
  | false=>
   rw [open_no hc] at h ⊢
   exact openT_row s k j h
theorem openR_has {s:Scn} (hz:scnSz s):Dat.has (.sl 3 [.int]) (.sl (openR s))∧(openR s).length≤1048576:=by
 cases hv:validScn s with
 | false=>rw [openR_no hv];exact ⟨⟨by simp,fun k hk=>by simp at hk⟩,by simp⟩
 | true=>
  have h1:=hz.2.2.2
  have h2:=openT_len s s.tables.length
  rw [openR_yes hv]
  refine ⟨⟨by omega,fun j hj=>?_⟩,by omega⟩
  obtain ⟨n,hn⟩:=openT_row s _ j hj
  rw [hn]
  simp [hasRow,Dat.has]
theorem openR_cnt {s:Scn} (hz:scnSz s):(cntRows (openR s):Int)≤2000000000:=by
 have h:=openR_has hz
 have e:szRows (openR s)=0:=has_leaf (by decide) h.1
 exact cntRows_small h.1 (by omega) (by simp [KRow,Ty.K])
def lawOpenTables_con:Con:={ ι:=Scn,pre:=fun i=>hasRow [.int,.int,.int,.int,.sl 61 [.int,.int],.sl 33 [.sl 61 [.int,.int]],.sl 61 [.int,.int]] (scnD i),args:=fun i=>[.agg [.im (.int .i64 i.low.1),.im (.int .i64 i.low.2),.im (.int .i64 i.high.1),.im (.int .i64 i.high.2),.sl 54 [.int,.int] (vecsD i.robot),.sl 22 [.sl 54 [.int,.int]] (areasD i.obst),.sl 54 [.int,.int] (vecsD i.tables)]],res:=fun i=>⟨false,[none],[.im (Value.bool true)]⟩ }
set_option maxRecDepth 100000 in
set_option maxHeartbeats 4000000 in
theorem lawOpenTables_ok:lawOpenTables_con.Ok Tryz.prog 11:=by
 refine fn_ok (X:=⟨tt,[(33,szScene_con),(35,toScene_con),(49,sOpen_con),(50,iOpen_con),(51,eqIntS_con),(38,eqScene_con),(39,markScene_con),(52,markIntS_con),(53,heldIntS_con)],[],69⟩) mixed tt_ok (CTok.cons szScene_ok (CTok.cons toScene_ok (CTok.cons sOpen_ok (CTok.cons iOpen_ok (CTok.cons eqIntS_ok (CTok.cons eqScene_ok (CTok.cons markScene_ok (CTok.cons markIntS_ok (CTok.cons heldIntS_ok (CTok.nil _)))))))))) Tryz.func11 (by decide) rfl rfl rfl (fun _=>Nat.le_of_ble_eq_true rfl) (fun _=>Nat.le_of_ble_eq_true rfl) (fun _=>[]) ?_
 intro (s:Scn) hpre
 have hpre:hasRow [.int,.int,.int,.int,.sl 61 [.int,.int],.sl 33 [.sl 61 [.int,.int]],.sl 61 [.int,.int]] (scnD s):=hpre
 refine by_nf (q:=∃ i1:Scn×Int,[DA.agg [cI s.low.1,cI s.low.2,cI s.high.1,cI s.high.2,DC.sl 54 [.int,.int] (vecsD s.robot),DC.sl 22 [.sl 54 [.int,.int]] (areasD s.obst),DC.sl 54 [.int,.int] (vecsD s.tables)],DA.one (cI (1048576:Int))]=szScene_con.args i1∧szScene_con.pre i1∧(((decide ((szR (szRow [.int i1.1.low.1,.int i1.1.low.2,.int i1.1.high.1,.int i1.1.high.2,.sl (vecsD i1.1.robot),.sl (areasD i1.1.obst),.sl (vecsD i1.1.tables)]) i1.2) < (0:Int)))=true→((Value.bool true=Value.bool true)))∧((decide ((szR (szRow [.int i1.1.low.1,.int i1.1.low.2,.int i1.1.high.1,.int i1.1.high.2,.sl (vecsD i1.1.robot),.sl (areasD i1.1.obst),.sl (vecsD i1.1.tables)]) i1.2) < (0:Int)))=false→(∃ i2:Scn,[DA.agg [cI s.low.1,cI s.low.2,cI s.high.1,cI s.high.2,DC.sl 54 [.int,.int] (vecsD s.robot),DC.sl 22 [.sl 54 [.int,.int]] (areasD s.obst),DC.sl 54 [.int,.int] (vecsD s.tables)]]=toScene_con.args i2∧toScene_con.pre i2∧(∃ i3:Scn,[DA.agg [cI i2.low.1,cI i2.low.2,cI i2.high.1,cI i2.high.2,DC.sl 61 [.int,.int] (vecsD i2.robot),DC.sl 33 [.sl 61 [.int,.int]] (areasD i2.obst),DC.sl 61 [.int,.int] (vecsD i2.tables)]]=sOpen_con.args i3∧sOpen_con.pre i3∧(∃ i4:Scn,[DA.agg [cI s.low.1,cI s.low.2,cI s.high.1,cI s.high.2,DC.sl 54 [.int,.int] (vecsD s.robot),DC.sl 22 [.sl 54 [.int,.int]] (areasD s.obst),DC.sl 54 [.int,.int] (vecsD s.tables)]]=toScene_con.args i4∧toScene_con.pre i4∧(∃ i5:Scn,[DA.agg [cI i4.low.1,cI i4.low.2,cI i4.high.1,cI i4.high.2,DC.sl 61 [.int,.int] (vecsD i4.robot),DC.sl 33 [.sl 61 [.int,.int]] (areasD i4.obst),DC.sl 61 [.int,.int] (vecsD i4.tables)]]=iOpen_con.args i5∧iOpen_con.pre i5∧(∃ i6:(List (List Dat)),[DA.one (cS (openR i5)),DA.one (cS (openR i3))]=eqIntS_con.args i6∧eqIntS_con.pre i6∧(((!true)=true→((Value.bool false=Value.bool true)))∧((!true)=false→(∃ i7:Scn,[DA.agg [cI s.low.1,cI s.low.2,cI s.high.1,cI s.high.2,DC.sl 54 [.int,.int] (vecsD s.robot),DC.sl 22 [.sl 54 [.int,.int]] (areasD s.obst),DC.sl 54 [.int,.int] (vecsD s.tables)]]=toScene_con.args i7∧toScene_con.pre i7∧(∃ i8:Scn,[DA.agg [cI i4.low.1,cI i4.low.2,cI i4.high.1,cI i4.high.2,DC.sl 61 [.int,.int] (vecsD i4.robot),DC.sl 33 [.sl 61 [.int,.int]] (areasD i4.obst),DC.sl 61 [.int,.int] (vecsD i4.tables)],DA.agg [cI i7.low.1,cI i7.low.2,cI i7.high.1,cI i7.high.2,DC.sl 61 [.int,.int] (vecsD i7.robot),DC.sl 33 [.sl 61 [.int,.int]] (areasD i7.obst),DC.sl 61 [.int,.int] (vecsD i7.tables)]]=eqScene_con.args i8∧eqScene_con.pre i8∧(((!true)=true→((Value.bool false=Value.bool true)))∧((!true)=false→(∃ i9:Scn×Int,[DA.agg [cI i4.low.1,cI i4.low.2,cI i4.high.1,cI i4.high.2,DC.sl 61 [.int,.int] (vecsD i4.robot),DC.sl 33 [.sl 61 [.int,.int]] (areasD i4.obst),DC.sl 61 [.int,.int] (vecsD i4.tables)],DA.one (cI (1:Int))]=markScene_con.args i9∧markScene_con.pre i9∧(((!(decide ((i9.2+(cntV [.int i9.1.low.1,.int i9.1.low.2,.int i9.1.high.1,.int i9.1.high.2,.sl (vecsD i9.1.robot),.sl (areasD i9.1.obst),.sl (vecsD i9.1.tables)]:Int)) < (0:Int))))=true→(∃ i10:(List (List Dat)),[DA.one (cS (openR i5)),DA.one (cS (openR i3))]=eqIntS_con.args i10∧eqIntS_con.pre i10∧(((!true)=true→((Value.bool false=Value.bool true)))∧((!true)=false→(∃ i11:(List (List Dat))×Int,[DA.one (cS (openR i5)),DA.one (cI (1:Int))]=markIntS_con.args i11∧markIntS_con.pre i11∧(∃ i12:(List (List Dat))×Int,[DA.one (cS (mkRows i11.2 i11.1)),DA.one (cI (1:Int))]=heldIntS_con.args i12∧heldIntS_con.pre i12∧(((decide ((i12.2+(cntRows i12.1:Int)) < (0:Int)))=true→((Value.bool false=Value.bool true)))∧((decide ((i12.2+(cntRows i12.1:Int)) < (0:Int)))=false→((((i12.2+(cntRows i12.1:Int)) != (i11.2+(cntRows i11.1:Int)))=true→((Value.bool false=Value.bool true)))∧(((i12.2+(cntRows i12.1:Int)) != (i11.2+(cntRows i11.1:Int)))=false→(∃ i13:Scn,[DA.agg [cI s.low.1,cI s.low.2,cI s.high.1,cI s.high.2,DC.sl 54 [.int,.int] (vecsD s.robot),DC.sl 22 [.sl 54 [.int,.int]] (areasD s.obst),DC.sl 54 [.int,.int] (vecsD s.tables)]]=toScene_con.args i13∧toScene_con.pre i13∧(∃ i14:Scn,[DA.agg [cI i13.low.1,cI i13.low.2,cI i13.high.1,cI i13.high.2,DC.sl 61 [.int,.int] (vecsD i13.robot),DC.sl 33 [.sl 61 [.int,.int]] (areasD i13.obst),DC.sl 61 [.int,.int] (vecsD i13.tables)]]=iOpen_con.args i14∧iOpen_con.pre i14∧(∃ i15:(List (List Dat)),[DA.one (cS (openR i14)),DA.one (cS (openR i3))]=eqIntS_con.args i15∧eqIntS_con.pre i15∧(((!true)=true→((Value.bool false=Value.bool true)))∧((!true)=false→(∃ i16:(List (List Dat))×Int,[DA.one (cS (mkRows i11.2 i11.1)),DA.one (cI (1:Int))]=heldIntS_con.args i16∧heldIntS_con.pre i16∧(((decide ((i16.2+(cntRows i16.1:Int)) < (0:Int)))=true→((Value.bool false=Value.bool true)))∧((decide ((i16.2+(cntRows i16.1:Int)) < (0:Int)))=false→((((i16.2+(cntRows i16.1:Int)) != (i11.2+(cntRows i11.1:Int)))=true→((Value.bool false=Value.bool true)))∧(((i16.2+(cntRows i16.1:Int)) != (i11.2+(cntRows i11.1:Int)))=false→((Value.bool true=Value.bool true))))))))))))))))))))))∧((!(decide ((i9.2+(cntV [.int i9.1.low.1,.int i9.1.low.2,.int i9.1.high.1,.int i9.1.high.2,.sl (vecsD i9.1.robot),.sl (areasD i9.1.obst),.sl (vecsD i9.1.tables)]:Int)) < (0:Int))))=false→((Value.bool false=Value.bool true))))))))))))))))))) (by kernel_rfl) ?_
 refine ⟨(s,(1048576:Int)),by
  rfl,by
  show hasRow [.int,.int,.int,.int,.sl 61 [.int,.int],.sl 33 [.sl 61 [.int,.int]],.sl 61 [.int,.int]] [.int s.low.1,.int s.low.2,.int s.high.1,.int s.high.2,.sl (vecsD s.robot),.sl (areasD s.obst),.sl (vecsD s.tables)]∧0≤(1048576:Int)∧(1048576:Int)≤1048576
  first|trivial|exact ⟨hpre,by omega,by omega⟩|exact gs|exact hz|exact ⟨by omega,by omega,hoh⟩|(refine ⟨?_,?_⟩ <;> omega),?_⟩
 refine ⟨fun c4=>?_,fun c4=>?_⟩
 ·skip
  replace c4:(decide ((szR (szRow [.int s.low.1,.int s.low.2,.int s.high.1,.int s.high.2,.sl (vecsD s.robot),.sl (areasD s.obst),.sl (vecsD s.tables)]) (1048576:Int)) < (0:Int)))=true:=c4
  try simp only [nrm] at c4
  exact rfl
 ·skip
  replace c4:(decide ((szR (szRow [.int s.low.1,.int s.low.2,.int s.high.1,.int s.high.2,.sl (vecsD s.robot),.sl (areasD s.obst),.sl (vecsD s.tables)]) (1048576:Int)) < (0:Int)))=false:=c4
  try simp only [nrm] at c4
  have z1:=szR_ge c4
  have gs:szRow [.int s.low.1,.int s.low.2,.int s.high.1,.int s.high.2,.sl (vecsD s.robot),.sl (areasD s.obst),.sl (vecsD s.tables)]≤1048576:=Int.ofNat_le.1 z1.2
  have hz:scnSz s:=scnD_sz gs
  have hcs:(cntV [.int s.low.1,.int s.low.2,.int s.high.1,.int s.high.2,.sl (vecsD s.robot),.sl (areasD s.obst),.sl (vecsD s.tables)]:Int)≤2000000000:=cntV_small hpre gs (by simp [KRow,Ty.K])
  have hoh:=(openR_has hz).1
  have hoc:=openR_cnt hz
  refine ⟨s,by
   rfl,by
   show szRow [.int s.low.1,.int s.low.2,.int s.high.1,.int s.high.2,.sl (vecsD s.robot),.sl (areasD s.obst),.sl (vecsD s.tables)]≤1048576
   first|trivial|exact ⟨hpre,by omega,by omega⟩|exact gs|exact hz|exact ⟨by omega,by omega,hoh⟩|(refine ⟨?_,?_⟩ <;> omega),?_⟩
  refine ⟨s,by
   rfl,by
   show scnSz s
   first|trivial|exact ⟨hpre,by omega,by omega⟩|exact gs|exact hz|exact ⟨by omega,by omega,hoh⟩|(refine ⟨?_,?_⟩ <;> omega),?_⟩
  refine ⟨s,by
   rfl,by
   show szRow [.int s.low.1,.int s.low.2,.int s.high.1,.int s.high.2,.sl (vecsD s.robot),.sl (areasD s.obst),.sl (vecsD s.tables)]≤1048576
   first|trivial|exact ⟨hpre,by omega,by omega⟩|exact gs|exact hz|exact ⟨by omega,by omega,hoh⟩|(refine ⟨?_,?_⟩ <;> omega),?_⟩
  refine ⟨s,by
   rfl,by
   show scnSz s
   first|trivial|exact ⟨hpre,by omega,by omega⟩|exact gs|exact hz|exact ⟨by omega,by omega,hoh⟩|(refine ⟨?_,?_⟩ <;> omega),?_⟩
  refine ⟨openR s,by
   rfl,by
   first|trivial|exact ⟨hpre,by omega,by omega⟩|exact gs|exact hz|exact ⟨by omega,by omega,hoh⟩|(refine ⟨?_,?_⟩ <;> omega),?_⟩
  refine ⟨fun c21=>?_,fun c21=>?_⟩
  ·skip
   try simp only [nrm] at c21
   show Value.bool false=Value.bool true
   first|rfl|contradiction|(exfalso;omega)|simp_all
  ·skip
   try simp only [nrm] at c21
   refine ⟨s,by
    rfl,by
    show szRow [.int s.low.1,.int s.low.2,.int s.high.1,.int s.high.2,.sl (vecsD s.robot),.sl (areasD s.obst),.sl (vecsD s.tables)]≤1048576
    first|trivial|exact ⟨hpre,by omega,by omega⟩|exact gs|exact hz|exact ⟨by omega,by omega,hoh⟩|(refine ⟨?_,?_⟩ <;> omega),?_⟩
   refine ⟨s,by
    rfl,by
    first|trivial|exact ⟨hpre,by omega,by omega⟩|exact gs|exact hz|exact ⟨by omega,by omega,hoh⟩|(refine ⟨?_,?_⟩ <;> omega),?_⟩
   refine ⟨fun c29=>?_,fun c29=>?_⟩
   ·skip
    try simp only [nrm] at c29
    show Value.bool false=Value.bool true
    first|rfl|contradiction|(exfalso;omega)|simp_all
   ·skip
    try simp only [nrm] at c29
    refine ⟨(s,(1:Int)),by
     rfl,by
     show 0≤(1:Int)∧(1:Int)+(cntV [.int s.low.1,.int s.low.2,.int s.high.1,.int s.high.2,.sl (vecsD s.robot),.sl (areasD s.obst),.sl (vecsD s.tables)]:Int)≤4611686018427387904
     first|trivial|exact ⟨hpre,by omega,by omega⟩|exact gs|exact hz|exact ⟨by omega,by omega,hoh⟩|(refine ⟨?_,?_⟩ <;> omega),?_⟩
    refine ⟨fun c34=>?_,fun c34=>?_⟩
    ·skip
     replace c34:(!(decide (((1:Int)+(cntV [.int s.low.1,.int s.low.2,.int s.high.1,.int s.high.2,.sl (vecsD s.robot),.sl (areasD s.obst),.sl (vecsD s.tables)]:Int)) < (0:Int))))=true:=c34
     try simp only [nrm] at c34
     refine ⟨openR s,by
      rfl,by
      first|trivial|exact ⟨hpre,by omega,by omega⟩|exact gs|exact hz|exact ⟨by omega,by omega,hoh⟩|(refine ⟨?_,?_⟩ <;> omega),?_⟩
     refine ⟨fun c38=>?_,fun c38=>?_⟩
     ·skip
      try simp only [nrm] at c38
      show Value.bool false=Value.bool true
      first|rfl|contradiction|(exfalso;omega)|simp_all
     ·skip
      try simp only [nrm] at c38
      refine ⟨(openR s,(1:Int)),by
       rfl,by
       show 0≤(1:Int)∧(1:Int)+(cntRows (openR s):Int)≤4611686018427387904
       first|trivial|exact ⟨hpre,by omega,by omega⟩|exact gs|exact hz|exact ⟨by omega,by omega,hoh⟩|(refine ⟨?_,?_⟩ <;> omega),?_⟩
      refine ⟨((openR s),(1:Int)),by
       rfl,by
       show 0≤(1:Int)∧(1:Int)+(cntRows (openR s):Int)≤4611686018427387904∧Dat.has (.sl 3 [.int]) (.sl (openR s))
       first|trivial|exact ⟨hpre,by omega,by omega⟩|exact gs|exact hz|exact ⟨by omega,by omega,hoh⟩|(refine ⟨?_,?_⟩ <;> omega),?_⟩
      refine ⟨fun c46=>?_,fun c46=>?_⟩
      ·skip
       replace c46:(decide (((1:Int)+(cntRows (openR s):Int)) < (0:Int)))=true:=c46
       try simp only [nrm] at c46
       show Value.bool false=Value.bool true
       first|rfl|contradiction|(exfalso;omega)|simp_all
      ·skip
       replace c46:(decide (((1:Int)+(cntRows (openR s):Int)) < (0:Int)))=false:=c46
       try simp only [nrm] at c46
       refine ⟨fun c48=>?_,fun c48=>?_⟩
       ·skip
        replace c48:(((1:Int)+(cntRows (openR s):Int)) != ((1:Int)+(cntRows (openR s):Int)))=true:=c48
        try simp only [nrm] at c48
        show Value.bool false=Value.bool true
        first|rfl|contradiction|(exfalso;omega)|simp_all
       ·skip
        replace c48:(((1:Int)+(cntRows (openR s):Int)) != ((1:Int)+(cntRows (openR s):Int)))=false:=c48
        try simp only [nrm] at c48
        refine ⟨s,by
         rfl,by
         show szRow [.int s.low.1,.int s.low.2,.int s.high.1,.int s.high.2,.sl (vecsD s.robot),.sl (areasD s.obst),.sl (vecsD s.tables)]≤1048576
         first|trivial|exact ⟨hpre,by omega,by omega⟩|exact gs|exact hz|exact ⟨by omega,by omega,hoh⟩|(refine ⟨?_,?_⟩ <;> omega),?_⟩
        refine ⟨s,by
         rfl,by
         show scnSz s
         first|trivial|exact ⟨hpre,by omega,by omega⟩|exact gs|exact hz|exact ⟨by omega,by omega,hoh⟩|(refine ⟨?_,?_⟩ <;> omega),?_⟩
        refine ⟨openR s,by
         rfl,by
         first|trivial|exact ⟨hpre,by omega,by omega⟩|exact gs|exact hz|exact ⟨by omega,by omega,hoh⟩|(refine ⟨?_,?_⟩ <;> omega),?_⟩
        refine ⟨fun c59=>?_,fun c59=>?_⟩
        ·skip
         try simp only [nrm] at c59
         show Value.bool false=Value.bool true
         first|rfl|contradiction|(exfalso;omega)|simp_all
        ·skip
         try simp only [nrm] at c59
         refine ⟨((openR s),(1:Int)),by
          rfl,by
          show 0≤(1:Int)∧(1:Int)+(cntRows (openR s):Int)≤4611686018427387904∧Dat.has (.sl 3 [.int]) (.sl (openR s))
          first|trivial|exact ⟨hpre,by omega,by omega⟩|exact gs|exact hz|exact ⟨by omega,by omega,hoh⟩|(refine ⟨?_,?_⟩ <;> omega),?_⟩
         refine ⟨fun c64=>?_,fun c64=>?_⟩
         ·skip
          replace c64:(decide (((1:Int)+(cntRows (openR s):Int)) < (0:Int)))=true:=c64
          try simp only [nrm] at c64
          show Value.bool false=Value.bool true
          first|rfl|contradiction|(exfalso;omega)|simp_all
         ·skip
          replace c64:(decide (((1:Int)+(cntRows (openR s):Int)) < (0:Int)))=false:=c64
          try simp only [nrm] at c64
          refine ⟨fun c66=>?_,fun c66=>?_⟩
          ·skip
           replace c66:(((1:Int)+(cntRows (openR s):Int)) != ((1:Int)+(cntRows (openR s):Int)))=true:=c66
           try simp only [nrm] at c66
           show Value.bool false=Value.bool true
           first|rfl|contradiction|(exfalso;omega)|simp_all
          ·skip
           replace c66:(((1:Int)+(cntRows (openR s):Int)) != ((1:Int)+(cntRows (openR s):Int)))=false:=c66
           try simp only [nrm] at c66
           exact rfl
    ·skip
     replace c34:(!(decide (((1:Int)+(cntV [.int s.low.1,.int s.low.2,.int s.high.1,.int s.high.2,.sl (vecsD s.robot),.sl (areasD s.obst),.sl (vecsD s.tables)]:Int)) < (0:Int))))=false:=c34
     try simp only [nrm] at c34
     show Value.bool false=Value.bool true
     first|rfl|contradiction|(exfalso;omega)|simp_all
end Go.Proofs.YthnkggacopepgaaGreat
