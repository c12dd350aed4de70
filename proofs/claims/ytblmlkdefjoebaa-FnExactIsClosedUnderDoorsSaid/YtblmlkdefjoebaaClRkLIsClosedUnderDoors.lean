import Derived.Test.YtblmlkdefjoebaaClRkBw
import Derived.Test.YtblmlkdefjoebaaClRkSt
namespace Go.Proofs.Ytblmlkdefjoebaa
set_option linter.unusedVariables false
set_option linter.unusedSimpArgs false
open Go.RowKit
def lawIsClosedUnderDoors_con:Con:={ ι:=(List Dat)×(List (List Dat)),pre:=fun i=>hasRow [.int,.bool,.int,.int,.int,.int,.sl 52 [.sl 23 [.int,.int]],.sl 114 [.bool,.sl 3 [.int],.sl 3 [.int],.bool,.sl 3 [.int],.sl 3 [.int],.bool,.sl 3 [.int],.sl 3 [.int],.bool,.sl 3 [.int],.sl 3 [.int],.bool,.sl 3 [.int],.sl 3 [.int],.bool,.sl 3 [.int],.sl 3 [.int]],.sl 117 [.bool,.sl 3 [.int],.sl 3 [.int],.bool,.sl 3 [.int],.sl 3 [.int],.bool,.sl 3 [.int],.sl 3 [.int]],.sl 130 [.int,.int],.sl 3 [.int]] i.1∧Dat.has (.sl 3 [.int]) (.sl i.2),args:=fun i=>[.agg [.im (.int .i64 ((i.1.getD 0 (.int 0)).n)),.im (.bool ((i.1.getD 1 (.int 0)).b)),.im (.int .i64 ((i.1.getD 2 (.int 0)).n)),.im (.int .i64 ((i.1.getD 3 (.int 0)).n)),.im (.int .i64 ((i.1.getD 4 (.int 0)).n)),.im (.int .i64 ((i.1.getD 5 (.int 0)).n)),.sl 52 [.sl 23 [.int,.int]] ((i.1.getD 6 (.int 0)).r),.sl 114 [.bool,.sl 3 [.int],.sl 3 [.int],.bool,.sl 3 [.int],.sl 3 [.int],.bool,.sl 3 [.int],.sl 3 [.int],.bool,.sl 3 [.int],.sl 3 [.int],.bool,.sl 3 [.int],.sl 3 [.int],.bool,.sl 3 [.int],.sl 3 [.int]] ((i.1.getD 7 (.int 0)).r),.sl 117 [.bool,.sl 3 [.int],.sl 3 [.int],.bool,.sl 3 [.int],.sl 3 [.int],.bool,.sl 3 [.int],.sl 3 [.int]] ((i.1.getD 8 (.int 0)).r),.sl 130 [.int,.int] ((i.1.getD 9 (.int 0)).r),.sl 3 [.int] ((i.1.getD 10 (.int 0)).r)],.one (.sl 3 [.int] i.2)],res:=fun i=>⟨false,[none],[.im (Value.bool true)]⟩ }
set_option maxRecDepth 100000 in
set_option maxHeartbeats 4000000 in
theorem lawIsClosedUnderDoors_ok:lawIsClosedUnderDoors_con.Ok Try.prog 3:=by
 refine fn_ok (X:=⟨tt,[(6,szSlice_con),(8,toSlice_con),(9,toIntS_con),(7,sClosed_con),(10,iClosed_con),(11,eqSlice_con),(12,eqIntS_con)],[],43,[]⟩) mixed tt_ok (CTok.cons szSlice_ok (CTok.cons toSlice_ok (CTok.cons toIntS_ok (CTok.cons sClosed_ok (CTok.cons iClosed_ok (CTok.cons eqSlice_ok (CTok.cons eqIntS_ok (CTok.nil _)))))))) (InlOk.nil _) Try.func3 (by decide) rfl rfl rfl (fun _=>Nat.le_of_ble_eq_true rfl) (fun _=>Nat.le_of_ble_eq_true rfl) (fun _=>[]) ?_
 rintro ⟨r,c⟩ hpre
 have hpre:hasRow [.int,.bool,.int,.int,.int,.int,.sl 52 [.sl 23 [.int,.int]],.sl 114 [.bool,.sl 3 [.int],.sl 3 [.int],.bool,.sl 3 [.int],.sl 3 [.int],.bool,.sl 3 [.int],.sl 3 [.int],.bool,.sl 3 [.int],.sl 3 [.int],.bool,.sl 3 [.int],.sl 3 [.int],.bool,.sl 3 [.int],.sl 3 [.int]],.sl 117 [.bool,.sl 3 [.int],.sl 3 [.int],.bool,.sl 3 [.int],.sl 3 [.int],.bool,.sl 3 [.int],.sl 3 [.int]],.sl 130 [.int,.int],.sl 3 [.int]] r∧Dat.has (.sl 3 [.int]) (.sl c):=hpre
 refine by_nf (q:=((decide (((c.length:Nat):Int) > (1048576:Int)))=true→((Value.bool true=Value.bool true)))∧((decide (((c.length:Nat):Int) > (1048576:Int)))=false→(∃ i1:(List Dat)×Int,[DA.agg [cI ((r.getD 0 (.int 0)).n),cB ((r.getD 1 (.int 0)).b),cI ((r.getD 2 (.int 0)).n),cI ((r.getD 3 (.int 0)).n),cI ((r.getD 4 (.int 0)).n),cI ((r.getD 5 (.int 0)).n),DC.sl 52 [.sl 23 [.int,.int]] ((r.getD 6 (.int 0)).r),DC.sl 114 [.bool,.sl 3 [.int],.sl 3 [.int],.bool,.sl 3 [.int],.sl 3 [.int],.bool,.sl 3 [.int],.sl 3 [.int],.bool,.sl 3 [.int],.sl 3 [.int],.bool,.sl 3 [.int],.sl 3 [.int],.bool,.sl 3 [.int],.sl 3 [.int]] ((r.getD 7 (.int 0)).r),DC.sl 117 [.bool,.sl 3 [.int],.sl 3 [.int],.bool,.sl 3 [.int],.sl 3 [.int],.bool,.sl 3 [.int],.sl 3 [.int]] ((r.getD 8 (.int 0)).r),DC.sl 130 [.int,.int] ((r.getD 9 (.int 0)).r),cS ((r.getD 10 (.int 0)).r)],DA.one (cI (1048576:Int))]=szSlice_con.args i1∧szSlice_con.pre i1∧(((decide ((szR (szRow i1.1) i1.2) < (0:Int)))=true→((Value.bool true=Value.bool true)))∧((decide ((szR (szRow i1.1) i1.2) < (0:Int)))=false→(∃ i2:(List Dat),[DA.agg [cI ((r.getD 0 (.int 0)).n),cB ((r.getD 1 (.int 0)).b),cI ((r.getD 2 (.int 0)).n),cI ((r.getD 3 (.int 0)).n),cI ((r.getD 4 (.int 0)).n),cI ((r.getD 5 (.int 0)).n),DC.sl 52 [.sl 23 [.int,.int]] ((r.getD 6 (.int 0)).r),DC.sl 114 [.bool,.sl 3 [.int],.sl 3 [.int],.bool,.sl 3 [.int],.sl 3 [.int],.bool,.sl 3 [.int],.sl 3 [.int],.bool,.sl 3 [.int],.sl 3 [.int],.bool,.sl 3 [.int],.sl 3 [.int],.bool,.sl 3 [.int],.sl 3 [.int]] ((r.getD 7 (.int 0)).r),DC.sl 117 [.bool,.sl 3 [.int],.sl 3 [.int],.bool,.sl 3 [.int],.sl 3 [.int],.bool,.sl 3 [.int],.sl 3 [.int]] ((r.getD 8 (.int 0)).r),DC.sl 130 [.int,.int] ((r.getD 9 (.int 0)).r),cS ((r.getD 10 (.int 0)).r)]]=toSlice_con.args i2∧toSlice_con.pre i2∧(∃ i3:(List (List Dat)),[DA.one (cS c)]=toIntS_con.args i3∧toIntS_con.pre i3∧(∃ i4:(List Dat)×(List (List Dat)),[DA.agg [cI ((i2.getD 0 (.int 0)).n),cB ((i2.getD 1 (.int 0)).b),cI ((i2.getD 2 (.int 0)).n),cI ((i2.getD 3 (.int 0)).n),cI ((i2.getD 4 (.int 0)).n),cI ((i2.getD 5 (.int 0)).n),DC.sl 61 [.sl 35 [.int,.int]] ((i2.getD 6 (.int 0)).r),DC.sl 124 [.bool,.sl 3 [.int],.sl 3 [.int],.bool,.sl 3 [.int],.sl 3 [.int],.bool,.sl 3 [.int],.sl 3 [.int],.bool,.sl 3 [.int],.sl 3 [.int],.bool,.sl 3 [.int],.sl 3 [.int],.bool,.sl 3 [.int],.sl 3 [.int]] ((i2.getD 7 (.int 0)).r),DC.sl 127 [.bool,.sl 3 [.int],.sl 3 [.int],.bool,.sl 3 [.int],.sl 3 [.int],.bool,.sl 3 [.int],.sl 3 [.int]] ((i2.getD 8 (.int 0)).r),DC.sl 75 [.int,.int] ((i2.getD 9 (.int 0)).r),cS ((i2.getD 10 (.int 0)).r)],DA.one (cS i3)]=sClosed_con.args i4∧sClosed_con.pre i4∧(∃ i5:(List Dat),[DA.agg [cI ((r.getD 0 (.int 0)).n),cB ((r.getD 1 (.int 0)).b),cI ((r.getD 2 (.int 0)).n),cI ((r.getD 3 (.int 0)).n),cI ((r.getD 4 (.int 0)).n),cI ((r.getD 5 (.int 0)).n),DC.sl 52 [.sl 23 [.int,.int]] ((r.getD 6 (.int 0)).r),DC.sl 114 [.bool,.sl 3 [.int],.sl 3 [.int],.bool,.sl 3 [.int],.sl 3 [.int],.bool,.sl 3 [.int],.sl 3 [.int],.bool,.sl 3 [.int],.sl 3 [.int],.bool,.sl 3 [.int],.sl 3 [.int],.bool,.sl 3 [.int],.sl 3 [.int]] ((r.getD 7 (.int 0)).r),DC.sl 117 [.bool,.sl 3 [.int],.sl 3 [.int],.bool,.sl 3 [.int],.sl 3 [.int],.bool,.sl 3 [.int],.sl 3 [.int]] ((r.getD 8 (.int 0)).r),DC.sl 130 [.int,.int] ((r.getD 9 (.int 0)).r),cS ((r.getD 10 (.int 0)).r)]]=toSlice_con.args i5∧toSlice_con.pre i5∧(∃ i6:(List (List Dat)),[DA.one (cS c)]=toIntS_con.args i6∧toIntS_con.pre i6∧(∃ i7:(List Dat)×(List (List Dat)),[DA.agg [cI ((i5.getD 0 (.int 0)).n),cB ((i5.getD 1 (.int 0)).b),cI ((i5.getD 2 (.int 0)).n),cI ((i5.getD 3 (.int 0)).n),cI ((i5.getD 4 (.int 0)).n),cI ((i5.getD 5 (.int 0)).n),DC.sl 61 [.sl 35 [.int,.int]] ((i5.getD 6 (.int 0)).r),DC.sl 124 [.bool,.sl 3 [.int],.sl 3 [.int],.bool,.sl 3 [.int],.sl 3 [.int],.bool,.sl 3 [.int],.sl 3 [.int],.bool,.sl 3 [.int],.sl 3 [.int],.bool,.sl 3 [.int],.sl 3 [.int],.bool,.sl 3 [.int],.sl 3 [.int]] ((i5.getD 7 (.int 0)).r),DC.sl 127 [.bool,.sl 3 [.int],.sl 3 [.int],.bool,.sl 3 [.int],.sl 3 [.int],.bool,.sl 3 [.int],.sl 3 [.int]] ((i5.getD 8 (.int 0)).r),DC.sl 75 [.int,.int] ((i5.getD 9 (.int 0)).r),cS ((i5.getD 10 (.int 0)).r)],DA.one (cS i6)]=iClosed_con.args i7∧iClosed_con.pre i7∧((((decide ((bwR ((i7.1.getD 9 (.int 0)).r) i7.2).length=0)) != (decide ((bwR ((i4.1.getD 9 (.int 0)).r) i4.2).length=0)))=true→((Value.bool false=Value.bool true)))∧(((decide ((bwR ((i7.1.getD 9 (.int 0)).r) i7.2).length=0)) != (decide ((bwR ((i4.1.getD 9 (.int 0)).r) i4.2).length=0)))=false→(∃ i8:(List Dat),[DA.agg [cI ((r.getD 0 (.int 0)).n),cB ((r.getD 1 (.int 0)).b),cI ((r.getD 2 (.int 0)).n),cI ((r.getD 3 (.int 0)).n),cI ((r.getD 4 (.int 0)).n),cI ((r.getD 5 (.int 0)).n),DC.sl 52 [.sl 23 [.int,.int]] ((r.getD 6 (.int 0)).r),DC.sl 114 [.bool,.sl 3 [.int],.sl 3 [.int],.bool,.sl 3 [.int],.sl 3 [.int],.bool,.sl 3 [.int],.sl 3 [.int],.bool,.sl 3 [.int],.sl 3 [.int],.bool,.sl 3 [.int],.sl 3 [.int],.bool,.sl 3 [.int],.sl 3 [.int]] ((r.getD 7 (.int 0)).r),DC.sl 117 [.bool,.sl 3 [.int],.sl 3 [.int],.bool,.sl 3 [.int],.sl 3 [.int],.bool,.sl 3 [.int],.sl 3 [.int]] ((r.getD 8 (.int 0)).r),DC.sl 130 [.int,.int] ((r.getD 9 (.int 0)).r),cS ((r.getD 10 (.int 0)).r)]]=toSlice_con.args i8∧toSlice_con.pre i8∧(∃ i9:(List Dat),[DA.agg [cI ((i5.getD 0 (.int 0)).n),cB ((i5.getD 1 (.int 0)).b),cI ((i5.getD 2 (.int 0)).n),cI ((i5.getD 3 (.int 0)).n),cI ((i5.getD 4 (.int 0)).n),cI ((i5.getD 5 (.int 0)).n),DC.sl 61 [.sl 35 [.int,.int]] ((i5.getD 6 (.int 0)).r),DC.sl 124 [.bool,.sl 3 [.int],.sl 3 [.int],.bool,.sl 3 [.int],.sl 3 [.int],.bool,.sl 3 [.int],.sl 3 [.int],.bool,.sl 3 [.int],.sl 3 [.int],.bool,.sl 3 [.int],.sl 3 [.int],.bool,.sl 3 [.int],.sl 3 [.int]] ((i5.getD 7 (.int 0)).r),DC.sl 127 [.bool,.sl 3 [.int],.sl 3 [.int],.bool,.sl 3 [.int],.sl 3 [.int],.bool,.sl 3 [.int],.sl 3 [.int]] ((i5.getD 8 (.int 0)).r),DC.sl 75 [.int,.int] ((i5.getD 9 (.int 0)).r),cS ((i5.getD 10 (.int 0)).r)],DA.agg [cI ((i8.getD 0 (.int 0)).n),cB ((i8.getD 1 (.int 0)).b),cI ((i8.getD 2 (.int 0)).n),cI ((i8.getD 3 (.int 0)).n),cI ((i8.getD 4 (.int 0)).n),cI ((i8.getD 5 (.int 0)).n),DC.sl 61 [.sl 35 [.int,.int]] ((i8.getD 6 (.int 0)).r),DC.sl 124 [.bool,.sl 3 [.int],.sl 3 [.int],.bool,.sl 3 [.int],.sl 3 [.int],.bool,.sl 3 [.int],.sl 3 [.int],.bool,.sl 3 [.int],.sl 3 [.int],.bool,.sl 3 [.int],.sl 3 [.int],.bool,.sl 3 [.int],.sl 3 [.int]] ((i8.getD 7 (.int 0)).r),DC.sl 127 [.bool,.sl 3 [.int],.sl 3 [.int],.bool,.sl 3 [.int],.sl 3 [.int],.bool,.sl 3 [.int],.sl 3 [.int]] ((i8.getD 8 (.int 0)).r),DC.sl 75 [.int,.int] ((i8.getD 9 (.int 0)).r),cS ((i8.getD 10 (.int 0)).r)]]=eqSlice_con.args i9∧eqSlice_con.pre i9∧(((!true)=true→((Value.bool false=Value.bool true)))∧((!true)=false→(∃ i10:(List (List Dat)),[DA.one (cS c)]=toIntS_con.args i10∧toIntS_con.pre i10∧(∃ i11:(List (List Dat)),[DA.one (cS i6),DA.one (cS i10)]=eqIntS_con.args i11∧eqIntS_con.pre i11∧(((!true)=true→((Value.bool false=Value.bool true)))∧((!true)=false→((Value.bool true=Value.bool true))))))))))))))))))))))) (by kernel_rfl) ?_
 obtain ⟨hr,hc⟩:=hpre
 have z1:=szR_or (szRow r) 1048576
 have hsl:=hasSlice hr
 have hsz:=szrSlice hr
 have hcz:szRows c=0:=has_leaf (by decide) hc
 refine ⟨fun c1=>?_,fun c1=>?_⟩
 ·try simp only [nrm] at c1
  exact rfl
 try simp only [nrm] at c1
 refine ⟨(r,(1048576:Int)),by
  rfl,by
  try dsimp only [szSlice_con]
  trivial,?_⟩
 refine ⟨fun c6=>?_,fun c6=>?_⟩
 ·replace c6:(decide ((szR (szRow r) (1048576:Int)) < (0:Int)))=true:=c6
  try simp only [nrm] at c6
  exact rfl
 replace c6:(decide ((szR (szRow r) (1048576:Int)) < (0:Int)))=false:=c6
 try simp only [nrm] at c6
 refine ⟨r,by
  rfl,by
  try dsimp only [toSlice_con]
  exact ⟨hr,by omega⟩,?_⟩
 refine ⟨c,by
  rfl,by
  show c.length+szRows c≤1048576
  omega,?_⟩
 refine ⟨(r,c),by
  rfl,by
  show (r.getD 9 (.int 0)).r.length≤1048576∧c.length≤1048576
  exact ⟨by omega,by omega⟩,?_⟩
 refine ⟨r,by
  rfl,by
  try dsimp only [toSlice_con]
  exact ⟨hr,by omega⟩,?_⟩
 refine ⟨c,by
  rfl,by
  show c.length+szRows c≤1048576
  omega,?_⟩
 refine ⟨(r,c),by
  rfl,by
  show (r.getD 9 (.int 0)).r.length≤1048576∧c.length≤1048576
  exact ⟨by omega,by omega⟩,?_⟩
 refine ⟨fun c26=>?_,fun c26=>?_⟩
 ·replace c26:((decide ((bwR ((r.getD 9 (.int 0)).r) c).length=0)) != (decide ((bwR ((r.getD 9 (.int 0)).r) c).length=0)))=true:=c26
  try simp only [nrm] at c26
  contradiction
 replace c26:((decide ((bwR ((r.getD 9 (.int 0)).r) c).length=0)) != (decide ((bwR ((r.getD 9 (.int 0)).r) c).length=0)))=false:=c26
 try simp only [nrm] at c26
 refine ⟨r,by
  rfl,by
  try dsimp only [toSlice_con]
  exact ⟨hr,by omega⟩,?_⟩
 refine ⟨r,by
  rfl,by
  try dsimp only [eqSlice_con]
  trivial,?_⟩
 refine ⟨fun c34=>?_,fun c34=>?_⟩
 ·try simp only [nrm] at c34
  contradiction
 try simp only [nrm] at c34
 refine ⟨c,by
  rfl,by
  show c.length+szRows c≤1048576
  omega,?_⟩
 refine ⟨c,by
  rfl,by
  trivial,?_⟩
 refine ⟨fun c42=>?_,fun c42=>?_⟩
 ·try simp only [nrm] at c42
  contradiction
 try simp only [nrm] at c42
 exact rfl
end Go.Proofs.Ytblmlkdefjoebaa
