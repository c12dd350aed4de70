import Derived.Test.YtblmlkdefjoebaaGreatTuRkP
import Derived.Test.YtblmlkdefjoebaaGreatTuRkSt
namespace Go.Proofs.YtblmlkdefjoebaaGreat
set_option linter.unusedVariables false
set_option linter.unusedSimpArgs false
open Go.RowKit
theorem pts_has {e:Nat} {l:List (List Dat)} (h:Dat.has (.sl e [.bool,.sl 3 [.int],.sl 3 [.int],.bool,.sl 3 [.int],.sl 3 [.int]]) (.sl l)):∀ j,j < l.length→(ptOf (l.getD j [])).has:=fun j hj=>by
 have h1:=has_rows h j hj
 have h2:=hasPoint h1
 exact ⟨⟨h2.2.1,h2.2.2.1⟩,h2.2.2.2.2.1,h2.2.2.2.2.2⟩
theorem slice_sz {r:List Dat} {ar:List (List V2)} (h:hasRow [.int,.bool,.int,.int,.int,.int,.sl 62 [.sl 23 [.int,.int]],.sl 199 [.bool,.sl 3 [.int],.sl 3 [.int],.bool,.sl 3 [.int],.sl 3 [.int],.bool,.sl 3 [.int],.sl 3 [.int],.bool,.sl 3 [.int],.sl 3 [.int],.bool,.sl 3 [.int],.sl 3 [.int],.bool,.sl 3 [.int],.sl 3 [.int]],.sl 202 [.bool,.sl 3 [.int],.sl 3 [.int],.bool,.sl 3 [.int],.sl 3 [.int],.bool,.sl 3 [.int],.sl 3 [.int]],.sl 207 [.int,.int],.sl 3 [.int]] r) (ha:(r.getD 6 (.int 0)).r=areasD ar) (hs:szRow r≤1048576):ar.length≤1048576:=by
 have h1:=szrSlice h
 rw [ha,areasD_length] at h1
 omega
def lawIsFreePath_con:Con:={ ι:=(List Dat)×(List (List V2))×(List (List Dat)),pre:=fun i=>hasRow [.int,.bool,.int,.int,.int,.int,.sl 62 [.sl 23 [.int,.int]],.sl 199 [.bool,.sl 3 [.int],.sl 3 [.int],.bool,.sl 3 [.int],.sl 3 [.int],.bool,.sl 3 [.int],.sl 3 [.int],.bool,.sl 3 [.int],.sl 3 [.int],.bool,.sl 3 [.int],.sl 3 [.int],.bool,.sl 3 [.int],.sl 3 [.int]],.sl 202 [.bool,.sl 3 [.int],.sl 3 [.int],.bool,.sl 3 [.int],.sl 3 [.int],.bool,.sl 3 [.int],.sl 3 [.int]],.sl 207 [.int,.int],.sl 3 [.int]] i.1∧Dat.has (.sl 70 [.bool,.sl 3 [.int],.sl 3 [.int],.bool,.sl 3 [.int],.sl 3 [.int]]) (.sl i.2.2)∧bxOk (bxR i.1)∧(i.1.getD 6 (.int 0)).r=areasD i.2.1,args:=fun i=>[.agg [.im (.int .i64 ((i.1.getD 0 (.int 0)).n)),.im (.bool ((i.1.getD 1 (.int 0)).b)),.im (.int .i64 ((i.1.getD 2 (.int 0)).n)),.im (.int .i64 ((i.1.getD 3 (.int 0)).n)),.im (.int .i64 ((i.1.getD 4 (.int 0)).n)),.im (.int .i64 ((i.1.getD 5 (.int 0)).n)),.sl 62 [.sl 23 [.int,.int]] ((i.1.getD 6 (.int 0)).r),.sl 199 [.bool,.sl 3 [.int],.sl 3 [.int],.bool,.sl 3 [.int],.sl 3 [.int],.bool,.sl 3 [.int],.sl 3 [.int],.bool,.sl 3 [.int],.sl 3 [.int],.bool,.sl 3 [.int],.sl 3 [.int],.bool,.sl 3 [.int],.sl 3 [.int]] ((i.1.getD 7 (.int 0)).r),.sl 202 [.bool,.sl 3 [.int],.sl 3 [.int],.bool,.sl 3 [.int],.sl 3 [.int],.bool,.sl 3 [.int],.sl 3 [.int]] ((i.1.getD 8 (.int 0)).r),.sl 207 [.int,.int] ((i.1.getD 9 (.int 0)).r),.sl 3 [.int] ((i.1.getD 10 (.int 0)).r)],.one (.sl 70 [.bool,.sl 3 [.int],.sl 3 [.int],.bool,.sl 3 [.int],.sl 3 [.int]] i.2.2)],res:=fun i=>⟨false,[none],[.im (Value.bool true)]⟩ }
set_option maxRecDepth 100000 in
set_option maxHeartbeats 4000000 in
theorem lawIsFreePath_ok:lawIsFreePath_con.Ok Tryz.prog 3:=by
 refine fn_ok (X:=⟨tt,[(12,szSlice_con),(13,szPointS_con),(15,toSlice_con),(16,toPointS_con),(14,sFreePath_con),(17,iFreePath_con),(18,eqSlice_con),(19,eqPointS_con)],[],45,[]⟩) mixed tt_ok (CTok.cons szSlice_ok (CTok.cons szPointS_ok (CTok.cons toSlice_ok (CTok.cons toPointS_ok (CTok.cons sFreePath_ok (CTok.cons iFreePath_ok (CTok.cons eqSlice_ok (CTok.cons eqPointS_ok (CTok.nil _))))))))) (InlOk.nil _) Tryz.func3 (by decide) rfl rfl rfl (fun _=>Nat.le_of_ble_eq_true rfl) (fun _=>Nat.le_of_ble_eq_true rfl) (fun _=>[]) ?_
 rintro ⟨r,ar,m⟩ hpre
 have hpre:hasRow [.int,.bool,.int,.int,.int,.int,.sl 62 [.sl 23 [.int,.int]],.sl 199 [.bool,.sl 3 [.int],.sl 3 [.int],.bool,.sl 3 [.int],.sl 3 [.int],.bool,.sl 3 [.int],.sl 3 [.int],.bool,.sl 3 [.int],.sl 3 [.int],.bool,.sl 3 [.int],.sl 3 [.int],.bool,.sl 3 [.int],.sl 3 [.int]],.sl 202 [.bool,.sl 3 [.int],.sl 3 [.int],.bool,.sl 3 [.int],.sl 3 [.int],.bool,.sl 3 [.int],.sl 3 [.int]],.sl 207 [.int,.int],.sl 3 [.int]] r∧Dat.has (.sl 70 [.bool,.sl 3 [.int],.sl 3 [.int],.bool,.sl 3 [.int],.sl 3 [.int]]) (.sl m)∧bxOk (bxR r)∧(r.getD 6 (.int 0)).r=areasD ar:=hpre
 refine by_nf (q:=∃ i1:(List Dat)×Int,[DA.agg [cI ((r.getD 0 (.int 0)).n),cB ((r.getD 1 (.int 0)).b),cI ((r.getD 2 (.int 0)).n),cI ((r.getD 3 (.int 0)).n),cI ((r.getD 4 (.int 0)).n),cI ((r.getD 5 (.int 0)).n),DC.sl 62 [.sl 23 [.int,.int]] ((r.getD 6 (.int 0)).r),DC.sl 199 [.bool,.sl 3 [.int],.sl 3 [.int],.bool,.sl 3 [.int],.sl 3 [.int],.bool,.sl 3 [.int],.sl 3 [.int],.bool,.sl 3 [.int],.sl 3 [.int],.bool,.sl 3 [.int],.sl 3 [.int],.bool,.sl 3 [.int],.sl 3 [.int]] ((r.getD 7 (.int 0)).r),DC.sl 202 [.bool,.sl 3 [.int],.sl 3 [.int],.bool,.sl 3 [.int],.sl 3 [.int],.bool,.sl 3 [.int],.sl 3 [.int]] ((r.getD 8 (.int 0)).r),DC.sl 207 [.int,.int] ((r.getD 9 (.int 0)).r),cS ((r.getD 10 (.int 0)).r)],DA.one (cI (1048576:Int))]=szSlice_con.args i1∧szSlice_con.pre i1∧(((decide ((szR (szRow i1.1) i1.2) < (0:Int)))=true→((Value.bool true=Value.bool true)))∧((decide ((szR (szRow i1.1) i1.2) < (0:Int)))=false→(∃ i2:(List (List Dat))×Int,[DA.one (DC.sl 70 [.bool,.sl 3 [.int],.sl 3 [.int],.bool,.sl 3 [.int],.sl 3 [.int]] m),DA.one (cI (szR (szRow i1.1) i1.2))]=szPointS_con.args i2∧szPointS_con.pre i2∧(((decide ((szR (i2.1.length+szRows i2.1) i2.2) < (0:Int)))=true→((Value.bool true=Value.bool true)))∧((decide ((szR (i2.1.length+szRows i2.1) i2.2) < (0:Int)))=false→(∃ i3:(List Dat),[DA.agg [cI ((r.getD 0 (.int 0)).n),cB ((r.getD 1 (.int 0)).b),cI ((r.getD 2 (.int 0)).n),cI ((r.getD 3 (.int 0)).n),cI ((r.getD 4 (.int 0)).n),cI ((r.getD 5 (.int 0)).n),DC.sl 62 [.sl 23 [.int,.int]] ((r.getD 6 (.int 0)).r),DC.sl 199 [.bool,.sl 3 [.int],.sl 3 [.int],.bool,.sl 3 [.int],.sl 3 [.int],.bool,.sl 3 [.int],.sl 3 [.int],.bool,.sl 3 [.int],.sl 3 [.int],.bool,.sl 3 [.int],.sl 3 [.int],.bool,.sl 3 [.int],.sl 3 [.int]] ((r.getD 7 (.int 0)).r),DC.sl 202 [.bool,.sl 3 [.int],.sl 3 [.int],.bool,.sl 3 [.int],.sl 3 [.int],.bool,.sl 3 [.int],.sl 3 [.int]] ((r.getD 8 (.int 0)).r),DC.sl 207 [.int,.int] ((r.getD 9 (.int 0)).r),cS ((r.getD 10 (.int 0)).r)]]=toSlice_con.args i3∧toSlice_con.pre i3∧(∃ i4:(List (List Dat)),[DA.one (DC.sl 70 [.bool,.sl 3 [.int],.sl 3 [.int],.bool,.sl 3 [.int],.sl 3 [.int]] m)]=toPointS_con.args i4∧toPointS_con.pre i4∧(∃ i5:(List Dat)×(List (List V2))×(List (List Dat)),[DA.agg [cI ((i3.getD 0 (.int 0)).n),cB ((i3.getD 1 (.int 0)).b),cI ((i3.getD 2 (.int 0)).n),cI ((i3.getD 3 (.int 0)).n),cI ((i3.getD 4 (.int 0)).n),cI ((i3.getD 5 (.int 0)).n),DC.sl 74 [.sl 37 [.int,.int]] ((i3.getD 6 (.int 0)).r),DC.sl 190 [.bool,.sl 3 [.int],.sl 3 [.int],.bool,.sl 3 [.int],.sl 3 [.int],.bool,.sl 3 [.int],.sl 3 [.int],.bool,.sl 3 [.int],.sl 3 [.int],.bool,.sl 3 [.int],.sl 3 [.int],.bool,.sl 3 [.int],.sl 3 [.int]] ((i3.getD 7 (.int 0)).r),DC.sl 185 [.bool,.sl 3 [.int],.sl 3 [.int],.bool,.sl 3 [.int],.sl 3 [.int],.bool,.sl 3 [.int],.sl 3 [.int]] ((i3.getD 8 (.int 0)).r),DC.sl 195 [.int,.int] ((i3.getD 9 (.int 0)).r),cS ((i3.getD 10 (.int 0)).r)],DA.one (DC.sl 82 [.bool,.sl 3 [.int],.sl 3 [.int],.bool,.sl 3 [.int],.sl 3 [.int]] i4)]=sFreePath_con.args i5∧sFreePath_con.pre i5∧(∃ i6:(List Dat),[DA.agg [cI ((r.getD 0 (.int 0)).n),cB ((r.getD 1 (.int 0)).b),cI ((r.getD 2 (.int 0)).n),cI ((r.getD 3 (.int 0)).n),cI ((r.getD 4 (.int 0)).n),cI ((r.getD 5 (.int 0)).n),DC.sl 62 [.sl 23 [.int,.int]] ((r.getD 6 (.int 0)).r),DC.sl 199 [.bool,.sl 3 [.int],.sl 3 [.int],.bool,.sl 3 [.int],.sl 3 [.int],.bool,.sl 3 [.int],.sl 3 [.int],.bool,.sl 3 [.int],.sl 3 [.int],.bool,.sl 3 [.int],.sl 3 [.int],.bool,.sl 3 [.int],.sl 3 [.int]] ((r.getD 7 (.int 0)).r),DC.sl 202 [.bool,.sl 3 [.int],.sl 3 [.int],.bool,.sl 3 [.int],.sl 3 [.int],.bool,.sl 3 [.int],.sl 3 [.int]] ((r.getD 8 (.int 0)).r),DC.sl 207 [.int,.int] ((r.getD 9 (.int 0)).r),cS ((r.getD 10 (.int 0)).r)]]=toSlice_con.args i6∧toSlice_con.pre i6∧(∃ i7:(List (List Dat)),[DA.one (DC.sl 70 [.bool,.sl 3 [.int],.sl 3 [.int],.bool,.sl 3 [.int],.sl 3 [.int]] m)]=toPointS_con.args i7∧toPointS_con.pre i7∧(∃ i8:(List Dat)×(List (List V2))×(List (List Dat)),[DA.agg [cI ((i6.getD 0 (.int 0)).n),cB ((i6.getD 1 (.int 0)).b),cI ((i6.getD 2 (.int 0)).n),cI ((i6.getD 3 (.int 0)).n),cI ((i6.getD 4 (.int 0)).n),cI ((i6.getD 5 (.int 0)).n),DC.sl 74 [.sl 37 [.int,.int]] ((i6.getD 6 (.int 0)).r),DC.sl 190 [.bool,.sl 3 [.int],.sl 3 [.int],.bool,.sl 3 [.int],.sl 3 [.int],.bool,.sl 3 [.int],.sl 3 [.int],.bool,.sl 3 [.int],.sl 3 [.int],.bool,.sl 3 [.int],.sl 3 [.int],.bool,.sl 3 [.int],.sl 3 [.int]] ((i6.getD 7 (.int 0)).r),DC.sl 185 [.bool,.sl 3 [.int],.sl 3 [.int],.bool,.sl 3 [.int],.sl 3 [.int],.bool,.sl 3 [.int],.sl 3 [.int]] ((i6.getD 8 (.int 0)).r),DC.sl 195 [.int,.int] ((i6.getD 9 (.int 0)).r),cS ((i6.getD 10 (.int 0)).r)],DA.one (DC.sl 82 [.bool,.sl 3 [.int],.sl 3 [.int],.bool,.sl 3 [.int],.sl 3 [.int]] i7)]=iFreePath_con.args i8∧iFreePath_con.pre i8∧((((pathB (bxR i8.1) i8.2.1 i8.2.2) != (pathB (bxR i5.1) i5.2.1 i5.2.2))=true→((Value.bool false=Value.bool true)))∧(((pathB (bxR i8.1) i8.2.1 i8.2.2) != (pathB (bxR i5.1) i5.2.1 i5.2.2))=false→(∃ i9:(List Dat),[DA.agg [cI ((r.getD 0 (.int 0)).n),cB ((r.getD 1 (.int 0)).b),cI ((r.getD 2 (.int 0)).n),cI ((r.getD 3 (.int 0)).n),cI ((r.getD 4 (.int 0)).n),cI ((r.getD 5 (.int 0)).n),DC.sl 62 [.sl 23 [.int,.int]] ((r.getD 6 (.int 0)).r),DC.sl 199 [.bool,.sl 3 [.int],.sl 3 [.int],.bool,.sl 3 [.int],.sl 3 [.int],.bool,.sl 3 [.int],.sl 3 [.int],.bool,.sl 3 [.int],.sl 3 [.int],.bool,.sl 3 [.int],.sl 3 [.int],.bool,.sl 3 [.int],.sl 3 [.int]] ((r.getD 7 (.int 0)).r),DC.sl 202 [.bool,.sl 3 [.int],.sl 3 [.int],.bool,.sl 3 [.int],.sl 3 [.int],.bool,.sl 3 [.int],.sl 3 [.int]] ((r.getD 8 (.int 0)).r),DC.sl 207 [.int,.int] ((r.getD 9 (.int 0)).r),cS ((r.getD 10 (.int 0)).r)]]=toSlice_con.args i9∧toSlice_con.pre i9∧(∃ i10:(List Dat),[DA.agg [cI ((i6.getD 0 (.int 0)).n),cB ((i6.getD 1 (.int 0)).b),cI ((i6.getD 2 (.int 0)).n),cI ((i6.getD 3 (.int 0)).n),cI ((i6.getD 4 (.int 0)).n),cI ((i6.getD 5 (.int 0)).n),DC.sl 74 [.sl 37 [.int,.int]] ((i6.getD 6 (.int 0)).r),DC.sl 190 [.bool,.sl 3 [.int],.sl 3 [.int],.bool,.sl 3 [.int],.sl 3 [.int],.bool,.sl 3 [.int],.sl 3 [.int],.bool,.sl 3 [.int],.sl 3 [.int],.bool,.sl 3 [.int],.sl 3 [.int],.bool,.sl 3 [.int],.sl 3 [.int]] ((i6.getD 7 (.int 0)).r),DC.sl 185 [.bool,.sl 3 [.int],.sl 3 [.int],.bool,.sl 3 [.int],.sl 3 [.int],.bool,.sl 3 [.int],.sl 3 [.int]] ((i6.getD 8 (.int 0)).r),DC.sl 195 [.int,.int] ((i6.getD 9 (.int 0)).r),cS ((i6.getD 10 (.int 0)).r)],DA.agg [cI ((i9.getD 0 (.int 0)).n),cB ((i9.getD 1 (.int 0)).b),cI ((i9.getD 2 (.int 0)).n),cI ((i9.getD 3 (.int 0)).n),cI ((i9.getD 4 (.int 0)).n),cI ((i9.getD 5 (.int 0)).n),DC.sl 74 [.sl 37 [.int,.int]] ((i9.getD 6 (.int 0)).r),DC.sl 190 [.bool,.sl 3 [.int],.sl 3 [.int],.bool,.sl 3 [.int],.sl 3 [.int],.bool,.sl 3 [.int],.sl 3 [.int],.bool,.sl 3 [.int],.sl 3 [.int],.bool,.sl 3 [.int],.sl 3 [.int],.bool,.sl 3 [.int],.sl 3 [.int]] ((i9.getD 7 (.int 0)).r),DC.sl 185 [.bool,.sl 3 [.int],.sl 3 [.int],.bool,.sl 3 [.int],.sl 3 [.int],.bool,.sl 3 [.int],.sl 3 [.int]] ((i9.getD 8 (.int 0)).r),DC.sl 195 [.int,.int] ((i9.getD 9 (.int 0)).r),cS ((i9.getD 10 (.int 0)).r)]]=eqSlice_con.args i10∧eqSlice_con.pre i10∧(((!true)=true→((Value.bool false=Value.bool true)))∧((!true)=false→(∃ i11:(List (List Dat)),[DA.one (DC.sl 70 [.bool,.sl 3 [.int],.sl 3 [.int],.bool,.sl 3 [.int],.sl 3 [.int]] m)]=toPointS_con.args i11∧toPointS_con.pre i11∧(∃ i12:(List (List Dat)),[DA.one (DC.sl 82 [.bool,.sl 3 [.int],.sl 3 [.int],.bool,.sl 3 [.int],.sl 3 [.int]] i7),DA.one (DC.sl 82 [.bool,.sl 3 [.int],.sl 3 [.int],.bool,.sl 3 [.int],.sl 3 [.int]] i11)]=eqPointS_con.args i12∧eqPointS_con.pre i12∧(((!true)=true→((Value.bool false=Value.bool true)))∧((!true)=false→((Value.bool true=Value.bool true)))))))))))))))))))))))) (by kernel_rfl) ?_
 obtain ⟨hr,hm,hb,hA⟩:=hpre
 have z1:=szR_or (szRow r) 1048576
 have z2:=szR_or (m.length+szRows m) (szR (szRow r) 1048576)
 have hps:=pts_has hm
 have hsl:=hasSlice hr
 refine ⟨(r,(1048576:Int)),by
  rfl,by
  try dsimp only [szSlice_con]
  exact ⟨hr,by omega,by omega⟩,?_⟩
 refine ⟨fun c4=>?_,fun c4=>?_⟩
 ·replace c4:(decide ((szR (szRow r) (1048576:Int)) < (0:Int)))=true:=c4
  try simp only [nrm] at c4
  exact rfl
 replace c4:(decide ((szR (szRow r) (1048576:Int)) < (0:Int)))=false:=c4
 try simp only [nrm] at c4
 refine ⟨(m,(szR (szRow r) (1048576:Int))),by
  rfl,by
  show Dat.has (.sl 70 [.bool,.sl 3 [.int],.sl 3 [.int],.bool,.sl 3 [.int],.sl 3 [.int]]) (.sl m)∧0≤(szR (szRow r) (1048576:Int))∧(szR (szRow r) (1048576:Int))≤1048576
  exact ⟨hm,by omega,by omega⟩,?_⟩
 refine ⟨fun c9=>?_,fun c9=>?_⟩
 ·replace c9:(decide ((szR (m.length+szRows m) (szR (szRow r) (1048576:Int))) < (0:Int)))=true:=c9
  try simp only [nrm] at c9
  exact rfl
 replace c9:(decide ((szR (m.length+szRows m) (szR (szRow r) (1048576:Int))) < (0:Int)))=false:=c9
 try simp only [nrm] at c9
 refine ⟨r,by
  rfl,by
  try dsimp only [toSlice_con]
  exact ⟨hr,by omega⟩,?_⟩
 refine ⟨m,by
  rfl,by
  show Dat.has (.sl 70 [.bool,.sl 3 [.int],.sl 3 [.int],.bool,.sl 3 [.int],.sl 3 [.int]]) (.sl m)∧m.length+szRows m≤1048576
  exact ⟨hm,by omega⟩,?_⟩
 refine ⟨(r,ar,m),by
  rw [hA];rfl,by
  show m.length≤1048576∧ar.length≤1048576∧(∀ j,j < m.length→(ptOf (m.getD j [])).has)∧bxOk (bxR r)
  exact ⟨by omega,slice_sz hr hA (by omega),hps,hb⟩,?_⟩
 refine ⟨r,by
  rfl,by
  try dsimp only [toSlice_con]
  exact ⟨hr,by omega⟩,?_⟩
 refine ⟨m,by
  rfl,by
  show Dat.has (.sl 70 [.bool,.sl 3 [.int],.sl 3 [.int],.bool,.sl 3 [.int],.sl 3 [.int]]) (.sl m)∧m.length+szRows m≤1048576
  exact ⟨hm,by omega⟩,?_⟩
 refine ⟨(r,ar,m),by
  rw [hA];rfl,by
  show m.length≤1048576∧ar.length≤1048576∧(∀ j,j < m.length→(ptOf (m.getD j [])).has)∧bxOk (bxR r)
  exact ⟨by omega,slice_sz hr hA (by omega),hps,hb⟩,?_⟩
 refine ⟨fun c29=>?_,fun c29=>?_⟩
 ·replace c29:((pathB (bxR r) ar m) != (pathB (bxR r) ar m))=true:=c29
  try simp only [nrm] at c29
  contradiction
 replace c29:((pathB (bxR r) ar m) != (pathB (bxR r) ar m))=false:=c29
 try simp only [nrm] at c29
 refine ⟨r,by
  rfl,by
  try dsimp only [toSlice_con]
  exact ⟨hr,by omega⟩,?_⟩
 refine ⟨r,by
  rfl,by
  exact hr,?_⟩
 refine ⟨fun c37=>?_,fun c37=>?_⟩
 ·try simp only [nrm] at c37
  contradiction
 try simp only [nrm] at c37
 refine ⟨m,by
  rfl,by
  show Dat.has (.sl 70 [.bool,.sl 3 [.int],.sl 3 [.int],.bool,.sl 3 [.int],.sl 3 [.int]]) (.sl m)∧m.length+szRows m≤1048576
  exact ⟨hm,by omega⟩,?_⟩
 refine ⟨m,by
  rfl,by
  show m.length≤9223372036854775807
  omega,?_⟩
 refine ⟨fun c45=>?_,fun c45=>?_⟩
 ·try simp only [nrm] at c45
  contradiction
 try simp only [nrm] at c45
 exact rfl
end Go.Proofs.YtblmlkdefjoebaaGreat
