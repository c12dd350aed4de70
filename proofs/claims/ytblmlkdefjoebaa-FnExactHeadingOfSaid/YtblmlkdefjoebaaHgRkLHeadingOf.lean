import Derived.Test.YtblmlkdefjoebaaHgRkHd
import Derived.Test.YtblmlkdefjoebaaHgRkSt
namespace Go.Proofs.Ytblmlkdefjoebaa
set_option linter.unusedVariables false
set_option linter.unusedSimpArgs false
open Go.RowKit
theorem int_le {n:Int} (h:(Lit.int .i64 n).wf=true):n≤9223372036854775807:=by
 have h2:(decide ((-9223372036854775808:Int)≤n) && decide (n≤9223372036854775807))=true:=h
 rw [Bool.and_eq_true,decide_eq_true_iff,decide_eq_true_iff] at h2
 exact h2.2
theorem sls_of {e:Nat} {l:List (List Dat)} (h:Dat.has (.sl e [.int,.bool,.int,.int,.int,.int,.sl 52 [.sl 23 [.int,.int]],.sl 114 [.bool,.sl 3 [.int],.sl 3 [.int],.bool,.sl 3 [.int],.sl 3 [.int],.bool,.sl 3 [.int],.sl 3 [.int],.bool,.sl 3 [.int],.sl 3 [.int],.bool,.sl 3 [.int],.sl 3 [.int],.bool,.sl 3 [.int],.sl 3 [.int]],.sl 117 [.bool,.sl 3 [.int],.sl 3 [.int],.bool,.sl 3 [.int],.sl 3 [.int],.bool,.sl 3 [.int],.sl 3 [.int]],.sl 130 [.int,.int],.sl 3 [.int]]) (.sl l)) (hs:l.length+szRows l≤1048576):slsOk l:=
 ⟨fun k hk=>by
  have h1:=has_rows h k hk
  have h2:=hasSlice h1
  have h3:=szrSlice h1
  refine ⟨h2.2.2.2.2.2.2.2.2.2.2,?_⟩
  show ((((l.getD k []).getD 10 (.int 0)).r)).length≤_
  omega,hs⟩
def lawHeadingOf_con:Con:={ ι:=(List Dat)×Int,pre:=fun i=>hasRow [.int,.int,.int,.int,.sl 23 [.int,.int],.sl 52 [.sl 23 [.int,.int]],.sl 23 [.int,.int],.sl 32 [.int,.bool,.int,.int,.int,.int,.sl 52 [.sl 23 [.int,.int]],.sl 114 [.bool,.sl 3 [.int],.sl 3 [.int],.bool,.sl 3 [.int],.sl 3 [.int],.bool,.sl 3 [.int],.sl 3 [.int],.bool,.sl 3 [.int],.sl 3 [.int],.bool,.sl 3 [.int],.sl 3 [.int],.bool,.sl 3 [.int],.sl 3 [.int]],.sl 117 [.bool,.sl 3 [.int],.sl 3 [.int],.bool,.sl 3 [.int],.sl 3 [.int],.bool,.sl 3 [.int],.sl 3 [.int]],.sl 130 [.int,.int],.sl 3 [.int]],.sl 3 [.int],.sl 30 [.sl 3 [.int]]] i.1∧i.2≤9223372036854775807,args:=fun i=>[.agg [.im (.int .i64 ((i.1.getD 0 (.int 0)).n)),.im (.int .i64 ((i.1.getD 1 (.int 0)).n)),.im (.int .i64 ((i.1.getD 2 (.int 0)).n)),.im (.int .i64 ((i.1.getD 3 (.int 0)).n)),.sl 23 [.int,.int] ((i.1.getD 4 (.int 0)).r),.sl 52 [.sl 23 [.int,.int]] ((i.1.getD 5 (.int 0)).r),.sl 23 [.int,.int] ((i.1.getD 6 (.int 0)).r),.sl 32 [.int,.bool,.int,.int,.int,.int,.sl 52 [.sl 23 [.int,.int]],.sl 114 [.bool,.sl 3 [.int],.sl 3 [.int],.bool,.sl 3 [.int],.sl 3 [.int],.bool,.sl 3 [.int],.sl 3 [.int],.bool,.sl 3 [.int],.sl 3 [.int],.bool,.sl 3 [.int],.sl 3 [.int],.bool,.sl 3 [.int],.sl 3 [.int]],.sl 117 [.bool,.sl 3 [.int],.sl 3 [.int],.bool,.sl 3 [.int],.sl 3 [.int],.bool,.sl 3 [.int],.sl 3 [.int]],.sl 130 [.int,.int],.sl 3 [.int]] ((i.1.getD 7 (.int 0)).r),.sl 3 [.int] ((i.1.getD 8 (.int 0)).r),.sl 30 [.sl 3 [.int]] ((i.1.getD 9 (.int 0)).r)],.one (.im (.int .i64 i.2))],res:=fun i=>⟨false,[none],[.im (Value.bool true)]⟩ }
set_option maxRecDepth 100000 in
set_option maxHeartbeats 4000000 in
theorem lawHeadingOf_ok:lawHeadingOf_con.Ok Try.prog 5:=by
 refine fn_ok (X:=⟨tt,[(18,szRoad_con),(20,toRoad_con),(19,sHeading_con),(21,iHeading_con),(22,eqRoad_con)],[],31,[]⟩) mixed tt_ok (CTok.cons szRoad_ok (CTok.cons toRoad_ok (CTok.cons sHeading_ok (CTok.cons iHeading_ok (CTok.cons eqRoad_ok (CTok.nil _)))))) (InlOk.nil _) Try.func5 (by decide) rfl rfl rfl (fun _=>Nat.le_of_ble_eq_true rfl) (fun _=>Nat.le_of_ble_eq_true rfl) (fun _=>[]) ?_
 rintro ⟨r,n⟩ hpre
 have hpre:hasRow [.int,.int,.int,.int,.sl 23 [.int,.int],.sl 52 [.sl 23 [.int,.int]],.sl 23 [.int,.int],.sl 32 [.int,.bool,.int,.int,.int,.int,.sl 52 [.sl 23 [.int,.int]],.sl 114 [.bool,.sl 3 [.int],.sl 3 [.int],.bool,.sl 3 [.int],.sl 3 [.int],.bool,.sl 3 [.int],.sl 3 [.int],.bool,.sl 3 [.int],.sl 3 [.int],.bool,.sl 3 [.int],.sl 3 [.int],.bool,.sl 3 [.int],.sl 3 [.int]],.sl 117 [.bool,.sl 3 [.int],.sl 3 [.int],.bool,.sl 3 [.int],.sl 3 [.int],.bool,.sl 3 [.int],.sl 3 [.int]],.sl 130 [.int,.int],.sl 3 [.int]],.sl 3 [.int],.sl 30 [.sl 3 [.int]]] r∧n≤9223372036854775807:=hpre
 refine by_nf (q:=∃ i1:(List Dat)×Int,[DA.agg [cI ((r.getD 0 (.int 0)).n),cI ((r.getD 1 (.int 0)).n),cI ((r.getD 2 (.int 0)).n),cI ((r.getD 3 (.int 0)).n),DC.sl 23 [.int,.int] ((r.getD 4 (.int 0)).r),DC.sl 52 [.sl 23 [.int,.int]] ((r.getD 5 (.int 0)).r),DC.sl 23 [.int,.int] ((r.getD 6 (.int 0)).r),DC.sl 32 [.int,.bool,.int,.int,.int,.int,.sl 52 [.sl 23 [.int,.int]],.sl 114 [.bool,.sl 3 [.int],.sl 3 [.int],.bool,.sl 3 [.int],.sl 3 [.int],.bool,.sl 3 [.int],.sl 3 [.int],.bool,.sl 3 [.int],.sl 3 [.int],.bool,.sl 3 [.int],.sl 3 [.int],.bool,.sl 3 [.int],.sl 3 [.int]],.sl 117 [.bool,.sl 3 [.int],.sl 3 [.int],.bool,.sl 3 [.int],.sl 3 [.int],.bool,.sl 3 [.int],.sl 3 [.int]],.sl 130 [.int,.int],.sl 3 [.int]] ((r.getD 7 (.int 0)).r),cS ((r.getD 8 (.int 0)).r),DC.sl 30 [.sl 3 [.int]] ((r.getD 9 (.int 0)).r)],DA.one (cI (1048576:Int))]=szRoad_con.args i1∧szRoad_con.pre i1∧(((decide ((szR (szRow i1.1) i1.2) < (0:Int)))=true→((Value.bool true=Value.bool true)))∧((decide ((szR (szRow i1.1) i1.2) < (0:Int)))=false→(∃ i2:(List Dat),[DA.agg [cI ((r.getD 0 (.int 0)).n),cI ((r.getD 1 (.int 0)).n),cI ((r.getD 2 (.int 0)).n),cI ((r.getD 3 (.int 0)).n),DC.sl 23 [.int,.int] ((r.getD 4 (.int 0)).r),DC.sl 52 [.sl 23 [.int,.int]] ((r.getD 5 (.int 0)).r),DC.sl 23 [.int,.int] ((r.getD 6 (.int 0)).r),DC.sl 32 [.int,.bool,.int,.int,.int,.int,.sl 52 [.sl 23 [.int,.int]],.sl 114 [.bool,.sl 3 [.int],.sl 3 [.int],.bool,.sl 3 [.int],.sl 3 [.int],.bool,.sl 3 [.int],.sl 3 [.int],.bool,.sl 3 [.int],.sl 3 [.int],.bool,.sl 3 [.int],.sl 3 [.int],.bool,.sl 3 [.int],.sl 3 [.int]],.sl 117 [.bool,.sl 3 [.int],.sl 3 [.int],.bool,.sl 3 [.int],.sl 3 [.int],.bool,.sl 3 [.int],.sl 3 [.int]],.sl 130 [.int,.int],.sl 3 [.int]] ((r.getD 7 (.int 0)).r),cS ((r.getD 8 (.int 0)).r),DC.sl 30 [.sl 3 [.int]] ((r.getD 9 (.int 0)).r)]]=toRoad_con.args i2∧toRoad_con.pre i2∧(∃ i3:(List Dat)×Int,[DA.agg [cI ((i2.getD 0 (.int 0)).n),cI ((i2.getD 1 (.int 0)).n),cI ((i2.getD 2 (.int 0)).n),cI ((i2.getD 3 (.int 0)).n),DC.sl 35 [.int,.int] ((i2.getD 4 (.int 0)).r),DC.sl 61 [.sl 35 [.int,.int]] ((i2.getD 5 (.int 0)).r),DC.sl 35 [.int,.int] ((i2.getD 6 (.int 0)).r),DC.sl 43 [.int,.bool,.int,.int,.int,.int,.sl 61 [.sl 35 [.int,.int]],.sl 124 [.bool,.sl 3 [.int],.sl 3 [.int],.bool,.sl 3 [.int],.sl 3 [.int],.bool,.sl 3 [.int],.sl 3 [.int],.bool,.sl 3 [.int],.sl 3 [.int],.bool,.sl 3 [.int],.sl 3 [.int],.bool,.sl 3 [.int],.sl 3 [.int]],.sl 127 [.bool,.sl 3 [.int],.sl 3 [.int],.bool,.sl 3 [.int],.sl 3 [.int],.bool,.sl 3 [.int],.sl 3 [.int]],.sl 75 [.int,.int],.sl 3 [.int]] ((i2.getD 7 (.int 0)).r),cS ((i2.getD 8 (.int 0)).r),DC.sl 30 [.sl 3 [.int]] ((i2.getD 9 (.int 0)).r)],DA.one (cI n)]=sHeading_con.args i3∧sHeading_con.pre i3∧(∃ i4:(List Dat),[DA.agg [cI ((r.getD 0 (.int 0)).n),cI ((r.getD 1 (.int 0)).n),cI ((r.getD 2 (.int 0)).n),cI ((r.getD 3 (.int 0)).n),DC.sl 23 [.int,.int] ((r.getD 4 (.int 0)).r),DC.sl 52 [.sl 23 [.int,.int]] ((r.getD 5 (.int 0)).r),DC.sl 23 [.int,.int] ((r.getD 6 (.int 0)).r),DC.sl 32 [.int,.bool,.int,.int,.int,.int,.sl 52 [.sl 23 [.int,.int]],.sl 114 [.bool,.sl 3 [.int],.sl 3 [.int],.bool,.sl 3 [.int],.sl 3 [.int],.bool,.sl 3 [.int],.sl 3 [.int],.bool,.sl 3 [.int],.sl 3 [.int],.bool,.sl 3 [.int],.sl 3 [.int],.bool,.sl 3 [.int],.sl 3 [.int]],.sl 117 [.bool,.sl 3 [.int],.sl 3 [.int],.bool,.sl 3 [.int],.sl 3 [.int],.bool,.sl 3 [.int],.sl 3 [.int]],.sl 130 [.int,.int],.sl 3 [.int]] ((r.getD 7 (.int 0)).r),cS ((r.getD 8 (.int 0)).r),DC.sl 30 [.sl 3 [.int]] ((r.getD 9 (.int 0)).r)]]=toRoad_con.args i4∧toRoad_con.pre i4∧(∃ i5:(List Dat)×Int,[DA.agg [cI ((i4.getD 0 (.int 0)).n),cI ((i4.getD 1 (.int 0)).n),cI ((i4.getD 2 (.int 0)).n),cI ((i4.getD 3 (.int 0)).n),DC.sl 35 [.int,.int] ((i4.getD 4 (.int 0)).r),DC.sl 61 [.sl 35 [.int,.int]] ((i4.getD 5 (.int 0)).r),DC.sl 35 [.int,.int] ((i4.getD 6 (.int 0)).r),DC.sl 43 [.int,.bool,.int,.int,.int,.int,.sl 61 [.sl 35 [.int,.int]],.sl 124 [.bool,.sl 3 [.int],.sl 3 [.int],.bool,.sl 3 [.int],.sl 3 [.int],.bool,.sl 3 [.int],.sl 3 [.int],.bool,.sl 3 [.int],.sl 3 [.int],.bool,.sl 3 [.int],.sl 3 [.int],.bool,.sl 3 [.int],.sl 3 [.int]],.sl 127 [.bool,.sl 3 [.int],.sl 3 [.int],.bool,.sl 3 [.int],.sl 3 [.int],.bool,.sl 3 [.int],.sl 3 [.int]],.sl 75 [.int,.int],.sl 3 [.int]] ((i4.getD 7 (.int 0)).r),cS ((i4.getD 8 (.int 0)).r),DC.sl 30 [.sl 3 [.int]] ((i4.getD 9 (.int 0)).r)],DA.one (cI n)]=iHeading_con.args i5∧iHeading_con.pre i5∧((((hdZ ((i5.1.getD 7 (.int 0)).r) i5.2) != (hdZ ((i3.1.getD 7 (.int 0)).r) i3.2))=true→((Value.bool false=Value.bool true)))∧(((hdZ ((i5.1.getD 7 (.int 0)).r) i5.2) != (hdZ ((i3.1.getD 7 (.int 0)).r) i3.2))=false→(∃ i6:(List Dat),[DA.agg [cI ((r.getD 0 (.int 0)).n),cI ((r.getD 1 (.int 0)).n),cI ((r.getD 2 (.int 0)).n),cI ((r.getD 3 (.int 0)).n),DC.sl 23 [.int,.int] ((r.getD 4 (.int 0)).r),DC.sl 52 [.sl 23 [.int,.int]] ((r.getD 5 (.int 0)).r),DC.sl 23 [.int,.int] ((r.getD 6 (.int 0)).r),DC.sl 32 [.int,.bool,.int,.int,.int,.int,.sl 52 [.sl 23 [.int,.int]],.sl 114 [.bool,.sl 3 [.int],.sl 3 [.int],.bool,.sl 3 [.int],.sl 3 [.int],.bool,.sl 3 [.int],.sl 3 [.int],.bool,.sl 3 [.int],.sl 3 [.int],.bool,.sl 3 [.int],.sl 3 [.int],.bool,.sl 3 [.int],.sl 3 [.int]],.sl 117 [.bool,.sl 3 [.int],.sl 3 [.int],.bool,.sl 3 [.int],.sl 3 [.int],.bool,.sl 3 [.int],.sl 3 [.int]],.sl 130 [.int,.int],.sl 3 [.int]] ((r.getD 7 (.int 0)).r),cS ((r.getD 8 (.int 0)).r),DC.sl 30 [.sl 3 [.int]] ((r.getD 9 (.int 0)).r)]]=toRoad_con.args i6∧toRoad_con.pre i6∧(∃ i7:(List Dat),[DA.agg [cI ((i4.getD 0 (.int 0)).n),cI ((i4.getD 1 (.int 0)).n),cI ((i4.getD 2 (.int 0)).n),cI ((i4.getD 3 (.int 0)).n),DC.sl 35 [.int,.int] ((i4.getD 4 (.int 0)).r),DC.sl 61 [.sl 35 [.int,.int]] ((i4.getD 5 (.int 0)).r),DC.sl 35 [.int,.int] ((i4.getD 6 (.int 0)).r),DC.sl 43 [.int,.bool,.int,.int,.int,.int,.sl 61 [.sl 35 [.int,.int]],.sl 124 [.bool,.sl 3 [.int],.sl 3 [.int],.bool,.sl 3 [.int],.sl 3 [.int],.bool,.sl 3 [.int],.sl 3 [.int],.bool,.sl 3 [.int],.sl 3 [.int],.bool,.sl 3 [.int],.sl 3 [.int],.bool,.sl 3 [.int],.sl 3 [.int]],.sl 127 [.bool,.sl 3 [.int],.sl 3 [.int],.bool,.sl 3 [.int],.sl 3 [.int],.bool,.sl 3 [.int],.sl 3 [.int]],.sl 75 [.int,.int],.sl 3 [.int]] ((i4.getD 7 (.int 0)).r),cS ((i4.getD 8 (.int 0)).r),DC.sl 30 [.sl 3 [.int]] ((i4.getD 9 (.int 0)).r)],DA.agg [cI ((i6.getD 0 (.int 0)).n),cI ((i6.getD 1 (.int 0)).n),cI ((i6.getD 2 (.int 0)).n),cI ((i6.getD 3 (.int 0)).n),DC.sl 35 [.int,.int] ((i6.getD 4 (.int 0)).r),DC.sl 61 [.sl 35 [.int,.int]] ((i6.getD 5 (.int 0)).r),DC.sl 35 [.int,.int] ((i6.getD 6 (.int 0)).r),DC.sl 43 [.int,.bool,.int,.int,.int,.int,.sl 61 [.sl 35 [.int,.int]],.sl 124 [.bool,.sl 3 [.int],.sl 3 [.int],.bool,.sl 3 [.int],.sl 3 [.int],.bool,.sl 3 [.int],.sl 3 [.int],.bool,.sl 3 [.int],.sl 3 [.int],.bool,.sl 3 [.int],.sl 3 [.int],.bool,.sl 3 [.int],.sl 3 [.int]],.sl 127 [.bool,.sl 3 [.int],.sl 3 [.int],.bool,.sl 3 [.int],.sl 3 [.int],.bool,.sl 3 [.int],.sl 3 [.int]],.sl 75 [.int,.int],.sl 3 [.int]] ((i6.getD 7 (.int 0)).r),cS ((i6.getD 8 (.int 0)).r),DC.sl 30 [.sl 3 [.int]] ((i6.getD 9 (.int 0)).r)]]=eqRoad_con.args i7∧eqRoad_con.pre i7∧(((!true)=true→((Value.bool false=Value.bool true)))∧((!true)=false→((Value.bool true=Value.bool true))))))))))))))) (by kernel_rfl) ?_
 obtain ⟨hr,hn⟩:=hpre
 have z1:=szR_or (szRow r) 1048576
 have hrd:=hasRoad hr
 have hrz:=szrRoad hr
 refine ⟨(r,(1048576:Int)),by
  rfl,by
  try dsimp only [szRoad_con]
  first|exact ⟨hr,by omega,by omega⟩|exact ⟨hr,by omega⟩|exact ⟨sls_of hrd.2.2.2.2.2.2.2.1 (by omega),hn⟩|exact hr,?_⟩
 refine ⟨fun c4=>?_,fun c4=>?_⟩
 ·replace c4:(decide ((szR (szRow r) (1048576:Int)) < (0:Int)))=true:=c4
  try simp only [nrm] at c4
  exact rfl
 replace c4:(decide ((szR (szRow r) (1048576:Int)) < (0:Int)))=false:=c4
 try simp only [nrm] at c4
 refine ⟨r,by
  rfl,by
  try dsimp only [toRoad_con]
  first|exact ⟨hr,by omega,by omega⟩|exact ⟨hr,by omega⟩|exact ⟨sls_of hrd.2.2.2.2.2.2.2.1 (by omega),hn⟩|exact hr,?_⟩
 refine ⟨(r,n),by
  rfl,by
  show slsOk ((r.getD 7 (.int 0)).r)∧n≤9223372036854775807
  first|exact ⟨hr,by omega,by omega⟩|exact ⟨hr,by omega⟩|exact ⟨sls_of hrd.2.2.2.2.2.2.2.1 (by omega),hn⟩|exact hr,?_⟩
 refine ⟨r,by
  rfl,by
  try dsimp only [toRoad_con]
  first|exact ⟨hr,by omega,by omega⟩|exact ⟨hr,by omega⟩|exact ⟨sls_of hrd.2.2.2.2.2.2.2.1 (by omega),hn⟩|exact hr,?_⟩
 refine ⟨(r,n),by
  rfl,by
  show slsOk ((r.getD 7 (.int 0)).r)∧n≤9223372036854775807
  first|exact ⟨hr,by omega,by omega⟩|exact ⟨hr,by omega⟩|exact ⟨sls_of hrd.2.2.2.2.2.2.2.1 (by omega),hn⟩|exact hr,?_⟩
 refine ⟨fun c18=>?_,fun c18=>?_⟩
 ·replace c18:((hdZ ((r.getD 7 (.int 0)).r) n) != (hdZ ((r.getD 7 (.int 0)).r) n))=true:=c18
  try simp only [nrm] at c18
  first|rfl|contradiction|(exfalso;omega)|simp_all
 replace c18:((hdZ ((r.getD 7 (.int 0)).r) n) != (hdZ ((r.getD 7 (.int 0)).r) n))=false:=c18
 try simp only [nrm] at c18
 refine ⟨r,by
  rfl,by
  try dsimp only [toRoad_con]
  first|exact ⟨hr,by omega,by omega⟩|exact ⟨hr,by omega⟩|exact ⟨sls_of hrd.2.2.2.2.2.2.2.1 (by omega),hn⟩|exact hr,?_⟩
 refine ⟨r,by
  rfl,by
  try dsimp only [eqRoad_con]
  first|exact ⟨hr,by omega,by omega⟩|exact ⟨hr,by omega⟩|exact ⟨sls_of hrd.2.2.2.2.2.2.2.1 (by omega),hn⟩|exact hr,?_⟩
 refine ⟨fun c26=>?_,fun c26=>?_⟩
 ·try simp only [nrm] at c26
  first|rfl|contradiction|(exfalso;omega)|simp_all
 try simp only [nrm] at c26
 exact rfl
end Go.Proofs.Ytblmlkdefjoebaa
