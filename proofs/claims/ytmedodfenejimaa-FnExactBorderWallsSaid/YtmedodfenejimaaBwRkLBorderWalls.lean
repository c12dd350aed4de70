import Derived.Test.YtmedodfenejimaaBwRkBw
import Derived.Test.YtmedodfenejimaaBwRkMk
import Derived.Test.YtmedodfenejimaaBwRkSt
namespace Go.Proofs.Ytmedodfenejimaa
set_option linter.unusedVariables false
set_option linter.unusedSimpArgs false
open Go.RowKit
theorem rI_has {l:List Int} (h:l.length<=1048576):Dat.has (.sl 3 [.int]) (.sl (rI l))/\(cntRows (rI l):Int)<=2000000000:=by
 have hl:=rI_len l
 have h2:Dat.has (.sl 3 [.int]) (.sl (rI l)):=by
  refine ⟨by omega,λ j hj=>?_⟩
  have:(rI l).getD j []=[.int (l.getD j 0)]:=by
   unfold rI
   simp only [List.getD,List.getElem?_map]
   rw [List.getElem?_eq_getElem (by omega)]
   rfl
  rw [this]
  simp [hasRow,Dat.has]
 have e:szRows (rI l)=0:=has_leaf (by decide) h2
 exact ⟨h2,cntRows_small h2 (by omega) (by simp [KRow,Ty.K])⟩
theorem bwR_len (ds c:List (List Dat)):(bwR ds c).length<=ds.length:=Nat.le_trans (setI_len _) (bwL_len ds c ds.length)
def lawBorderWalls_con:Con:={ ι:=(List Dat)×(List (List Dat)),pre:=λ i=>hasRow [.int,.bool,.int,.int,.int,.int,.sl 77 [.sl 23 [.int,.int]],.sl 84 [.bool,.sl 3 [.int],.sl 3 [.int],.bool,.sl 3 [.int],.sl 3 [.int],.bool,.sl 3 [.int],.sl 3 [.int],.bool,.sl 3 [.int],.sl 3 [.int],.bool,.sl 3 [.int],.sl 3 [.int],.bool,.sl 3 [.int],.sl 3 [.int]],.sl 87 [.bool,.sl 3 [.int],.sl 3 [.int],.bool,.sl 3 [.int],.sl 3 [.int],.bool,.sl 3 [.int],.sl 3 [.int]],.sl 101 [.int,.int],.sl 3 [.int]] i.1/\Dat.has (.sl 3 [.int]) (.sl i.2),args:=λ i=>[.agg [.im (.int .i64 ((i.1.getD 0 (.int 0)).n)),.im (.bool ((i.1.getD 1 (.int 0)).b)),.im (.int .i64 ((i.1.getD 2 (.int 0)).n)),.im (.int .i64 ((i.1.getD 3 (.int 0)).n)),.im (.int .i64 ((i.1.getD 4 (.int 0)).n)),.im (.int .i64 ((i.1.getD 5 (.int 0)).n)),.sl 77 [.sl 23 [.int,.int]] ((i.1.getD 6 (.int 0)).r),.sl 84 [.bool,.sl 3 [.int],.sl 3 [.int],.bool,.sl 3 [.int],.sl 3 [.int],.bool,.sl 3 [.int],.sl 3 [.int],.bool,.sl 3 [.int],.sl 3 [.int],.bool,.sl 3 [.int],.sl 3 [.int],.bool,.sl 3 [.int],.sl 3 [.int]] ((i.1.getD 7 (.int 0)).r),.sl 87 [.bool,.sl 3 [.int],.sl 3 [.int],.bool,.sl 3 [.int],.sl 3 [.int],.bool,.sl 3 [.int],.sl 3 [.int]] ((i.1.getD 8 (.int 0)).r),.sl 101 [.int,.int] ((i.1.getD 9 (.int 0)).r),.sl 3 [.int] ((i.1.getD 10 (.int 0)).r)],.one (.sl 3 [.int] i.2)],res:=λ i=>⟨false,[none],[.im (Value.bool true)]⟩ }
set_option maxRecDepth 100000 in
set_option maxHeartbeats 4000000 in
theorem lawBorderWalls_ok:lawBorderWalls_con.Ok Try.prog 3:=by
 refine fok (X:=⟨tt,[(4,szSlice_con),(6,toSlice_con),(7,toIntS_con),(5,sBorder_con),(8,iBorder_con),(9,eqIntS_con),(10,eqSlice_con),(11,markSlice_con),(12,markIntS_con),(13,heldIntS_con)],[],90,[]⟩) mixed tt_ok (CTok.cons szSlice_ok (CTok.cons toSlice_ok (CTok.cons toIntS_ok (CTok.cons sBorder_ok (CTok.cons iBorder_ok (CTok.cons eqIntS_ok (CTok.cons eqSlice_ok (CTok.cons markSlice_ok (CTok.cons markIntS_ok (CTok.cons heldIntS_ok (CTok.nil _))))))))))) Try.func3 (λ _=>[]) ?_
 rintro ⟨r,c⟩ hpre
 have hpre:hasRow [.int,.bool,.int,.int,.int,.int,.sl 77 [.sl 23 [.int,.int]],.sl 84 [.bool,.sl 3 [.int],.sl 3 [.int],.bool,.sl 3 [.int],.sl 3 [.int],.bool,.sl 3 [.int],.sl 3 [.int],.bool,.sl 3 [.int],.sl 3 [.int],.bool,.sl 3 [.int],.sl 3 [.int],.bool,.sl 3 [.int],.sl 3 [.int]],.sl 87 [.bool,.sl 3 [.int],.sl 3 [.int],.bool,.sl 3 [.int],.sl 3 [.int],.bool,.sl 3 [.int],.sl 3 [.int]],.sl 101 [.int,.int],.sl 3 [.int]] r/\Dat.has (.sl 3 [.int]) (.sl c):=hpre
 refine by_nf (q:=((decide ((nI c.length)>(1048576:Int)))=true->((Value.bool true=Value.bool true)))/\((decide ((nI c.length)>(1048576:Int)))=false->(∃ i1:(List Dat)×Int,[DA.agg [cI ((r.getD 0 (.int 0)).n),cB ((r.getD 1 (.int 0)).b),cI ((r.getD 2 (.int 0)).n),cI ((r.getD 3 (.int 0)).n),cI ((r.getD 4 (.int 0)).n),cI ((r.getD 5 (.int 0)).n),DC.sl 77 [.sl 23 [.int,.int]] ((r.getD 6 (.int 0)).r),DC.sl 84 [.bool,.sl 3 [.int],.sl 3 [.int],.bool,.sl 3 [.int],.sl 3 [.int],.bool,.sl 3 [.int],.sl 3 [.int],.bool,.sl 3 [.int],.sl 3 [.int],.bool,.sl 3 [.int],.sl 3 [.int],.bool,.sl 3 [.int],.sl 3 [.int]] ((r.getD 7 (.int 0)).r),DC.sl 87 [.bool,.sl 3 [.int],.sl 3 [.int],.bool,.sl 3 [.int],.sl 3 [.int],.bool,.sl 3 [.int],.sl 3 [.int]] ((r.getD 8 (.int 0)).r),DC.sl 101 [.int,.int] ((r.getD 9 (.int 0)).r),cS ((r.getD 10 (.int 0)).r)],DA.one (cI (1048576:Int))]=szSlice_con.args i1/\szSlice_con.pre i1/\(((decide ((szR (szRow i1.1) i1.2)<(0:Int)))=true->((Value.bool true=Value.bool true)))/\((decide ((szR (szRow i1.1) i1.2)<(0:Int)))=false->(∃ i2:(List Dat),[DA.agg [cI ((r.getD 0 (.int 0)).n),cB ((r.getD 1 (.int 0)).b),cI ((r.getD 2 (.int 0)).n),cI ((r.getD 3 (.int 0)).n),cI ((r.getD 4 (.int 0)).n),cI ((r.getD 5 (.int 0)).n),DC.sl 77 [.sl 23 [.int,.int]] ((r.getD 6 (.int 0)).r),DC.sl 84 [.bool,.sl 3 [.int],.sl 3 [.int],.bool,.sl 3 [.int],.sl 3 [.int],.bool,.sl 3 [.int],.sl 3 [.int],.bool,.sl 3 [.int],.sl 3 [.int],.bool,.sl 3 [.int],.sl 3 [.int],.bool,.sl 3 [.int],.sl 3 [.int]] ((r.getD 7 (.int 0)).r),DC.sl 87 [.bool,.sl 3 [.int],.sl 3 [.int],.bool,.sl 3 [.int],.sl 3 [.int],.bool,.sl 3 [.int],.sl 3 [.int]] ((r.getD 8 (.int 0)).r),DC.sl 101 [.int,.int] ((r.getD 9 (.int 0)).r),cS ((r.getD 10 (.int 0)).r)]]=toSlice_con.args i2/\toSlice_con.pre i2/\(∃ i3:(List (List Dat)),[DA.one (cS c)]=toIntS_con.args i3/\toIntS_con.pre i3/\(∃ i4:(List Dat)×(List (List Dat)),[DA.agg [cI ((i2.getD 0 (.int 0)).n),cB ((i2.getD 1 (.int 0)).b),cI ((i2.getD 2 (.int 0)).n),cI ((i2.getD 3 (.int 0)).n),cI ((i2.getD 4 (.int 0)).n),cI ((i2.getD 5 (.int 0)).n),DC.sl 89 [.sl 35 [.int,.int]] ((i2.getD 6 (.int 0)).r),DC.sl 95 [.bool,.sl 3 [.int],.sl 3 [.int],.bool,.sl 3 [.int],.sl 3 [.int],.bool,.sl 3 [.int],.sl 3 [.int],.bool,.sl 3 [.int],.sl 3 [.int],.bool,.sl 3 [.int],.sl 3 [.int],.bool,.sl 3 [.int],.sl 3 [.int]] ((i2.getD 7 (.int 0)).r),DC.sl 98 [.bool,.sl 3 [.int],.sl 3 [.int],.bool,.sl 3 [.int],.sl 3 [.int],.bool,.sl 3 [.int],.sl 3 [.int]] ((i2.getD 8 (.int 0)).r),DC.sl 56 [.int,.int] ((i2.getD 9 (.int 0)).r),cS ((i2.getD 10 (.int 0)).r)],DA.one (cS i3)]=sBorder_con.args i4/\sBorder_con.pre i4/\(∃ i5:(List Dat),[DA.agg [cI ((r.getD 0 (.int 0)).n),cB ((r.getD 1 (.int 0)).b),cI ((r.getD 2 (.int 0)).n),cI ((r.getD 3 (.int 0)).n),cI ((r.getD 4 (.int 0)).n),cI ((r.getD 5 (.int 0)).n),DC.sl 77 [.sl 23 [.int,.int]] ((r.getD 6 (.int 0)).r),DC.sl 84 [.bool,.sl 3 [.int],.sl 3 [.int],.bool,.sl 3 [.int],.sl 3 [.int],.bool,.sl 3 [.int],.sl 3 [.int],.bool,.sl 3 [.int],.sl 3 [.int],.bool,.sl 3 [.int],.sl 3 [.int],.bool,.sl 3 [.int],.sl 3 [.int]] ((r.getD 7 (.int 0)).r),DC.sl 87 [.bool,.sl 3 [.int],.sl 3 [.int],.bool,.sl 3 [.int],.sl 3 [.int],.bool,.sl 3 [.int],.sl 3 [.int]] ((r.getD 8 (.int 0)).r),DC.sl 101 [.int,.int] ((r.getD 9 (.int 0)).r),cS ((r.getD 10 (.int 0)).r)]]=toSlice_con.args i5/\toSlice_con.pre i5/\(∃ i6:(List (List Dat)),[DA.one (cS c)]=toIntS_con.args i6/\toIntS_con.pre i6/\(∃ i7:(List Dat)×(List (List Dat)),[DA.agg [cI ((i5.getD 0 (.int 0)).n),cB ((i5.getD 1 (.int 0)).b),cI ((i5.getD 2 (.int 0)).n),cI ((i5.getD 3 (.int 0)).n),cI ((i5.getD 4 (.int 0)).n),cI ((i5.getD 5 (.int 0)).n),DC.sl 89 [.sl 35 [.int,.int]] ((i5.getD 6 (.int 0)).r),DC.sl 95 [.bool,.sl 3 [.int],.sl 3 [.int],.bool,.sl 3 [.int],.sl 3 [.int],.bool,.sl 3 [.int],.sl 3 [.int],.bool,.sl 3 [.int],.sl 3 [.int],.bool,.sl 3 [.int],.sl 3 [.int],.bool,.sl 3 [.int],.sl 3 [.int]] ((i5.getD 7 (.int 0)).r),DC.sl 98 [.bool,.sl 3 [.int],.sl 3 [.int],.bool,.sl 3 [.int],.sl 3 [.int],.bool,.sl 3 [.int],.sl 3 [.int]] ((i5.getD 8 (.int 0)).r),DC.sl 56 [.int,.int] ((i5.getD 9 (.int 0)).r),cS ((i5.getD 10 (.int 0)).r)],DA.one (cS i6)]=iBorder_con.args i7/\iBorder_con.pre i7/\(∃ i8:(List (List Dat)),[DA.one (cS (rI (bwR ((i7.1.getD 9 (.int 0)).r) i7.2))),DA.one (cS (rI (bwR ((i4.1.getD 9 (.int 0)).r) i4.2)))]=eqIntS_con.args i8/\eqIntS_con.pre i8/\(((!true)=true->((Value.bool false=Value.bool true)))/\((!true)=false->(∃ i9:(List Dat),[DA.agg [cI ((r.getD 0 (.int 0)).n),cB ((r.getD 1 (.int 0)).b),cI ((r.getD 2 (.int 0)).n),cI ((r.getD 3 (.int 0)).n),cI ((r.getD 4 (.int 0)).n),cI ((r.getD 5 (.int 0)).n),DC.sl 77 [.sl 23 [.int,.int]] ((r.getD 6 (.int 0)).r),DC.sl 84 [.bool,.sl 3 [.int],.sl 3 [.int],.bool,.sl 3 [.int],.sl 3 [.int],.bool,.sl 3 [.int],.sl 3 [.int],.bool,.sl 3 [.int],.sl 3 [.int],.bool,.sl 3 [.int],.sl 3 [.int],.bool,.sl 3 [.int],.sl 3 [.int]] ((r.getD 7 (.int 0)).r),DC.sl 87 [.bool,.sl 3 [.int],.sl 3 [.int],.bool,.sl 3 [.int],.sl 3 [.int],.bool,.sl 3 [.int],.sl 3 [.int]] ((r.getD 8 (.int 0)).r),DC.sl 101 [.int,.int] ((r.getD 9 (.int 0)).r),cS ((r.getD 10 (.int 0)).r)]]=toSlice_con.args i9/\toSlice_con.pre i9/\(∃ i10:(List Dat),[DA.agg [cI ((i5.getD 0 (.int 0)).n),cB ((i5.getD 1 (.int 0)).b),cI ((i5.getD 2 (.int 0)).n),cI ((i5.getD 3 (.int 0)).n),cI ((i5.getD 4 (.int 0)).n),cI ((i5.getD 5 (.int 0)).n),DC.sl 89 [.sl 35 [.int,.int]] ((i5.getD 6 (.int 0)).r),DC.sl 95 [.bool,.sl 3 [.int],.sl 3 [.int],.bool,.sl 3 [.int],.sl 3 [.int],.bool,.sl 3 [.int],.sl 3 [.int],.bool,.sl 3 [.int],.sl 3 [.int],.bool,.sl 3 [.int],.sl 3 [.int],.bool,.sl 3 [.int],.sl 3 [.int]] ((i5.getD 7 (.int 0)).r),DC.sl 98 [.bool,.sl 3 [.int],.sl 3 [.int],.bool,.sl 3 [.int],.sl 3 [.int],.bool,.sl 3 [.int],.sl 3 [.int]] ((i5.getD 8 (.int 0)).r),DC.sl 56 [.int,.int] ((i5.getD 9 (.int 0)).r),cS ((i5.getD 10 (.int 0)).r)],DA.agg [cI ((i9.getD 0 (.int 0)).n),cB ((i9.getD 1 (.int 0)).b),cI ((i9.getD 2 (.int 0)).n),cI ((i9.getD 3 (.int 0)).n),cI ((i9.getD 4 (.int 0)).n),cI ((i9.getD 5 (.int 0)).n),DC.sl 89 [.sl 35 [.int,.int]] ((i9.getD 6 (.int 0)).r),DC.sl 95 [.bool,.sl 3 [.int],.sl 3 [.int],.bool,.sl 3 [.int],.sl 3 [.int],.bool,.sl 3 [.int],.sl 3 [.int],.bool,.sl 3 [.int],.sl 3 [.int],.bool,.sl 3 [.int],.sl 3 [.int],.bool,.sl 3 [.int],.sl 3 [.int]] ((i9.getD 7 (.int 0)).r),DC.sl 98 [.bool,.sl 3 [.int],.sl 3 [.int],.bool,.sl 3 [.int],.sl 3 [.int],.bool,.sl 3 [.int],.sl 3 [.int]] ((i9.getD 8 (.int 0)).r),DC.sl 56 [.int,.int] ((i9.getD 9 (.int 0)).r),cS ((i9.getD 10 (.int 0)).r)]]=eqSlice_con.args i10/\eqSlice_con.pre i10/\(((!true)=true->((Value.bool false=Value.bool true)))/\((!true)=false->(∃ i11:(List (List Dat)),[DA.one (cS c)]=toIntS_con.args i11/\toIntS_con.pre i11/\(∃ i12:(List (List Dat)),[DA.one (cS i6),DA.one (cS i11)]=eqIntS_con.args i12/\eqIntS_con.pre i12/\(((!true)=true->((Value.bool false=Value.bool true)))/\((!true)=false->(∃ i13:(List Dat)×Int,[DA.agg [cI ((i5.getD 0 (.int 0)).n),cB ((i5.getD 1 (.int 0)).b),cI ((i5.getD 2 (.int 0)).n),cI ((i5.getD 3 (.int 0)).n),cI ((i5.getD 4 (.int 0)).n),cI ((i5.getD 5 (.int 0)).n),DC.sl 89 [.sl 35 [.int,.int]] ((i5.getD 6 (.int 0)).r),DC.sl 95 [.bool,.sl 3 [.int],.sl 3 [.int],.bool,.sl 3 [.int],.sl 3 [.int],.bool,.sl 3 [.int],.sl 3 [.int],.bool,.sl 3 [.int],.sl 3 [.int],.bool,.sl 3 [.int],.sl 3 [.int],.bool,.sl 3 [.int],.sl 3 [.int]] ((i5.getD 7 (.int 0)).r),DC.sl 98 [.bool,.sl 3 [.int],.sl 3 [.int],.bool,.sl 3 [.int],.sl 3 [.int],.bool,.sl 3 [.int],.sl 3 [.int]] ((i5.getD 8 (.int 0)).r),DC.sl 56 [.int,.int] ((i5.getD 9 (.int 0)).r),cS ((i5.getD 10 (.int 0)).r)],DA.one (cI (1:Int))]=markSlice_con.args i13/\markSlice_con.pre i13/\(∃ i14:(List (List Dat))×Int,[DA.one (cS i6),DA.one (cI (i13.2+(cntRows ((i13.1.getD 6 (.int 0)).r):Int)+(cntRows ((i13.1.getD 7 (.int 0)).r):Int)+(cntRows ((i13.1.getD 8 (.int 0)).r):Int)+(cntRows ((i13.1.getD 9 (.int 0)).r):Int)+(cntRows ((i13.1.getD 10 (.int 0)).r):Int)))]=markIntS_con.args i14/\markIntS_con.pre i14/\(((!(decide ((i14.2+(cntRows i14.1:Int))<(0:Int))))=true->(∃ i15:(List (List Dat)),[DA.one (cS (rI (bwR ((i7.1.getD 9 (.int 0)).r) i7.2))),DA.one (cS (rI (bwR ((i4.1.getD 9 (.int 0)).r) i4.2)))]=eqIntS_con.args i15/\eqIntS_con.pre i15/\(((!true)=true->((Value.bool false=Value.bool true)))/\((!true)=false->(∃ i16:(List (List Dat))×Int,[DA.one (cS (rI (bwR ((i7.1.getD 9 (.int 0)).r) i7.2))),DA.one (cI (1:Int))]=markIntS_con.args i16/\markIntS_con.pre i16/\(∃ i17:(List (List Dat))×Int,[DA.one (cS (mkRows i16.2 i16.1)),DA.one (cI (1:Int))]=heldIntS_con.args i17/\heldIntS_con.pre i17/\(((decide ((i17.2+(cntRows i17.1:Int))<(0:Int)))=true->((Value.bool false=Value.bool true)))/\((decide ((i17.2+(cntRows i17.1:Int))<(0:Int)))=false->((((i17.2+(cntRows i17.1:Int)) != (i16.2+(cntRows i16.1:Int)))=true->((Value.bool false=Value.bool true)))/\(((i17.2+(cntRows i17.1:Int)) != (i16.2+(cntRows i16.1:Int)))=false->(∃ i18:(List Dat),[DA.agg [cI ((r.getD 0 (.int 0)).n),cB ((r.getD 1 (.int 0)).b),cI ((r.getD 2 (.int 0)).n),cI ((r.getD 3 (.int 0)).n),cI ((r.getD 4 (.int 0)).n),cI ((r.getD 5 (.int 0)).n),DC.sl 77 [.sl 23 [.int,.int]] ((r.getD 6 (.int 0)).r),DC.sl 84 [.bool,.sl 3 [.int],.sl 3 [.int],.bool,.sl 3 [.int],.sl 3 [.int],.bool,.sl 3 [.int],.sl 3 [.int],.bool,.sl 3 [.int],.sl 3 [.int],.bool,.sl 3 [.int],.sl 3 [.int],.bool,.sl 3 [.int],.sl 3 [.int]] ((r.getD 7 (.int 0)).r),DC.sl 87 [.bool,.sl 3 [.int],.sl 3 [.int],.bool,.sl 3 [.int],.sl 3 [.int],.bool,.sl 3 [.int],.sl 3 [.int]] ((r.getD 8 (.int 0)).r),DC.sl 101 [.int,.int] ((r.getD 9 (.int 0)).r),cS ((r.getD 10 (.int 0)).r)]]=toSlice_con.args i18/\toSlice_con.pre i18/\(∃ i19:(List (List Dat)),[DA.one (cS c)]=toIntS_con.args i19/\toIntS_con.pre i19/\(∃ i20:(List Dat)×(List (List Dat)),[DA.agg [cI ((i18.getD 0 (.int 0)).n),cB ((i18.getD 1 (.int 0)).b),cI ((i18.getD 2 (.int 0)).n),cI ((i18.getD 3 (.int 0)).n),cI ((i18.getD 4 (.int 0)).n),cI ((i18.getD 5 (.int 0)).n),DC.sl 89 [.sl 35 [.int,.int]] ((i18.getD 6 (.int 0)).r),DC.sl 95 [.bool,.sl 3 [.int],.sl 3 [.int],.bool,.sl 3 [.int],.sl 3 [.int],.bool,.sl 3 [.int],.sl 3 [.int],.bool,.sl 3 [.int],.sl 3 [.int],.bool,.sl 3 [.int],.sl 3 [.int],.bool,.sl 3 [.int],.sl 3 [.int]] ((i18.getD 7 (.int 0)).r),DC.sl 98 [.bool,.sl 3 [.int],.sl 3 [.int],.bool,.sl 3 [.int],.sl 3 [.int],.bool,.sl 3 [.int],.sl 3 [.int]] ((i18.getD 8 (.int 0)).r),DC.sl 56 [.int,.int] ((i18.getD 9 (.int 0)).r),cS ((i18.getD 10 (.int 0)).r)],DA.one (cS i19)]=iBorder_con.args i20/\iBorder_con.pre i20/\(∃ i21:(List (List Dat)),[DA.one (cS (rI (bwR ((i20.1.getD 9 (.int 0)).r) i20.2))),DA.one (cS (rI (bwR ((i4.1.getD 9 (.int 0)).r) i4.2)))]=eqIntS_con.args i21/\eqIntS_con.pre i21/\(((!true)=true->((Value.bool false=Value.bool true)))/\((!true)=false->(∃ i22:(List (List Dat))×Int,[DA.one (cS (mkRows i16.2 i16.1)),DA.one (cI (1:Int))]=heldIntS_con.args i22/\heldIntS_con.pre i22/\(((decide ((i22.2+(cntRows i22.1:Int))<(0:Int)))=true->((Value.bool false=Value.bool true)))/\((decide ((i22.2+(cntRows i22.1:Int))<(0:Int)))=false->((((i22.2+(cntRows i22.1:Int)) != (i16.2+(cntRows i16.1:Int)))=true->((Value.bool false=Value.bool true)))/\(((i22.2+(cntRows i22.1:Int)) != (i16.2+(cntRows i16.1:Int)))=false->((Value.bool true=Value.bool true)))))))))))))))))))))))/\((!(decide ((i14.2+(cntRows i14.1:Int))<(0:Int))))=false->((Value.bool false=Value.bool true)))))))))))))))))))))))))))) (by kernel_rfl) ?_
 delta nI
 obtain ⟨hr,hc⟩:=hpre
 have z1:=szR_or (szRow r) 1048576
 have hsl:=hasSlice hr
 have hsz:=szrSlice hr
 have hcz:szRows c=0:=has_leaf (by decide) hc
 have he:=etaSlice hr
 have hds:hasRow [.int,.bool,.int,.int,.int,.int,.sl 77 [.sl 23 [.int,.int]],.sl 84 [.bool,.sl 3 [.int],.sl 3 [.int],.bool,.sl 3 [.int],.sl 3 [.int],.bool,.sl 3 [.int],.sl 3 [.int],.bool,.sl 3 [.int],.sl 3 [.int],.bool,.sl 3 [.int],.sl 3 [.int],.bool,.sl 3 [.int],.sl 3 [.int]],.sl 87 [.bool,.sl 3 [.int],.sl 3 [.int],.bool,.sl 3 [.int],.sl 3 [.int],.bool,.sl 3 [.int],.sl 3 [.int]],.sl 101 [.int,.int],.sl 3 [.int]] [.int ((r.getD 0 (.int 0)).n),.bool ((r.getD 1 (.int 0)).b),.int ((r.getD 2 (.int 0)).n),.int ((r.getD 3 (.int 0)).n),.int ((r.getD 4 (.int 0)).n),.int ((r.getD 5 (.int 0)).n),.sl ((r.getD 6 (.int 0)).r),.sl ((r.getD 7 (.int 0)).r),.sl ((r.getD 8 (.int 0)).r),.sl ((r.getD 9 (.int 0)).r),.sl ((r.getD 10 (.int 0)).r)]:=by rw [← he];exact hr
 have hbl:=bwR_len ((r.getD 9 (.int 0)).r) c
 have hrl:=rI_len (bwR ((r.getD 9 (.int 0)).r) c)
 refine ⟨λ c1=>?_,λ c1=>?_⟩
 ·try simp only [nrm] at c1
  exact rfl
 try simp only [nrm] at c1
 refine ⟨(r,(1048576:Int)),by
  rfl,by
  try dsimp only [szSlice_con]
  first|trivial|exact ⟨hr,by omega,by omega⟩|exact ⟨hr,by omega⟩|exact ⟨hoh,by omega,by omega⟩|exact ⟨hc,by omega,by omega⟩|exact ⟨has_cast (by rfl) hsl.2.2.2.2.2.2.1,has_cast (by rfl) hsl.2.2.2.2.2.2.2.1,has_cast (by rfl) hsl.2.2.2.2.2.2.2.2.1,has_cast (by rfl) hsl.2.2.2.2.2.2.2.2.2.1,has_cast (by rfl) hsl.2.2.2.2.2.2.2.2.2.2,by omega,by omega⟩|exact ⟨by omega,by omega⟩|exact hr|exact hc|omega,?_⟩
 refine ⟨λ c6=>?_,λ c6=>?_⟩
 ·replace c6:(decide ((szR (szRow r) (1048576:Int))<(0:Int)))=true:=c6
  try simp only [nrm] at c6
  exact rfl
 replace c6:(decide ((szR (szRow r) (1048576:Int))<(0:Int)))=false:=c6
 try simp only [nrm] at c6
 have gs:szRow r<=1048576:=by omega
 have gd:szRow [.int ((r.getD 0 (.int 0)).n),.bool ((r.getD 1 (.int 0)).b),.int ((r.getD 2 (.int 0)).n),.int ((r.getD 3 (.int 0)).n),.int ((r.getD 4 (.int 0)).n),.int ((r.getD 5 (.int 0)).n),.sl ((r.getD 6 (.int 0)).r),.sl ((r.getD 7 (.int 0)).r),.sl ((r.getD 8 (.int 0)).r),.sl ((r.getD 9 (.int 0)).r),.sl ((r.getD 10 (.int 0)).r)]<=1048576:=by rw [← he];exact gs
 have hcs:=cntV_small hds gd (by simp [KRow,Ty.K])
 simp only [cntV,Dat.cntV] at hcs
 have hcc:(cntRows c:Int)<=2000000000:=cntRows_small hc (by omega) (by simp [KRow,Ty.K])
 obtain ⟨hoh,hoc⟩:=rI_has (l:=bwR ((r.getD 9 (.int 0)).r) c) (by omega)
 refine ⟨r,by
  rfl,by
  try dsimp only [toSlice_con]
  first|trivial|exact ⟨hr,by omega,by omega⟩|exact ⟨hr,by omega⟩|exact ⟨hoh,by omega,by omega⟩|exact ⟨hc,by omega,by omega⟩|exact ⟨has_cast (by rfl) hsl.2.2.2.2.2.2.1,has_cast (by rfl) hsl.2.2.2.2.2.2.2.1,has_cast (by rfl) hsl.2.2.2.2.2.2.2.2.1,has_cast (by rfl) hsl.2.2.2.2.2.2.2.2.2.1,has_cast (by rfl) hsl.2.2.2.2.2.2.2.2.2.2,by omega,by omega⟩|exact ⟨by omega,by omega⟩|exact hr|exact hc|omega,?_⟩
 refine ⟨c,by
  rfl,by
  show c.length+szRows c<=1048576
  first|trivial|exact ⟨hr,by omega,by omega⟩|exact ⟨hr,by omega⟩|exact ⟨hoh,by omega,by omega⟩|exact ⟨hc,by omega,by omega⟩|exact ⟨has_cast (by rfl) hsl.2.2.2.2.2.2.1,has_cast (by rfl) hsl.2.2.2.2.2.2.2.1,has_cast (by rfl) hsl.2.2.2.2.2.2.2.2.1,has_cast (by rfl) hsl.2.2.2.2.2.2.2.2.2.1,has_cast (by rfl) hsl.2.2.2.2.2.2.2.2.2.2,by omega,by omega⟩|exact ⟨by omega,by omega⟩|exact hr|exact hc|omega,?_⟩
 refine ⟨(r,c),by
  rfl,by
  show (r.getD 9 (.int 0)).r.length<=1048576/\c.length<=1048576
  first|trivial|exact ⟨hr,by omega,by omega⟩|exact ⟨hr,by omega⟩|exact ⟨hoh,by omega,by omega⟩|exact ⟨hc,by omega,by omega⟩|exact ⟨has_cast (by rfl) hsl.2.2.2.2.2.2.1,has_cast (by rfl) hsl.2.2.2.2.2.2.2.1,has_cast (by rfl) hsl.2.2.2.2.2.2.2.2.1,has_cast (by rfl) hsl.2.2.2.2.2.2.2.2.2.1,has_cast (by rfl) hsl.2.2.2.2.2.2.2.2.2.2,by omega,by omega⟩|exact ⟨by omega,by omega⟩|exact hr|exact hc|omega,?_⟩
 refine ⟨r,by
  rfl,by
  try dsimp only [toSlice_con]
  first|trivial|exact ⟨hr,by omega,by omega⟩|exact ⟨hr,by omega⟩|exact ⟨hoh,by omega,by omega⟩|exact ⟨hc,by omega,by omega⟩|exact ⟨has_cast (by rfl) hsl.2.2.2.2.2.2.1,has_cast (by rfl) hsl.2.2.2.2.2.2.2.1,has_cast (by rfl) hsl.2.2.2.2.2.2.2.2.1,has_cast (by rfl) hsl.2.2.2.2.2.2.2.2.2.1,has_cast (by rfl) hsl.2.2.2.2.2.2.2.2.2.2,by omega,by omega⟩|exact ⟨by omega,by omega⟩|exact hr|exact hc|omega,?_⟩
 refine ⟨c,by
  rfl,by
  show c.length+szRows c<=1048576
  first|trivial|exact ⟨hr,by omega,by omega⟩|exact ⟨hr,by omega⟩|exact ⟨hoh,by omega,by omega⟩|exact ⟨hc,by omega,by omega⟩|exact ⟨has_cast (by rfl) hsl.2.2.2.2.2.2.1,has_cast (by rfl) hsl.2.2.2.2.2.2.2.1,has_cast (by rfl) hsl.2.2.2.2.2.2.2.2.1,has_cast (by rfl) hsl.2.2.2.2.2.2.2.2.2.1,has_cast (by rfl) hsl.2.2.2.2.2.2.2.2.2.2,by omega,by omega⟩|exact ⟨by omega,by omega⟩|exact hr|exact hc|omega,?_⟩
 refine ⟨(r,c),by
  rfl,by
  show (r.getD 9 (.int 0)).r.length<=1048576/\c.length<=1048576
  first|trivial|exact ⟨hr,by omega,by omega⟩|exact ⟨hr,by omega⟩|exact ⟨hoh,by omega,by omega⟩|exact ⟨hc,by omega,by omega⟩|exact ⟨has_cast (by rfl) hsl.2.2.2.2.2.2.1,has_cast (by rfl) hsl.2.2.2.2.2.2.2.1,has_cast (by rfl) hsl.2.2.2.2.2.2.2.2.1,has_cast (by rfl) hsl.2.2.2.2.2.2.2.2.2.1,has_cast (by rfl) hsl.2.2.2.2.2.2.2.2.2.2,by omega,by omega⟩|exact ⟨by omega,by omega⟩|exact hr|exact hc|omega,?_⟩
 refine ⟨rI (bwR ((r.getD 9 (.int 0)).r) c),by
  rfl,by
  first|trivial|exact ⟨hr,by omega,by omega⟩|exact ⟨hr,by omega⟩|exact ⟨hoh,by omega,by omega⟩|exact ⟨hc,by omega,by omega⟩|exact ⟨has_cast (by rfl) hsl.2.2.2.2.2.2.1,has_cast (by rfl) hsl.2.2.2.2.2.2.2.1,has_cast (by rfl) hsl.2.2.2.2.2.2.2.2.1,has_cast (by rfl) hsl.2.2.2.2.2.2.2.2.2.1,has_cast (by rfl) hsl.2.2.2.2.2.2.2.2.2.2,by omega,by omega⟩|exact ⟨by omega,by omega⟩|exact hr|exact hc|omega,?_⟩
 refine ⟨λ c29=>?_,λ c29=>?_⟩
 ·try simp only [nrm] at c29
  first|rfl|contradiction|(exfalso;omega)|simp_all
 try simp only [nrm] at c29
 refine ⟨r,by
  rfl,by
  try dsimp only [toSlice_con]
  first|trivial|exact ⟨hr,by omega,by omega⟩|exact ⟨hr,by omega⟩|exact ⟨hoh,by omega,by omega⟩|exact ⟨hc,by omega,by omega⟩|exact ⟨has_cast (by rfl) hsl.2.2.2.2.2.2.1,has_cast (by rfl) hsl.2.2.2.2.2.2.2.1,has_cast (by rfl) hsl.2.2.2.2.2.2.2.2.1,has_cast (by rfl) hsl.2.2.2.2.2.2.2.2.2.1,has_cast (by rfl) hsl.2.2.2.2.2.2.2.2.2.2,by omega,by omega⟩|exact ⟨by omega,by omega⟩|exact hr|exact hc|omega,?_⟩
 refine ⟨r,by
  rfl,by
  try dsimp only [eqSlice_con]
  first|trivial|exact ⟨hr,by omega,by omega⟩|exact ⟨hr,by omega⟩|exact ⟨hoh,by omega,by omega⟩|exact ⟨hc,by omega,by omega⟩|exact ⟨has_cast (by rfl) hsl.2.2.2.2.2.2.1,has_cast (by rfl) hsl.2.2.2.2.2.2.2.1,has_cast (by rfl) hsl.2.2.2.2.2.2.2.2.1,has_cast (by rfl) hsl.2.2.2.2.2.2.2.2.2.1,has_cast (by rfl) hsl.2.2.2.2.2.2.2.2.2.2,by omega,by omega⟩|exact ⟨by omega,by omega⟩|exact hr|exact hc|omega,?_⟩
 refine ⟨λ c37=>?_,λ c37=>?_⟩
 ·try simp only [nrm] at c37
  first|rfl|contradiction|(exfalso;omega)|simp_all
 try simp only [nrm] at c37
 refine ⟨c,by
  rfl,by
  show c.length+szRows c<=1048576
  first|trivial|exact ⟨hr,by omega,by omega⟩|exact ⟨hr,by omega⟩|exact ⟨hoh,by omega,by omega⟩|exact ⟨hc,by omega,by omega⟩|exact ⟨has_cast (by rfl) hsl.2.2.2.2.2.2.1,has_cast (by rfl) hsl.2.2.2.2.2.2.2.1,has_cast (by rfl) hsl.2.2.2.2.2.2.2.2.1,has_cast (by rfl) hsl.2.2.2.2.2.2.2.2.2.1,has_cast (by rfl) hsl.2.2.2.2.2.2.2.2.2.2,by omega,by omega⟩|exact ⟨by omega,by omega⟩|exact hr|exact hc|omega,?_⟩
 refine ⟨c,by
  rfl,by
  first|trivial|exact ⟨hr,by omega,by omega⟩|exact ⟨hr,by omega⟩|exact ⟨hoh,by omega,by omega⟩|exact ⟨hc,by omega,by omega⟩|exact ⟨has_cast (by rfl) hsl.2.2.2.2.2.2.1,has_cast (by rfl) hsl.2.2.2.2.2.2.2.1,has_cast (by rfl) hsl.2.2.2.2.2.2.2.2.1,has_cast (by rfl) hsl.2.2.2.2.2.2.2.2.2.1,has_cast (by rfl) hsl.2.2.2.2.2.2.2.2.2.2,by omega,by omega⟩|exact ⟨by omega,by omega⟩|exact hr|exact hc|omega,?_⟩
 refine ⟨λ c45=>?_,λ c45=>?_⟩
 ·try simp only [nrm] at c45
  first|rfl|contradiction|(exfalso;omega)|simp_all
 try simp only [nrm] at c45
 refine ⟨(r,(1:Int)),by
  rfl,by
  try dsimp only [markSlice_con]
  first|trivial|exact ⟨hr,by omega,by omega⟩|exact ⟨hr,by omega⟩|exact ⟨hoh,by omega,by omega⟩|exact ⟨hc,by omega,by omega⟩|exact ⟨has_cast (by rfl) hsl.2.2.2.2.2.2.1,has_cast (by rfl) hsl.2.2.2.2.2.2.2.1,has_cast (by rfl) hsl.2.2.2.2.2.2.2.2.1,has_cast (by rfl) hsl.2.2.2.2.2.2.2.2.2.1,has_cast (by rfl) hsl.2.2.2.2.2.2.2.2.2.2,by omega,by omega⟩|exact ⟨by omega,by omega⟩|exact hr|exact hc|omega,?_⟩
 refine ⟨(c,((1:Int)+(cntRows ((r.getD 6 (.int 0)).r):Int)+(cntRows ((r.getD 7 (.int 0)).r):Int)+(cntRows ((r.getD 8 (.int 0)).r):Int)+(cntRows ((r.getD 9 (.int 0)).r):Int)+(cntRows ((r.getD 10 (.int 0)).r):Int))),by
  rfl,by
  try dsimp only [markIntS_con]
  first|trivial|exact ⟨hr,by omega,by omega⟩|exact ⟨hr,by omega⟩|exact ⟨hoh,by omega,by omega⟩|exact ⟨hc,by omega,by omega⟩|exact ⟨has_cast (by rfl) hsl.2.2.2.2.2.2.1,has_cast (by rfl) hsl.2.2.2.2.2.2.2.1,has_cast (by rfl) hsl.2.2.2.2.2.2.2.2.1,has_cast (by rfl) hsl.2.2.2.2.2.2.2.2.2.1,has_cast (by rfl) hsl.2.2.2.2.2.2.2.2.2.2,by omega,by omega⟩|exact ⟨by omega,by omega⟩|exact hr|exact hc|omega,?_⟩
 refine And.symm ⟨λ c53=>?_,λ c53=>?_⟩
 ·try dsimp only at c53
  try simp only [nrm] at c53
  first|rfl|contradiction|(exfalso;omega)|simp_all
 try dsimp only at c53
 try simp only [nrm] at c53
 refine ⟨rI (bwR ((r.getD 9 (.int 0)).r) c),by
  rfl,by
  first|trivial|exact ⟨hr,by omega,by omega⟩|exact ⟨hr,by omega⟩|exact ⟨hoh,by omega,by omega⟩|exact ⟨hc,by omega,by omega⟩|exact ⟨has_cast (by rfl) hsl.2.2.2.2.2.2.1,has_cast (by rfl) hsl.2.2.2.2.2.2.2.1,has_cast (by rfl) hsl.2.2.2.2.2.2.2.2.1,has_cast (by rfl) hsl.2.2.2.2.2.2.2.2.2.1,has_cast (by rfl) hsl.2.2.2.2.2.2.2.2.2.2,by omega,by omega⟩|exact ⟨by omega,by omega⟩|exact hr|exact hc|omega,?_⟩
 refine ⟨λ c57=>?_,λ c57=>?_⟩
 ·try simp only [nrm] at c57
  first|rfl|contradiction|(exfalso;omega)|simp_all
 try simp only [nrm] at c57
 refine ⟨(rI (bwR ((r.getD 9 (.int 0)).r) c),(1:Int)),by
  rfl,by
  show Dat.has (.sl 3 [.int]) (.sl (rI (bwR ((r.getD 9 (.int 0)).r) c)))/\0<=(1:Int)/\(1:Int)+(cntRows (rI (bwR ((r.getD 9 (.int 0)).r) c)):Int)<=4611686018427387904
  first|trivial|exact ⟨hr,by omega,by omega⟩|exact ⟨hr,by omega⟩|exact ⟨hoh,by omega,by omega⟩|exact ⟨hc,by omega,by omega⟩|exact ⟨has_cast (by rfl) hsl.2.2.2.2.2.2.1,has_cast (by rfl) hsl.2.2.2.2.2.2.2.1,has_cast (by rfl) hsl.2.2.2.2.2.2.2.2.1,has_cast (by rfl) hsl.2.2.2.2.2.2.2.2.2.1,has_cast (by rfl) hsl.2.2.2.2.2.2.2.2.2.2,by omega,by omega⟩|exact ⟨by omega,by omega⟩|exact hr|exact hc|omega,?_⟩
 refine ⟨((rI (bwR ((r.getD 9 (.int 0)).r) c)),(1:Int)),by
  rfl,by
  show Dat.has (.sl 3 [.int]) (.sl (rI (bwR ((r.getD 9 (.int 0)).r) c)))/\0<=(1:Int)/\(1:Int)+(cntRows (rI (bwR ((r.getD 9 (.int 0)).r) c)):Int)<=4611686018427387904
  first|trivial|exact ⟨hr,by omega,by omega⟩|exact ⟨hr,by omega⟩|exact ⟨hoh,by omega,by omega⟩|exact ⟨hc,by omega,by omega⟩|exact ⟨has_cast (by rfl) hsl.2.2.2.2.2.2.1,has_cast (by rfl) hsl.2.2.2.2.2.2.2.1,has_cast (by rfl) hsl.2.2.2.2.2.2.2.2.1,has_cast (by rfl) hsl.2.2.2.2.2.2.2.2.2.1,has_cast (by rfl) hsl.2.2.2.2.2.2.2.2.2.2,by omega,by omega⟩|exact ⟨by omega,by omega⟩|exact hr|exact hc|omega,?_⟩
 refine ⟨λ c65=>?_,λ c65=>?_⟩
 ·replace c65:(decide (((1:Int)+(cntRows (rI (bwR ((r.getD 9 (.int 0)).r) c)):Int))<(0:Int)))=true:=c65
  try simp only [nrm] at c65
  first|rfl|contradiction|(exfalso;omega)|simp_all
 replace c65:(decide (((1:Int)+(cntRows (rI (bwR ((r.getD 9 (.int 0)).r) c)):Int))<(0:Int)))=false:=c65
 try simp only [nrm] at c65
 refine ⟨λ c67=>?_,λ c67=>?_⟩
 ·replace c67:(((1:Int)+(cntRows (rI (bwR ((r.getD 9 (.int 0)).r) c)):Int)) != ((1:Int)+(cntRows (rI (bwR ((r.getD 9 (.int 0)).r) c)):Int)))=true:=c67
  try simp only [nrm] at c67
  first|rfl|contradiction|(exfalso;omega)|simp_all
 replace c67:(((1:Int)+(cntRows (rI (bwR ((r.getD 9 (.int 0)).r) c)):Int)) != ((1:Int)+(cntRows (rI (bwR ((r.getD 9 (.int 0)).r) c)):Int)))=false:=c67
 try simp only [nrm] at c67
 refine ⟨r,by
  rfl,by
  try dsimp only [toSlice_con]
  first|trivial|exact ⟨hr,by omega,by omega⟩|exact ⟨hr,by omega⟩|exact ⟨hoh,by omega,by omega⟩|exact ⟨hc,by omega,by omega⟩|exact ⟨has_cast (by rfl) hsl.2.2.2.2.2.2.1,has_cast (by rfl) hsl.2.2.2.2.2.2.2.1,has_cast (by rfl) hsl.2.2.2.2.2.2.2.2.1,has_cast (by rfl) hsl.2.2.2.2.2.2.2.2.2.1,has_cast (by rfl) hsl.2.2.2.2.2.2.2.2.2.2,by omega,by omega⟩|exact ⟨by omega,by omega⟩|exact hr|exact hc|omega,?_⟩
 refine ⟨c,by
  rfl,by
  show c.length+szRows c<=1048576
  first|trivial|exact ⟨hr,by omega,by omega⟩|exact ⟨hr,by omega⟩|exact ⟨hoh,by omega,by omega⟩|exact ⟨hc,by omega,by omega⟩|exact ⟨has_cast (by rfl) hsl.2.2.2.2.2.2.1,has_cast (by rfl) hsl.2.2.2.2.2.2.2.1,has_cast (by rfl) hsl.2.2.2.2.2.2.2.2.1,has_cast (by rfl) hsl.2.2.2.2.2.2.2.2.2.1,has_cast (by rfl) hsl.2.2.2.2.2.2.2.2.2.2,by omega,by omega⟩|exact ⟨by omega,by omega⟩|exact hr|exact hc|omega,?_⟩
 refine ⟨(r,c),by
  rfl,by
  show (r.getD 9 (.int 0)).r.length<=1048576/\c.length<=1048576
  first|trivial|exact ⟨hr,by omega,by omega⟩|exact ⟨hr,by omega⟩|exact ⟨hoh,by omega,by omega⟩|exact ⟨hc,by omega,by omega⟩|exact ⟨has_cast (by rfl) hsl.2.2.2.2.2.2.1,has_cast (by rfl) hsl.2.2.2.2.2.2.2.1,has_cast (by rfl) hsl.2.2.2.2.2.2.2.2.1,has_cast (by rfl) hsl.2.2.2.2.2.2.2.2.2.1,has_cast (by rfl) hsl.2.2.2.2.2.2.2.2.2.2,by omega,by omega⟩|exact ⟨by omega,by omega⟩|exact hr|exact hc|omega,?_⟩
 refine ⟨rI (bwR ((r.getD 9 (.int 0)).r) c),by
  rfl,by
  first|trivial|exact ⟨hr,by omega,by omega⟩|exact ⟨hr,by omega⟩|exact ⟨hoh,by omega,by omega⟩|exact ⟨hc,by omega,by omega⟩|exact ⟨has_cast (by rfl) hsl.2.2.2.2.2.2.1,has_cast (by rfl) hsl.2.2.2.2.2.2.2.1,has_cast (by rfl) hsl.2.2.2.2.2.2.2.2.1,has_cast (by rfl) hsl.2.2.2.2.2.2.2.2.2.1,has_cast (by rfl) hsl.2.2.2.2.2.2.2.2.2.2,by omega,by omega⟩|exact ⟨by omega,by omega⟩|exact hr|exact hc|omega,?_⟩
 refine ⟨λ c81=>?_,λ c81=>?_⟩
 ·try simp only [nrm] at c81
  first|rfl|contradiction|(exfalso;omega)|simp_all
 try simp only [nrm] at c81
 refine ⟨((rI (bwR ((r.getD 9 (.int 0)).r) c)),(1:Int)),by
  rfl,by
  show Dat.has (.sl 3 [.int]) (.sl (rI (bwR ((r.getD 9 (.int 0)).r) c)))/\0<=(1:Int)/\(1:Int)+(cntRows (rI (bwR ((r.getD 9 (.int 0)).r) c)):Int)<=4611686018427387904
  first|trivial|exact ⟨hr,by omega,by omega⟩|exact ⟨hr,by omega⟩|exact ⟨hoh,by omega,by omega⟩|exact ⟨hc,by omega,by omega⟩|exact ⟨has_cast (by rfl) hsl.2.2.2.2.2.2.1,has_cast (by rfl) hsl.2.2.2.2.2.2.2.1,has_cast (by rfl) hsl.2.2.2.2.2.2.2.2.1,has_cast (by rfl) hsl.2.2.2.2.2.2.2.2.2.1,has_cast (by rfl) hsl.2.2.2.2.2.2.2.2.2.2,by omega,by omega⟩|exact ⟨by omega,by omega⟩|exact hr|exact hc|omega,?_⟩
 refine ⟨λ c86=>?_,λ c86=>?_⟩
 ·replace c86:(decide (((1:Int)+(cntRows (rI (bwR ((r.getD 9 (.int 0)).r) c)):Int))<(0:Int)))=true:=c86
  try simp only [nrm] at c86
  first|rfl|contradiction|(exfalso;omega)|simp_all
 replace c86:(decide (((1:Int)+(cntRows (rI (bwR ((r.getD 9 (.int 0)).r) c)):Int))<(0:Int)))=false:=c86
 try simp only [nrm] at c86
 refine ⟨λ c88=>?_,λ c88=>?_⟩
 ·replace c88:(((1:Int)+(cntRows (rI (bwR ((r.getD 9 (.int 0)).r) c)):Int)) != ((1:Int)+(cntRows (rI (bwR ((r.getD 9 (.int 0)).r) c)):Int)))=true:=c88
  try simp only [nrm] at c88
  first|rfl|contradiction|(exfalso;omega)|simp_all
 replace c88:(((1:Int)+(cntRows (rI (bwR ((r.getD 9 (.int 0)).r) c)):Int)) != ((1:Int)+(cntRows (rI (bwR ((r.getD 9 (.int 0)).r) c)):Int)))=false:=c88
 try simp only [nrm] at c88
 exact rfl
end Go.Proofs.Ytmedodfenejimaa
