import Derived.Test.YtkffpiaagjcmpaaGreatEvRkEs
namespace Go.Proofs.YtkffpiaagjcmpaaGreat
set_option maxRecDepth 100000
set_option linter.unusedVariables false
set_option linter.unusedSimpArgs false
open Go.RowKit
def Dz:Con:={ ι:=Int×Int×Int×Int×(List (List V2)),pre:=λ i=>TN i.2.2.2.2/\(-9223372036854775808<=i.1/\i.1<=9223372036854775807)/\(-9223372036854775808<=i.2.1/\i.2.1<=9223372036854775807)/\(-9223372036854775808<=i.2.2.1/\i.2.2.1<=9223372036854775807)/\(-9223372036854775808<=i.2.2.2.1/\i.2.2.2.1<=9223372036854775807),args:=λ i=>[DA.agg [cI i.1,cI i.2.1,cI i.2.2.1,cI i.2.2.2.1],.one (DC.sl 25 [.sl 24 [.int,.int]] (AM i.2.2.2.2))],res:=λ i=>⟨false,[none],[.view 40 [.bool,.sl 3 [.int],.sl 3 [.int]] (AG (Bp [] (evF (Fr.ofInt i.1) (Fr.ofInt i.2.2.1) (cA i.2.2.2.2 i.2.2.2.2.length++cE (edA i.2.2.2.2) i.2.1 i.2.2.2.1 (edA i.2.2.2.2).length)++[Fr.ofInt i.1,Fr.ofInt i.2.2.1])))]⟩ }
set_option maxHeartbeats 1600000 in
theorem TS:Dz.Ok Tryz.prog 55:=by
 refine fok (X:=⟨tt,[(46,AU),(58,AJ),(101,EB),(102,I5),(103,CC),(65,BS)],[],97,[(100,⟨Tryz.f100.body.getD .skip,Tryz.f100.ntmps,Tryz.f100.results.toList⟩)]⟩) mixed AQ (CTok.cons EJ (CTok.cons FY (CTok.cons RN (CTok.cons Zs (CTok.cons Zt (CTok.cons IC (CTok.nil _))))))) (hil:=(InlOk.cons Tryz.func100 (by decide) rfl rfl rfl (InlOk.nil _))) Tryz.func55 (λ (i:Int×Int×Int×Int×(List (List V2)))=>let Z5:=edA i.2.2.2.2;let Z4:=AM i.2.2.2.2;let Z3:=Fr.ofInt i.1;let Z11:=L Z3.z.natAbs;let Z7:=decide (Z3.z<0);let Z2:=A5 Z5;let Z1:=Fr.ofInt i.2.2.1;let Z12:=L Z1.z.natAbs;let Z8:=decide (Z1.z<0);[(15,.mk 11 (Nat) (λ x8=>{ tm:=[(2,tP 1 0),(5,tP 2 0),(6,tP 5 0),(7,tP 8 0),(8,.one (.one (.clo 100 [2,5,8]))),(49,tX 10),(51,tI (nI x8)),(13,tX 10),(50,tI (nI (Z2.length)))],en:=[(1,.box [kI i.1,kI i.2.1,kI i.2.2.1,kI i.2.2.2.1]),(2,.box [kB Z7,.ext 3,.ext 4]),(5,.box [kB Z8,.ext 6,.ext 7]),(8,.box [.ext 9]),(3,.own 3 [.int] Z11),(4,.own 3 [.int] (L Z3.d)),(6,.own 3 [.int] Z12),(7,.own 3 [.int] (L Z1.d)),(9,.own 40 z39 (AG (evF Z3 Z1 (cA i.2.2.2.2 i.2.2.2.2.length++cE Z5 i.2.1 i.2.2.2.1 x8)))),(10,.own 118 XW Z2)] }) (λ x8=>x8<=Z5.length) (λ x8=>Z5.length-x8) (λ x8=>let Z6:=Z2.getD x8 [];[(18,.mk 13 (Nat) (λ x9=>{ tm:=[(2,tP 1 0),(5,tP 2 0),(6,tP 5 0),(7,tP 8 0),(8,.one (.one (.clo 100 [2,5,8]))),(15,tP 10 0),(49,tX 11),(51,tI (nI x8)),(60,tI (nI x9)),(13,tX 11),(50,tI (nI (Z2.length))),(58,tX 12),(59,tI (nI ((Z2.take x8).length)))],en:=[(1,.box [kI i.1,kI i.2.1,kI i.2.2.1,kI i.2.2.2.1]),(2,.box [kB Z7,.ext 3,.ext 4]),(5,.box [kB Z8,.ext 6,.ext 7]),(8,.box [.ext 9]),(10,.box [kI (((Z6.getD 0 (.int 0))).n),kI (((Z6.getD 1 (.int 0))).n),kI (((Z6.getD 2 (.int 0))).n),kI (((Z6.getD 3 (.int 0))).n),kI (((Z6.getD 4 (.int 0))).n),kB (((Z6.getD 5 (.int 0))).b)]),(3,.own 3 [.int] Z11),(4,.own 3 [.int] (L Z3.d)),(6,.own 3 [.int] Z12),(7,.own 3 [.int] (L Z1.d)),(9,.own 40 z39 (AG (evF Z3 Z1 (cA i.2.2.2.2 i.2.2.2.2.length++(cE Z5 i.2.1 i.2.2.2.1 x8++cC Z5 x8 x9))))),(11,.own 118 XW Z2),(12,.view 118 XW (Z2.take x8) [11])] }) (λ x9=>x9<=x8) (λ x9=>x8-x9) (λ _=>[]))])),(5,.mk 11 (Nat) (λ x1=>{ tm:=[(1,tX 1),(2,tP 2 0),(5,tP 3 0),(6,tP 6 0),(7,tP 9 0),(8,.one (.one (.clo 100 [3,6,9]))),(28,tX 1),(29,tI (nI (Z4.length))),(30,tI (nI x1))],en:=[(2,.box [kI i.1,kI i.2.1,kI i.2.2.1,kI i.2.2.2.1]),(3,.box [kB Z7,.ext 4,.ext 5]),(6,.box [kB Z8,.ext 7,.ext 8]),(9,.box [.ext 10]),(1,.view 25 [.sl 24 [.int,.int]] Z4 []),(4,.own 3 [.int] Z11),(5,.own 3 [.int] (L Z3.d)),(7,.own 3 [.int] Z12),(8,.own 3 [.int] (L Z1.d)),(10,.own 40 z39 (AG (evF Z3 Z1 (cA i.2.2.2.2 x1))))] }) (λ x1=>x1<=i.2.2.2.2.length) (λ x1=>i.2.2.2.2.length-x1) (λ x1=>let Z10:=(((Z4.getD x1 []).getD 0 (.int 0))).r;let Z9:=i.2.2.2.2.getD x1 [];[(8,.mk 12 (Nat) (λ x2=>{ tm:=[(1,tX 1),(2,tP 2 0),(5,tP 3 0),(6,tP 6 0),(7,tP 9 0),(8,.one (.one (.clo 100 [3,6,9]))),(28,tX 1),(29,tI (nI (Z4.length))),(30,tI (nI x1)),(34,tX 11),(35,tI (nI (Z10.length))),(36,tI (nI x2))],en:=[(2,.box [kI i.1,kI i.2.1,kI i.2.2.1,kI i.2.2.2.1]),(3,.box [kB Z7,.ext 4,.ext 5]),(6,.box [kB Z8,.ext 7,.ext 8]),(9,.box [.ext 10]),(1,.view 25 [.sl 24 [.int,.int]] Z4 []),(4,.own 3 [.int] Z11),(5,.own 3 [.int] (L Z3.d)),(7,.own 3 [.int] Z12),(8,.own 3 [.int] (L Z1.d)),(10,.own 40 z39 (AG (evF Z3 Z1 (cA i.2.2.2.2 x1++cV Z9 x2)))),(11,.view 24 [.int,.int] Z10 [])] }) (λ x2=>x2<=Z9.length) (λ x2=>Z9.length-x2) (λ _=>[]))]))]) ?_
 rintro ⟨lx,ly,hx,hy,ls⟩ hpre
 have hpre:TN ls/\(-9223372036854775808<=lx/\lx<=9223372036854775807)/\(-9223372036854775808<=ly/\ly<=9223372036854775807)/\(-9223372036854775808<=hx/\hx<=9223372036854775807)/\(-9223372036854775808<=hy/\hy<=9223372036854775807):=hpre
 refine AP (q:=let Z31:=AM ls;let Z30:=List Dat;let Z22:=vI (nI (Z31.length));let Z5:=A5 (edA ls);let Z44:=nI (Z5.length);let Z10:=vI Z44;let Z4:=Fr.ofInt hx;let Z39:=decide (Z4.z<0);let Z12:=L Z4.z.natAbs;let Z9:=vB Z39;let Z3:=Fr.ofInt lx;let Z40:=decide (Z3.z<0);let Z11:=L Z3.z.natAbs;let Z8:=vB Z40;∃ i1:Int,[DA.one (cI lx)]=AU.args i1/\AU.pre i1/\(∃ i2:Int,[DA.one (cI hx)]=AU.args i2/\AU.pre i2/\((∃ x1:Nat,(x1<=ls.length)/\((rf (100))/\(rf Z22)/\(vI (0:Int)=vI (nI x1))/\(rf (vI lx))/\(rf (vI ly))/\(rf (vI hx))/\(rf (vI hy))/\(vB (decide ((Fr.ofInt i1).z<0))=vB Z40)/\(vB (decide ((Fr.ofInt i2).z<0))=vB Z39)/\(rf Z31)/\(L (Fr.ofInt i1).z.natAbs=Z11)/\(L (Fr.ofInt i1).d=(L Z3.d))/\(L (Fr.ofInt i2).z.natAbs=Z12)/\(L (Fr.ofInt i2).d=(L Z4.d))/\(([]:List Z30)=(AG (evF Z3 Z4 (cA ls x1))))))/\∀ x1:Nat,let Z43:=AG (evF Z3 Z4 (cA ls x1));let Z41:=vI (nI x1);let Z14:=ls.getD x1 [];let Z7:=(((Z31.getD x1 []).getD 0 (.int 0))).r;let Z34:=vI (nI (Z7.length));(x1<=ls.length)->(ifB ((decide ((nI x1)<(nI (Z31.length))))) ((0<=(nI x1)/\(nI x1)<(Z31.length:Int))/\((x1<Z31.length)/\((∃ x2:Nat,(x2<=Z14.length)/\((rf (100))/\(rf Z22)/\(rf Z41)/\(rf Z34)/\(vI (0:Int)=vI (nI x2))/\(rf (vI lx))/\(rf (vI ly))/\(rf (vI hx))/\(rf (vI hy))/\(rf Z8)/\(rf Z9)/\(rf Z31)/\(rf Z11)/\(rf (L Z3.d))/\(rf Z12)/\(rf (L Z4.d))/\(Z43=(AG (evF Z3 Z4 (cA ls x1++cV Z14 x2))))/\(rf Z7)))/\∀ x2:Nat,let Z35:=wR ((nI x2)+(1:Int));let Z21:=AG (evF Z3 Z4 (cA ls x1++cV Z14 x2));(x2<=Z14.length)->(ifB ((decide ((nI x2)<(nI (Z7.length))))) ((0<=(nI x2)/\(nI x2)<(Z7.length:Int))/\((x2<Z7.length)/\(∃ i3:Int,let Z37:=Fr.ofInt i3;[DA.one (cI ((((Z7.getD x2 []).getD 0 (.int 0))).n))]=AU.args i3/\AU.pre i3/\(ifB (true) (∃ i4:Fr×Fr,[dF Z37,dF Z3]=AJ.args i4/\AJ.pre i4/\(ifB ((decide ((Fr.cmp i4.1 i4.2)>(0:Int)))) (∃ i5:Fr×Fr,[dF Z37,dF Z4]=AJ.args i5/\AJ.pre i5/\(ifB ((decide ((Fr.cmp i5.1 i5.2)<(0:Int)))) ((Z21.length+([[Dat.bool (decide (Z37.z<0)),Dat.sl (L Z37.z.natAbs),Dat.sl (L Z37.d)]]:List Z30).length<=2199023255552)/\(∃ y3:Nat,(y3<=Z14.length)/\(Z14.length-y3<Z14.length-x2)/\((rf (100))/\(rf Z22)/\(rf Z41)/\(rf Z34)/\(vI Z35=vI (nI y3))/\(rf (vI lx))/\(rf (vI ly))/\(rf (vI hx))/\(rf (vI hy))/\(rf Z8)/\(rf Z9)/\(rf Z31)/\(rf Z11)/\(rf (L Z3.d))/\(rf Z12)/\(rf (L Z4.d))/\((Z21++([[Dat.bool (decide (Z37.z<0)),Dat.sl (L Z37.z.natAbs),Dat.sl (L Z37.d)]]:List Z30))=(AG (evF Z3 Z4 (cA ls x1++cV Z14 y3))))/\(rf Z7)))) (∃ y4:Nat,(y4<=Z14.length)/\(Z14.length-y4<Z14.length-x2)/\((rf (100))/\(rf Z22)/\(rf Z41)/\(rf Z34)/\(vI Z35=vI (nI y4))/\(rf (vI lx))/\(rf (vI ly))/\(rf (vI hx))/\(rf (vI hy))/\(rf Z8)/\(rf Z9)/\(rf Z31)/\(rf Z11)/\(rf (L Z3.d))/\(rf Z12)/\(rf (L Z4.d))/\(Z21=(AG (evF Z3 Z4 (cA ls x1++cV Z14 y4))))/\(rf Z7))))) (∃ y5:Nat,(y5<=Z14.length)/\(Z14.length-y5<Z14.length-x2)/\((rf (100))/\(rf Z22)/\(rf Z41)/\(rf Z34)/\(vI Z35=vI (nI y5))/\(rf (vI lx))/\(rf (vI ly))/\(rf (vI hx))/\(rf (vI hy))/\(rf Z8)/\(rf Z9)/\(rf Z31)/\(rf Z11)/\(rf (L Z3.d))/\(rf Z12)/\(rf (L Z4.d))/\(Z21=(AG (evF Z3 Z4 (cA ls x1++cV Z14 y5))))/\(rf Z7))))) (∃ y6:Nat,(y6<=Z14.length)/\(Z14.length-y6<Z14.length-x2)/\((rf (100))/\(rf Z22)/\(rf Z41)/\(rf Z34)/\(vI Z35=vI (nI y6))/\(rf (vI lx))/\(rf (vI ly))/\(rf (vI hx))/\(rf (vI hy))/\(rf Z8)/\(rf Z9)/\(rf Z31)/\(rf Z11)/\(rf (L Z3.d))/\(rf Z12)/\(rf (L Z4.d))/\(Z21=(AG (evF Z3 Z4 (cA ls x1++cV Z14 y6))))/\(rf Z7))))))) (∃ y7:Nat,(y7<=ls.length)/\(ls.length-y7<ls.length-x1)/\((rf (100))/\(rf Z22)/\(vI (wR ((nI x1)+(1:Int)))=vI (nI y7))/\(rf (vI lx))/\(rf (vI ly))/\(rf (vI hx))/\(rf (vI hy))/\(rf Z8)/\(rf Z9)/\(rf Z31)/\(rf Z11)/\(rf (L Z3.d))/\(rf Z12)/\(rf (L Z4.d))/\(Z21=(AG (evF Z3 Z4 (cA ls y7)))))))))) (∃ i6:(List (List V2)),[DA.one (DC.sl 25 [.sl 24 [.int,.int]] Z31)]=EB.args i6/\EB.pre i6/\((∃ x8:Nat,(x8<=(edA ls).length)/\((rf (100))/\(vI (0:Int)=vI (nI x8))/\(vI (nI ((A5 (edA i6)).length))=vI Z44)/\(rf (vI lx))/\(rf (vI ly))/\(rf (vI hx))/\(rf (vI hy))/\(rf Z8)/\(rf Z9)/\(rf Z11)/\(rf (L Z3.d))/\(rf Z12)/\(rf (L Z4.d))/\(Z43=(AG (evF Z3 Z4 (cA ls ls.length++cE (edA ls) ly hy x8))))/\(A5 (edA i6)=Z5)))/\∀ x8:Nat,let Z42:=vI (nI x8);let Z24:=AG (evF Z3 Z4 (cA ls ls.length++cE (edA ls) ly hy x8));let Z23:=Z5.take x8;let Z33:=vI (nI (Z23.length));let Z13:=wR ((nI x8)+(1:Int));let Z2:=Z5.getD x8 [];let Z20:=((Z2.getD 5 (.int 0))).b;let Z19:=((Z2.getD 4 (.int 0))).n;let Z18:=((Z2.getD 3 (.int 0))).n;let Z17:=((Z2.getD 2 (.int 0))).n;let Z16:=((Z2.getD 1 (.int 0))).n;let Z15:=((Z2.getD 0 (.int 0))).n;(x8<=(edA ls).length)->(ifB ((decide ((nI x8)<Z44))) ((0<=(nI x8)/\(nI x8)<(Z5.length:Int))/\((x8<Z5.length)/\((Nat.beq 6 6=true)/\((0<=(0:Int))/\(((0:Int)<=(nI x8))/\(((nI x8)<=(Z5.length:Int))/\((∃ x9:Nat,(x9<=x8)/\((rf (100))/\(rf Z42)/\(vI (0:Int)=vI (nI x9))/\(rf Z10)/\(rf Z33)/\(rf (vI lx))/\(rf (vI ly))/\(rf (vI hx))/\(rf (vI hy))/\(rf Z8)/\(rf Z9)/\(vI ((Z2.getD 0 (.int 0))).n=vI Z15)/\(vI ((Z2.getD 1 (.int 0))).n=vI Z16)/\(vI ((Z2.getD 2 (.int 0))).n=vI Z17)/\(vI ((Z2.getD 3 (.int 0))).n=vI Z18)/\(vI ((Z2.getD 4 (.int 0))).n=vI Z19)/\(rf (vB Z20))/\(rf Z11)/\(rf (L Z3.d))/\(rf Z12)/\(rf (L Z4.d))/\(Z24=(AG (evF Z3 Z4 (cA ls ls.length++(cE (edA ls) ly hy x8++cC (edA ls) x8 x9)))))/\(rf Z5)/\(rf Z23)))/\∀ x9:Nat,let Z38:=Z23.getD x9 [];let Z36:=wR ((nI x9)+(1:Int));let Z1:=AG (evF Z3 Z4 (cA ls ls.length++(cE (edA ls) ly hy x8++cC (edA ls) x8 x9)));(x9<=x8)->(ifB ((decide ((nI x9)<(nI (Z23.length))))) ((0<=(nI x9)/\(nI x9)<(Z23.length:Int))/\((x9<Z23.length)/\(∃ i7:Edg×Edg,let Z32:=Ef i7.1 i7.2;[DA.agg [cI Z15,cI Z16,cI Z17,cI Z18,cI Z19,cB Z20],DA.agg [cI (((Z38.getD 0 (.int 0))).n),cI (((Z38.getD 1 (.int 0))).n),cI (((Z38.getD 2 (.int 0))).n),cI (((Z38.getD 3 (.int 0))).n),cI (((Z38.getD 4 (.int 0))).n),cB (((Z38.getD 5 (.int 0))).b)]]=I5.args i7/\I5.pre i7/\(ifB ((FG i7.1 i7.2)) (∃ i8:Fr×Fr,[dF Z32,dF Z3]=AJ.args i8/\AJ.pre i8/\(ifB ((decide ((Fr.cmp i8.1 i8.2)>(0:Int)))) (∃ i9:Fr×Fr,[dF Z32,dF Z4]=AJ.args i9/\AJ.pre i9/\(ifB ((decide ((Fr.cmp i9.1 i9.2)<(0:Int)))) ((Z1.length+([[Dat.bool (decide (Z32.z<0)),Dat.sl (L Z32.z.natAbs),Dat.sl (L Z32.d)]]:List Z30).length<=2199023255552)/\(∃ y10:Nat,(y10<=x8)/\(x8-y10<x8-x9)/\((rf (100))/\(rf Z42)/\(vI Z36=vI (nI y10))/\(rf Z10)/\(rf Z33)/\(rf (vI lx))/\(rf (vI ly))/\(rf (vI hx))/\(rf (vI hy))/\(rf Z8)/\(rf Z9)/\(rf (vI Z15))/\(rf (vI Z16))/\(rf (vI Z17))/\(rf (vI Z18))/\(rf (vI Z19))/\(rf (vB Z20))/\(rf Z11)/\(rf (L Z3.d))/\(rf Z12)/\(rf (L Z4.d))/\((Z1++([[Dat.bool (decide (Z32.z<0)),Dat.sl (L Z32.z.natAbs),Dat.sl (L Z32.d)]]:List Z30))=(AG (evF Z3 Z4 (cA ls ls.length++(cE (edA ls) ly hy x8++cC (edA ls) x8 y10)))))/\(rf Z5)/\(rf Z23)))) (∃ y11:Nat,(y11<=x8)/\(x8-y11<x8-x9)/\((rf (100))/\(rf Z42)/\(vI Z36=vI (nI y11))/\(rf Z10)/\(rf Z33)/\(rf (vI lx))/\(rf (vI ly))/\(rf (vI hx))/\(rf (vI hy))/\(rf Z8)/\(rf Z9)/\(rf (vI Z15))/\(rf (vI Z16))/\(rf (vI Z17))/\(rf (vI Z18))/\(rf (vI Z19))/\(rf (vB Z20))/\(rf Z11)/\(rf (L Z3.d))/\(rf Z12)/\(rf (L Z4.d))/\(Z1=(AG (evF Z3 Z4 (cA ls ls.length++(cE (edA ls) ly hy x8++cC (edA ls) x8 y11)))))/\(rf Z5)/\(rf Z23))))) (∃ y12:Nat,(y12<=x8)/\(x8-y12<x8-x9)/\((rf (100))/\(rf Z42)/\(vI Z36=vI (nI y12))/\(rf Z10)/\(rf Z33)/\(rf (vI lx))/\(rf (vI ly))/\(rf (vI hx))/\(rf (vI hy))/\(rf Z8)/\(rf Z9)/\(rf (vI Z15))/\(rf (vI Z16))/\(rf (vI Z17))/\(rf (vI Z18))/\(rf (vI Z19))/\(rf (vB Z20))/\(rf Z11)/\(rf (L Z3.d))/\(rf Z12)/\(rf (L Z4.d))/\(Z1=(AG (evF Z3 Z4 (cA ls ls.length++(cE (edA ls) ly hy x8++cC (edA ls) x8 y12)))))/\(rf Z5)/\(rf Z23))))) (∃ y13:Nat,(y13<=x8)/\(x8-y13<x8-x9)/\((rf (100))/\(rf Z42)/\(vI Z36=vI (nI y13))/\(rf Z10)/\(rf Z33)/\(rf (vI lx))/\(rf (vI ly))/\(rf (vI hx))/\(rf (vI hy))/\(rf Z8)/\(rf Z9)/\(rf (vI Z15))/\(rf (vI Z16))/\(rf (vI Z17))/\(rf (vI Z18))/\(rf (vI Z19))/\(rf (vB Z20))/\(rf Z11)/\(rf (L Z3.d))/\(rf Z12)/\(rf (L Z4.d))/\(Z1=(AG (evF Z3 Z4 (cA ls ls.length++(cE (edA ls) ly hy x8++cC (edA ls) x8 y13)))))/\(rf Z5)/\(rf Z23))))))) (∃ i10:Edg×Int,let Z25:=As i10.1 i10.2;let Z6:=Z1++([[Dat.bool (decide (Z25.z<0)),Dat.sl (L Z25.z.natAbs),Dat.sl (L Z25.d)]]:List Z30);[DA.agg [cI Z15,cI Z16,cI Z17,cI Z18,cI Z19,cB Z20],DA.one (cI ly)]=CC.args i10/\CC.pre i10/\(ifB ((CL i10.1 i10.2)) (∃ i11:Fr×Fr,[dF Z25,dF Z3]=AJ.args i11/\AJ.pre i11/\(ifB ((decide ((Fr.cmp i11.1 i11.2)>(0:Int)))) (∃ i12:Fr×Fr,[dF Z25,dF Z4]=AJ.args i12/\AJ.pre i12/\(ifB ((decide ((Fr.cmp i12.1 i12.2)<(0:Int)))) ((Z1.length+([[Dat.bool (decide (Z25.z<0)),Dat.sl (L Z25.z.natAbs),Dat.sl (L Z25.d)]]:List Z30).length<=2199023255552)/\(∃ i13:Edg×Int,let Z26:=As i13.1 i13.2;[DA.agg [cI Z15,cI Z16,cI Z17,cI Z18,cI Z19,cB Z20],DA.one (cI hy)]=CC.args i13/\CC.pre i13/\(ifB ((CL i13.1 i13.2)) (∃ i14:Fr×Fr,[dF Z26,dF Z3]=AJ.args i14/\AJ.pre i14/\(ifB ((decide ((Fr.cmp i14.1 i14.2)>(0:Int)))) (∃ i15:Fr×Fr,[dF Z26,dF Z4]=AJ.args i15/\AJ.pre i15/\(ifB ((decide ((Fr.cmp i15.1 i15.2)<(0:Int)))) ((Z6.length+([[Dat.bool (decide (Z26.z<0)),Dat.sl (L Z26.z.natAbs),Dat.sl (L Z26.d)]]:List Z30).length<=2199023255552)/\(∃ y14:Nat,(y14<=(edA ls).length)/\((edA ls).length-y14<(edA ls).length-x8)/\((rf (100))/\(vI Z13=vI (nI y14))/\(rf Z10)/\(rf (vI lx))/\(rf (vI ly))/\(rf (vI hx))/\(rf (vI hy))/\(rf Z8)/\(rf Z9)/\(rf Z11)/\(rf (L Z3.d))/\(rf Z12)/\(rf (L Z4.d))/\((Z6++([[Dat.bool (decide (Z26.z<0)),Dat.sl (L Z26.z.natAbs),Dat.sl (L Z26.d)]]:List Z30))=(AG (evF Z3 Z4 (cA ls ls.length++cE (edA ls) ly hy y14))))/\(rf Z5)))) (∃ y15:Nat,(y15<=(edA ls).length)/\((edA ls).length-y15<(edA ls).length-x8)/\((rf (100))/\(vI Z13=vI (nI y15))/\(rf Z10)/\(rf (vI lx))/\(rf (vI ly))/\(rf (vI hx))/\(rf (vI hy))/\(rf Z8)/\(rf Z9)/\(rf Z11)/\(rf (L Z3.d))/\(rf Z12)/\(rf (L Z4.d))/\(Z6=(AG (evF Z3 Z4 (cA ls ls.length++cE (edA ls) ly hy y15))))/\(rf Z5))))) (∃ y16:Nat,(y16<=(edA ls).length)/\((edA ls).length-y16<(edA ls).length-x8)/\((rf (100))/\(vI Z13=vI (nI y16))/\(rf Z10)/\(rf (vI lx))/\(rf (vI ly))/\(rf (vI hx))/\(rf (vI hy))/\(rf Z8)/\(rf Z9)/\(rf Z11)/\(rf (L Z3.d))/\(rf Z12)/\(rf (L Z4.d))/\(Z6=(AG (evF Z3 Z4 (cA ls ls.length++cE (edA ls) ly hy y16))))/\(rf Z5))))) (∃ y17:Nat,(y17<=(edA ls).length)/\((edA ls).length-y17<(edA ls).length-x8)/\((rf (100))/\(vI Z13=vI (nI y17))/\(rf Z10)/\(rf (vI lx))/\(rf (vI ly))/\(rf (vI hx))/\(rf (vI hy))/\(rf Z8)/\(rf Z9)/\(rf Z11)/\(rf (L Z3.d))/\(rf Z12)/\(rf (L Z4.d))/\(Z6=(AG (evF Z3 Z4 (cA ls ls.length++cE (edA ls) ly hy y17))))/\(rf Z5)))))) (∃ i16:Edg×Int,let Z27:=As i16.1 i16.2;[DA.agg [cI Z15,cI Z16,cI Z17,cI Z18,cI Z19,cB Z20],DA.one (cI hy)]=CC.args i16/\CC.pre i16/\(ifB ((CL i16.1 i16.2)) (∃ i17:Fr×Fr,[dF Z27,dF Z3]=AJ.args i17/\AJ.pre i17/\(ifB ((decide ((Fr.cmp i17.1 i17.2)>(0:Int)))) (∃ i18:Fr×Fr,[dF Z27,dF Z4]=AJ.args i18/\AJ.pre i18/\(ifB ((decide ((Fr.cmp i18.1 i18.2)<(0:Int)))) ((Z1.length+([[Dat.bool (decide (Z27.z<0)),Dat.sl (L Z27.z.natAbs),Dat.sl (L Z27.d)]]:List Z30).length<=2199023255552)/\(∃ y18:Nat,(y18<=(edA ls).length)/\((edA ls).length-y18<(edA ls).length-x8)/\((rf (100))/\(vI Z13=vI (nI y18))/\(rf Z10)/\(rf (vI lx))/\(rf (vI ly))/\(rf (vI hx))/\(rf (vI hy))/\(rf Z8)/\(rf Z9)/\(rf Z11)/\(rf (L Z3.d))/\(rf Z12)/\(rf (L Z4.d))/\((Z1++([[Dat.bool (decide (Z27.z<0)),Dat.sl (L Z27.z.natAbs),Dat.sl (L Z27.d)]]:List Z30))=(AG (evF Z3 Z4 (cA ls ls.length++cE (edA ls) ly hy y18))))/\(rf Z5)))) (∃ y19:Nat,(y19<=(edA ls).length)/\((edA ls).length-y19<(edA ls).length-x8)/\((rf (100))/\(vI Z13=vI (nI y19))/\(rf Z10)/\(rf (vI lx))/\(rf (vI ly))/\(rf (vI hx))/\(rf (vI hy))/\(rf Z8)/\(rf Z9)/\(rf Z11)/\(rf (L Z3.d))/\(rf Z12)/\(rf (L Z4.d))/\(Z1=(AG (evF Z3 Z4 (cA ls ls.length++cE (edA ls) ly hy y19))))/\(rf Z5))))) (∃ y20:Nat,(y20<=(edA ls).length)/\((edA ls).length-y20<(edA ls).length-x8)/\((rf (100))/\(vI Z13=vI (nI y20))/\(rf Z10)/\(rf (vI lx))/\(rf (vI ly))/\(rf (vI hx))/\(rf (vI hy))/\(rf Z8)/\(rf Z9)/\(rf Z11)/\(rf (L Z3.d))/\(rf Z12)/\(rf (L Z4.d))/\(Z1=(AG (evF Z3 Z4 (cA ls ls.length++cE (edA ls) ly hy y20))))/\(rf Z5))))) (∃ y21:Nat,(y21<=(edA ls).length)/\((edA ls).length-y21<(edA ls).length-x8)/\((rf (100))/\(vI Z13=vI (nI y21))/\(rf Z10)/\(rf (vI lx))/\(rf (vI ly))/\(rf (vI hx))/\(rf (vI hy))/\(rf Z8)/\(rf Z9)/\(rf Z11)/\(rf (L Z3.d))/\(rf Z12)/\(rf (L Z4.d))/\(Z1=(AG (evF Z3 Z4 (cA ls ls.length++cE (edA ls) ly hy y21))))/\(rf Z5))))))) (∃ i19:Edg×Int,let Z28:=As i19.1 i19.2;[DA.agg [cI Z15,cI Z16,cI Z17,cI Z18,cI Z19,cB Z20],DA.one (cI hy)]=CC.args i19/\CC.pre i19/\(ifB ((CL i19.1 i19.2)) (∃ i20:Fr×Fr,[dF Z28,dF Z3]=AJ.args i20/\AJ.pre i20/\(ifB ((decide ((Fr.cmp i20.1 i20.2)>(0:Int)))) (∃ i21:Fr×Fr,[dF Z28,dF Z4]=AJ.args i21/\AJ.pre i21/\(ifB ((decide ((Fr.cmp i21.1 i21.2)<(0:Int)))) ((Z1.length+([[Dat.bool (decide (Z28.z<0)),Dat.sl (L Z28.z.natAbs),Dat.sl (L Z28.d)]]:List Z30).length<=2199023255552)/\(∃ y22:Nat,(y22<=(edA ls).length)/\((edA ls).length-y22<(edA ls).length-x8)/\((rf (100))/\(vI Z13=vI (nI y22))/\(rf Z10)/\(rf (vI lx))/\(rf (vI ly))/\(rf (vI hx))/\(rf (vI hy))/\(rf Z8)/\(rf Z9)/\(rf Z11)/\(rf (L Z3.d))/\(rf Z12)/\(rf (L Z4.d))/\((Z1++([[Dat.bool (decide (Z28.z<0)),Dat.sl (L Z28.z.natAbs),Dat.sl (L Z28.d)]]:List Z30))=(AG (evF Z3 Z4 (cA ls ls.length++cE (edA ls) ly hy y22))))/\(rf Z5)))) (∃ y23:Nat,(y23<=(edA ls).length)/\((edA ls).length-y23<(edA ls).length-x8)/\((rf (100))/\(vI Z13=vI (nI y23))/\(rf Z10)/\(rf (vI lx))/\(rf (vI ly))/\(rf (vI hx))/\(rf (vI hy))/\(rf Z8)/\(rf Z9)/\(rf Z11)/\(rf (L Z3.d))/\(rf Z12)/\(rf (L Z4.d))/\(Z1=(AG (evF Z3 Z4 (cA ls ls.length++cE (edA ls) ly hy y23))))/\(rf Z5))))) (∃ y24:Nat,(y24<=(edA ls).length)/\((edA ls).length-y24<(edA ls).length-x8)/\((rf (100))/\(vI Z13=vI (nI y24))/\(rf Z10)/\(rf (vI lx))/\(rf (vI ly))/\(rf (vI hx))/\(rf (vI hy))/\(rf Z8)/\(rf Z9)/\(rf Z11)/\(rf (L Z3.d))/\(rf Z12)/\(rf (L Z4.d))/\(Z1=(AG (evF Z3 Z4 (cA ls ls.length++cE (edA ls) ly hy y24))))/\(rf Z5))))) (∃ y25:Nat,(y25<=(edA ls).length)/\((edA ls).length-y25<(edA ls).length-x8)/\((rf (100))/\(vI Z13=vI (nI y25))/\(rf Z10)/\(rf (vI lx))/\(rf (vI ly))/\(rf (vI hx))/\(rf (vI hy))/\(rf Z8)/\(rf Z9)/\(rf Z11)/\(rf (L Z3.d))/\(rf Z12)/\(rf (L Z4.d))/\(Z1=(AG (evF Z3 Z4 (cA ls ls.length++cE (edA ls) ly hy y25))))/\(rf Z5))))))) (∃ i22:Edg×Int,let Z29:=As i22.1 i22.2;[DA.agg [cI Z15,cI Z16,cI Z17,cI Z18,cI Z19,cB Z20],DA.one (cI hy)]=CC.args i22/\CC.pre i22/\(ifB ((CL i22.1 i22.2)) (∃ i23:Fr×Fr,[dF Z29,dF Z3]=AJ.args i23/\AJ.pre i23/\(ifB ((decide ((Fr.cmp i23.1 i23.2)>(0:Int)))) (∃ i24:Fr×Fr,[dF Z29,dF Z4]=AJ.args i24/\AJ.pre i24/\(ifB ((decide ((Fr.cmp i24.1 i24.2)<(0:Int)))) ((Z1.length+([[Dat.bool (decide (Z29.z<0)),Dat.sl (L Z29.z.natAbs),Dat.sl (L Z29.d)]]:List Z30).length<=2199023255552)/\(∃ y26:Nat,(y26<=(edA ls).length)/\((edA ls).length-y26<(edA ls).length-x8)/\((rf (100))/\(vI Z13=vI (nI y26))/\(rf Z10)/\(rf (vI lx))/\(rf (vI ly))/\(rf (vI hx))/\(rf (vI hy))/\(rf Z8)/\(rf Z9)/\(rf Z11)/\(rf (L Z3.d))/\(rf Z12)/\(rf (L Z4.d))/\((Z1++([[Dat.bool (decide (Z29.z<0)),Dat.sl (L Z29.z.natAbs),Dat.sl (L Z29.d)]]:List Z30))=(AG (evF Z3 Z4 (cA ls ls.length++cE (edA ls) ly hy y26))))/\(rf Z5)))) (∃ y27:Nat,(y27<=(edA ls).length)/\((edA ls).length-y27<(edA ls).length-x8)/\((rf (100))/\(vI Z13=vI (nI y27))/\(rf Z10)/\(rf (vI lx))/\(rf (vI ly))/\(rf (vI hx))/\(rf (vI hy))/\(rf Z8)/\(rf Z9)/\(rf Z11)/\(rf (L Z3.d))/\(rf Z12)/\(rf (L Z4.d))/\(Z1=(AG (evF Z3 Z4 (cA ls ls.length++cE (edA ls) ly hy y27))))/\(rf Z5))))) (∃ y28:Nat,(y28<=(edA ls).length)/\((edA ls).length-y28<(edA ls).length-x8)/\((rf (100))/\(vI Z13=vI (nI y28))/\(rf Z10)/\(rf (vI lx))/\(rf (vI ly))/\(rf (vI hx))/\(rf (vI hy))/\(rf Z8)/\(rf Z9)/\(rf Z11)/\(rf (L Z3.d))/\(rf Z12)/\(rf (L Z4.d))/\(Z1=(AG (evF Z3 Z4 (cA ls ls.length++cE (edA ls) ly hy y28))))/\(rf Z5))))) (∃ y29:Nat,(y29<=(edA ls).length)/\((edA ls).length-y29<(edA ls).length-x8)/\((rf (100))/\(vI Z13=vI (nI y29))/\(rf Z10)/\(rf (vI lx))/\(rf (vI ly))/\(rf (vI hx))/\(rf (vI hy))/\(rf Z8)/\(rf Z9)/\(rf Z11)/\(rf (L Z3.d))/\(rf Z12)/\(rf (L Z4.d))/\(Z1=(AG (evF Z3 Z4 (cA ls ls.length++cE (edA ls) ly hy y29))))/\(rf Z5))))))))))))))) ((Z24.length+([[Dat.bool Z40,Dat.sl Z11,Dat.sl (L Z3.d)],[Dat.bool Z39,Dat.sl Z12,Dat.sl (L Z4.d)]]:List Z30).length<=2199023255552)/\(∃ i25:(List Fr),[DA.one (DC.sl 40 z39 (Z24++([[Dat.bool Z40,Dat.sl Z11,Dat.sl (L Z3.d)],[Dat.bool Z39,Dat.sl Z12,Dat.sl (L Z4.d)]]:List Z30)))]=BS.args i25/\BS.pre i25/\((AG (Bp [] i25)=AG (Bp [] (evF Z3 Z4 (cA ls ls.length++cE (edA ls) ly hy (edA ls).length)++[Fr.ofInt lx,Fr.ofInt hx]))))))))))))) (by kernel_rfl) ?_
 conv=>zeta
 delta ifB vB vI wR nI
 have hal:=Ao ls
 have hed:=AA1 hpre.1
 have hb0:=hpre.1.2.1
 have hgl:=I8 (hpre.2.1)
 have hgh:=I8 (hpre.2.2.2.1)
 refine ⟨lx,by
  rfl,by
  show -9223372036854775808<=lx/\lx<=9223372036854775807
  first|trivial|exact hpre.2.1|exact hpre.2.2.2.1|exact ⟨hpre.1.1,hpre.1.2.1⟩|exact ⟨by omega,by omega⟩,?_⟩
 refine ⟨hx,by
  rfl,by
  show -9223372036854775808<=hx/\hx<=9223372036854775807
  first|trivial|exact hpre.2.1|exact hpre.2.2.2.1|exact ⟨hpre.1.1,hpre.1.2.1⟩|exact ⟨by omega,by omega⟩,?_⟩
 refine ⟨⟨0,by
  first|trivial|omega|(simp;omega),?_⟩,?_⟩
 ·refine ⟨rfl,rfl,?_,rfl,rfl,rfl,rfl,rfl,rfl,rfl,rfl,rfl,rfl,rfl,?_⟩
  ·first|rfl|(simp;done)
  first|rfl|(simp;done)
 intro (k:Nat) hki7
 have hki7:k<=ls.length:=hki7
 refine ⟨λ c24=>?_,λ c24=>?_⟩
 ·try simp only [nrm] at c24
  have hkl:k<ls.length:=by omega
  have hP:=Fb hpre.1.1 hkl
  have h16:=(CG hP).2.2
  have hV:=(CG hP).1
  refine ao (by first|rfl|omega|(rw [AL];omega)|(rw [Ae,AL,List.length_take];omega)|(rw [Aa hkl,AB];omega)|(have:=By hpre.1 (lo:=Fr.ofInt lx) (hi:=Fr.ofInt hx) (n:=n) hkl;simp only [List.length_cons,List.length_nil];omega)|(have:=(hbi n).1;simp only [List.length_append,List.length_cons,List.length_nil];omega)|(have:=hbi.2;simp only [List.length_append,List.length_cons,List.length_nil];omega)) λ o25=>?_
  refine ao (by first|rfl|omega|(rw [AL];omega)|(rw [Ae,AL,List.length_take];omega)|(rw [Aa hkl,AB];omega)|(have:=By hpre.1 (lo:=Fr.ofInt lx) (hi:=Fr.ofInt hx) (n:=n) hkl;simp only [List.length_cons,List.length_nil];omega)|(have:=(hbi n).1;simp only [List.length_append,List.length_cons,List.length_nil];omega)|(have:=hbi.2;simp only [List.length_append,List.length_cons,List.length_nil];omega)) λ o26=>?_
  refine ⟨⟨0,by
   first|trivial|omega|(simp;omega),?_⟩,?_⟩
  ·refine ⟨rfl,rfl,rfl,rfl,?_,rfl,rfl,rfl,rfl,rfl,rfl,rfl,rfl,rfl,rfl,rfl,?_,rfl⟩
   ·first|rfl|(simp;done)
   unfold cV;rw [List.take_zero];simp
  intro (n:Nat) hki27
  have hki27:n<=(ls.getD k []).length:=hki27
  refine And.symm ⟨λ c47=>?_,λ c47=>?_⟩
  ·try simp only [nrm] at c47
   rw [Aa hkl,AB] at c47
   have hne:n=(ls.getD k []).length:=by omega
   refine ⟨k+1,by
    first|trivial|omega|(simp;omega),by
    first|omega|(simp;omega),?_⟩
   refine ⟨rfl,rfl,?_,rfl,rfl,rfl,rfl,rfl,rfl,rfl,rfl,rfl,rfl,rfl,?_⟩
   ·first|rfl|exact AS (AC (by omega) (by omega))
   rw [Z0 hne]
  try simp only [nrm] at c47
  rw [Aa hkl,AB] at c47
  have hn:n<(ls.getD k []).length:=by omega
  have hvb:=Bs (A7 hV hn)
  refine ao (by first|rfl|omega|(rw [AL];omega)|(rw [Ae,AL,List.length_take];omega)|(rw [Aa hkl,AB];omega)|(have:=By hpre.1 (lo:=Fr.ofInt lx) (hi:=Fr.ofInt hx) (n:=n) hkl;simp only [List.length_cons,List.length_nil];omega)|(have:=(hbi n).1;simp only [List.length_append,List.length_cons,List.length_nil];omega)|(have:=hbi.2;simp only [List.length_append,List.length_cons,List.length_nil];omega)) λ o48=>?_
  refine ao (by first|rfl|omega|(rw [AL];omega)|(rw [Ae,AL,List.length_take];omega)|(rw [Aa hkl,AB];omega)|(have:=By hpre.1 (lo:=Fr.ofInt lx) (hi:=Fr.ofInt hx) (n:=n) hkl;simp only [List.length_cons,List.length_nil];omega)|(have:=(hbi n).1;simp only [List.length_append,List.length_cons,List.length_nil];omega)|(have:=hbi.2;simp only [List.length_append,List.length_cons,List.length_nil];omega)) λ o49=>?_
  refine ⟨((ls.getD k []).getD n (0,0)).1,by
   rw [Aa hkl,Aj hn];rfl,by
   show -9223372036854775808<=(((ls.getD k []).getD n (0,0)).1)/\(((ls.getD k []).getD n (0,0)).1)<=9223372036854775807
   first|trivial|exact hpre.2.1|exact hpre.2.2.2.1|exact ⟨hpre.1.1,hpre.1.2.1⟩|exact ⟨by omega,by omega⟩,?_⟩
  refine And.symm ⟨λ c53=>?_,λ c53=>?_⟩
  ·try simp only [nrm] at c53
   cases c53 -- done
  try simp only [nrm] at c53
  refine ⟨((Fr.ofInt (((ls.getD k []).getD n (0,0)).1)),(Fr.ofInt lx)),by
   rfl,by
   first|trivial|exact hpre.2.1|exact hpre.2.2.2.1|exact ⟨hpre.1.1,hpre.1.2.1⟩|exact ⟨by omega,by omega⟩,?_⟩
  refine And.symm ⟨λ c57=>?_,λ c57=>?_⟩
  ·try simp only [nrm] at c57
   have q:=IS (hi:=Fr.ofInt hx) (b:=true) c57
   refine ⟨n+1,by
    first|trivial|omega|(simp;omega),by
    first|omega|(simp;omega),?_⟩
   refine ⟨rfl,rfl,rfl,rfl,?_,rfl,rfl,rfl,rfl,rfl,rfl,rfl,rfl,rfl,rfl,rfl,?_,rfl⟩
   ·first|rfl|exact AS (AC (by omega) (by omega))
   exact I7 (PP hn _) q
  try simp only [nrm] at c57
  refine ⟨((Fr.ofInt (((ls.getD k []).getD n (0,0)).1)),(Fr.ofInt hx)),by
   rfl,by
   first|trivial|exact hpre.2.1|exact hpre.2.2.2.1|exact ⟨hpre.1.1,hpre.1.2.1⟩|exact ⟨by omega,by omega⟩,?_⟩
  refine And.symm ⟨λ c61=>?_,λ c61=>?_⟩
  ·try simp only [nrm] at c61
   have q:=IT (lo:=Fr.ofInt lx) (b:=true) c61
   refine ⟨n+1,by
    first|trivial|omega|(simp;omega),by
    first|omega|(simp;omega),?_⟩
   refine ⟨rfl,rfl,rfl,rfl,?_,rfl,rfl,rfl,rfl,rfl,rfl,rfl,rfl,rfl,rfl,rfl,?_,rfl⟩
   ·first|rfl|exact AS (AC (by omega) (by omega))
   exact I7 (PP hn _) q
  try simp only [nrm] at c61
  have q:=Mg (b:=true) rfl c57 c61
  refine ao (by first|rfl|omega|(rw [AL];omega)|(rw [Ae,AL,List.length_take];omega)|(rw [Aa hkl,AB];omega)|(have:=By hpre.1 (lo:=Fr.ofInt lx) (hi:=Fr.ofInt hx) (n:=n) hkl;simp only [List.length_cons,List.length_nil];omega)|(have:=(hbi n).1;simp only [List.length_append,List.length_cons,List.length_nil];omega)|(have:=hbi.2;simp only [List.length_append,List.length_cons,List.length_nil];omega)) λ o62=>?_
  refine ⟨n+1,by
   first|trivial|omega|(simp;omega),by
   first|omega|(simp;omega),?_⟩
  refine ⟨rfl,rfl,rfl,rfl,?_,rfl,rfl,rfl,rfl,rfl,rfl,rfl,rfl,rfl,rfl,rfl,?_,rfl⟩
  ·first|rfl|exact AS (AC (by omega) (by omega))
  exact KC (PP hn _) q
 try simp only [nrm] at c24
 have hke:k=ls.length:=by omega
 refine ⟨ls,by
  rfl,by
  show BU ls=true/\ls.length<=1048576
  first|trivial|exact hpre.2.1|exact hpre.2.2.2.1|exact ⟨hpre.1.1,hpre.1.2.1⟩|exact ⟨by omega,by omega⟩,?_⟩
 refine ⟨⟨0,by
  first|trivial|omega|(simp;omega),?_⟩,?_⟩
 ·refine ⟨rfl,?_,rfl,rfl,rfl,rfl,rfl,rfl,rfl,rfl,rfl,rfl,rfl,?_,rfl⟩
  ·first|rfl|(simp;done)
  rw [hke];simp [cE]
 intro (i:Nat) hki168
 have hki168:i<=(edA ls).length:=hki168
 refine And.symm ⟨λ c185=>?_,λ c185=>?_⟩
 ·try simp only [nrm] at c185
  rw [AL] at c185
  have hie:i=(edA ls).length:=by omega
  have hbi:=PR hpre.1 (lo:=Fr.ofInt lx) (hi:=Fr.ofInt hx) (ly:=ly) (hy:=hy) (show i<=(edA ls).length by omega) 0
  refine ao (by first|rfl|omega|(rw [AL];omega)|(rw [Ae,AL,List.length_take];omega)|(rw [Aa hkl,AB];omega)|(have:=By hpre.1 (lo:=Fr.ofInt lx) (hi:=Fr.ofInt hx) (n:=n) hkl;simp only [List.length_cons,List.length_nil];omega)|(have:=(hbi n).1;simp only [List.length_append,List.length_cons,List.length_nil];omega)|(have:=hbi.2;simp only [List.length_append,List.length_cons,List.length_nil];omega)) λ o695=>?_
  refine ⟨(evF (Fr.ofInt lx) (Fr.ofInt hx) (cA ls ls.length++cE (edA ls) ly hy (edA ls).length)++[Fr.ofInt lx,Fr.ofInt hx]),by
   rw [hie]
   show [DA.one (DC.sl 40 _ (AG _++AG [_,_]))]=_
   rw [← Mf];rfl,by
   try dsimp only [BS]
   exact ⟨X5 _ hgl hgh,by have:=hbi.2;rw [BM] at this;rw [List.length_append,← hie];simp only [List.length_cons,List.length_nil];omega⟩,?_⟩
  exact rfl
 try simp only [nrm] at c185
 rw [AL] at c185
 have hil:i<(edA ls).length:=by omega
 have hei:=X1 hpre.1.1 hil
 have hbi:=λ n=>PR hpre.1 (lo:=Fr.ofInt lx) (hi:=Fr.ofInt hx) (ly:=ly) (hy:=hy) (Nat.le_of_lt hil) n
 refine ao (by first|rfl|omega|(rw [AL];omega)|(rw [Ae,AL,List.length_take];omega)|(rw [Aa hkl,AB];omega)|(have:=By hpre.1 (lo:=Fr.ofInt lx) (hi:=Fr.ofInt hx) (n:=n) hkl;simp only [List.length_cons,List.length_nil];omega)|(have:=(hbi n).1;simp only [List.length_append,List.length_cons,List.length_nil];omega)|(have:=hbi.2;simp only [List.length_append,List.length_cons,List.length_nil];omega)) λ o186=>?_
 refine ao (by first|rfl|omega|(rw [AL];omega)|(rw [Ae,AL,List.length_take];omega)|(rw [Aa hkl,AB];omega)|(have:=By hpre.1 (lo:=Fr.ofInt lx) (hi:=Fr.ofInt hx) (n:=n) hkl;simp only [List.length_cons,List.length_nil];omega)|(have:=(hbi n).1;simp only [List.length_append,List.length_cons,List.length_nil];omega)|(have:=hbi.2;simp only [List.length_append,List.length_cons,List.length_nil];omega)) λ o187=>?_
 refine ao (by first|rfl|omega|(rw [AL];omega)|(rw [Ae,AL,List.length_take];omega)|(rw [Aa hkl,AB];omega)|(have:=By hpre.1 (lo:=Fr.ofInt lx) (hi:=Fr.ofInt hx) (n:=n) hkl;simp only [List.length_cons,List.length_nil];omega)|(have:=(hbi n).1;simp only [List.length_append,List.length_cons,List.length_nil];omega)|(have:=hbi.2;simp only [List.length_append,List.length_cons,List.length_nil];omega)) λ o188=>?_
 refine ao (by first|rfl|omega|(rw [AL];omega)|(rw [Ae,AL,List.length_take];omega)|(rw [Aa hkl,AB];omega)|(have:=By hpre.1 (lo:=Fr.ofInt lx) (hi:=Fr.ofInt hx) (n:=n) hkl;simp only [List.length_cons,List.length_nil];omega)|(have:=(hbi n).1;simp only [List.length_append,List.length_cons,List.length_nil];omega)|(have:=hbi.2;simp only [List.length_append,List.length_cons,List.length_nil];omega)) λ o189=>?_
 refine ao (by first|rfl|omega|(rw [AL];omega)|(rw [Ae,AL,List.length_take];omega)|(rw [Aa hkl,AB];omega)|(have:=By hpre.1 (lo:=Fr.ofInt lx) (hi:=Fr.ofInt hx) (n:=n) hkl;simp only [List.length_cons,List.length_nil];omega)|(have:=(hbi n).1;simp only [List.length_append,List.length_cons,List.length_nil];omega)|(have:=hbi.2;simp only [List.length_append,List.length_cons,List.length_nil];omega)) λ o190=>?_
 refine ao (by first|rfl|omega|(rw [AL];omega)|(rw [Ae,AL,List.length_take];omega)|(rw [Aa hkl,AB];omega)|(have:=By hpre.1 (lo:=Fr.ofInt lx) (hi:=Fr.ofInt hx) (n:=n) hkl;simp only [List.length_cons,List.length_nil];omega)|(have:=(hbi n).1;simp only [List.length_append,List.length_cons,List.length_nil];omega)|(have:=hbi.2;simp only [List.length_append,List.length_cons,List.length_nil];omega)) λ o191=>?_
 refine ⟨⟨0,by
  first|trivial|omega|(simp;omega),?_⟩,?_⟩
 ·refine ⟨rfl,rfl,?_,rfl,rfl,rfl,rfl,rfl,rfl,rfl,rfl,?_,?_,?_,?_,?_,rfl,rfl,rfl,rfl,rfl,?_,rfl,rfl⟩
  ·first|rfl|(simp;done)
  ·first|rfl|(simp;done)
  ·first|rfl|(simp;done)
  ·first|rfl|(simp;done)
  ·first|rfl|(simp;done)
  ·first|rfl|(simp;done)
  unfold cC;simp
 intro (n:Nat) hki192
 have hki192:n<=i:=hki192
 refine ⟨λ c218=>?_,λ c218=>?_⟩
 ·try simp only [nrm] at c218
  rw [Ae,AL,List.length_take] at c218
  have hn:n<i:=by omega
  have hnt:n<((edA ls).take i).length:=by rw [List.length_take];omega
  have hen:(((edA ls).take i).getD n noE).ok=true:=by rw [Zy hn];exact X1 hpre.1.1 (by omega)
  refine ao (by first|rfl|omega|(rw [AL];omega)|(rw [Ae,AL,List.length_take];omega)|(rw [Aa hkl,AB];omega)|(have:=By hpre.1 (lo:=Fr.ofInt lx) (hi:=Fr.ofInt hx) (n:=n) hkl;simp only [List.length_cons,List.length_nil];omega)|(have:=(hbi n).1;simp only [List.length_append,List.length_cons,List.length_nil];omega)|(have:=hbi.2;simp only [List.length_append,List.length_cons,List.length_nil];omega)) λ o219=>?_
  refine ao (by first|rfl|omega|(rw [AL];omega)|(rw [Ae,AL,List.length_take];omega)|(rw [Aa hkl,AB];omega)|(have:=By hpre.1 (lo:=Fr.ofInt lx) (hi:=Fr.ofInt hx) (n:=n) hkl;simp only [List.length_cons,List.length_nil];omega)|(have:=(hbi n).1;simp only [List.length_append,List.length_cons,List.length_nil];omega)|(have:=hbi.2;simp only [List.length_append,List.length_cons,List.length_nil];omega)) λ o220=>?_
  refine ⟨(((edA ls).getD i noE),(((edA ls).take i).getD n noE)),by
   rw [Eg hil,Ae,Eg hnt];rfl,by
   show ((edA ls).getD i noE).ok=true/\(((edA ls).take i).getD n noE).ok=true
   exact ⟨hei,hen⟩,?_⟩
  refine And.symm ⟨λ c224=>?_,λ c224=>?_⟩
  ·try simp only [nrm] at c224
   have q:=OU (lo:=Fr.ofInt lx) (hi:=Fr.ofInt hx) (x:=Ef ((edA ls).getD i noE) (((edA ls).take i).getD n noE)) c224
   refine ⟨n+1,by
    first|trivial|omega|(simp;omega),by
    first|omega|(simp;omega),?_⟩
   refine ⟨rfl,rfl,?_,rfl,rfl,rfl,rfl,rfl,rfl,rfl,rfl,rfl,rfl,rfl,rfl,rfl,rfl,rfl,rfl,rfl,rfl,?_,rfl,rfl⟩
   ·first|rfl|exact AS (AC (by omega) (by omega))
   exact I7 (LW hn (Nat.le_of_lt hil) _ _) q
  try simp only [nrm] at c224
  refine ⟨((Ef ((edA ls).getD i noE) (((edA ls).take i).getD n noE)),(Fr.ofInt lx)),by
   rfl,by
   first|trivial|exact hpre.2.1|exact hpre.2.2.2.1|exact ⟨hpre.1.1,hpre.1.2.1⟩|exact ⟨by omega,by omega⟩,?_⟩
  refine And.symm ⟨λ c228=>?_,λ c228=>?_⟩
  ·try simp only [nrm] at c228
   have q:=IS (hi:=Fr.ofInt hx) (b:=FG ((edA ls).getD i noE) (((edA ls).take i).getD n noE)) c228
   refine ⟨n+1,by
    first|trivial|omega|(simp;omega),by
    first|omega|(simp;omega),?_⟩
   refine ⟨rfl,rfl,?_,rfl,rfl,rfl,rfl,rfl,rfl,rfl,rfl,rfl,rfl,rfl,rfl,rfl,rfl,rfl,rfl,rfl,rfl,?_,rfl,rfl⟩
   ·first|rfl|exact AS (AC (by omega) (by omega))
   exact I7 (LW hn (Nat.le_of_lt hil) _ _) q
  try simp only [nrm] at c228
  refine ⟨((Ef ((edA ls).getD i noE) (((edA ls).take i).getD n noE)),(Fr.ofInt hx)),by
   rfl,by
   first|trivial|exact hpre.2.1|exact hpre.2.2.2.1|exact ⟨hpre.1.1,hpre.1.2.1⟩|exact ⟨by omega,by omega⟩,?_⟩
  refine And.symm ⟨λ c232=>?_,λ c232=>?_⟩
  ·try simp only [nrm] at c232
   have q:=IT (lo:=Fr.ofInt lx) (b:=FG ((edA ls).getD i noE) (((edA ls).take i).getD n noE)) c232
   refine ⟨n+1,by
    first|trivial|omega|(simp;omega),by
    first|omega|(simp;omega),?_⟩
   refine ⟨rfl,rfl,?_,rfl,rfl,rfl,rfl,rfl,rfl,rfl,rfl,rfl,rfl,rfl,rfl,rfl,rfl,rfl,rfl,rfl,rfl,?_,rfl,rfl⟩
   ·first|rfl|exact AS (AC (by omega) (by omega))
   exact I7 (LW hn (Nat.le_of_lt hil) _ _) q
  try simp only [nrm] at c232
  have q:=Mg c224 c228 c232
  refine ao (a:=(AG (evF (Fr.ofInt lx) (Fr.ofInt hx) (cA ls ls.length++(cE (edA ls) ly hy i++cC (edA ls) i n)))).length+([[Dat.bool (decide ((Ef ((edA ls).getD i noE) (((edA ls).take i).getD n noE)).z<0)),Dat.sl (L (Ef ((edA ls).getD i noE) (((edA ls).take i).getD n noE)).z.natAbs),Dat.sl (L (Ef ((edA ls).getD i noE) (((edA ls).take i).getD n noE)).d)]]:List (List Dat)).length<=2199023255552) (by first|rfl|omega|(rw [AL];omega)|(rw [Ae,AL,List.length_take];omega)|(rw [Aa hkl,AB];omega)|(have:=By hpre.1 (lo:=Fr.ofInt lx) (hi:=Fr.ofInt hx) (n:=n) hkl;simp only [List.length_cons,List.length_nil];omega)|(have:=(hbi n).1;simp only [List.length_append,List.length_cons,List.length_nil];omega)|(have:=hbi.2;simp only [List.length_append,List.length_cons,List.length_nil];omega)) λ o233=>?_
  refine ⟨n+1,by
   first|trivial|omega|(simp;omega),by
   first|omega|(simp;omega),?_⟩
  refine ⟨rfl,rfl,?_,rfl,rfl,rfl,rfl,rfl,rfl,rfl,rfl,rfl,rfl,rfl,rfl,rfl,rfl,rfl,rfl,rfl,rfl,?_,rfl,rfl⟩
  ·first|rfl|exact AS (AC (by omega) (by omega))
  show ((AG (evF (Fr.ofInt lx) (Fr.ofInt hx) (cA ls ls.length++(cE (edA ls) ly hy i++cC (edA ls) i n))))++([[Dat.bool (decide ((Ef ((edA ls).getD i noE) (((edA ls).take i).getD n noE)).z<0)),Dat.sl (L (Ef ((edA ls).getD i noE) (((edA ls).take i).getD n noE)).z.natAbs),Dat.sl (L (Ef ((edA ls).getD i noE) (((edA ls).take i).getD n noE)).d)]]:List (List Dat)))=(AG (evF (Fr.ofInt lx) (Fr.ofInt hx) (cA ls ls.length++(cE (edA ls) ly hy i++cC (edA ls) i (n+1)))))
  exact KC (LW hn (Nat.le_of_lt hil) _ _) q
 try simp only [nrm] at c218
 rw [Ae,AL,List.length_take] at c218
 have hne:n=i:=by omega
 refine ⟨(((edA ls).getD i noE),ly),by
  rw [Eg hil];rfl,by
  show ((edA ls).getD i noE).ok=true/\(-9223372036854775808<=ly/\ly<=9223372036854775807)
  exact ⟨hei,by omega,by omega⟩,?_⟩
 refine And.symm ⟨λ c345=>?_,λ c345=>?_⟩
 ·try simp only [nrm] at c345
  have q1:=OU (lo:=Fr.ofInt lx) (hi:=Fr.ofInt hx) (x:=As ((edA ls).getD i noE) ly) c345
  refine ⟨(((edA ls).getD i noE),hy),by
   rw [Eg hil];rfl,by
   show ((edA ls).getD i noE).ok=true/\(-9223372036854775808<=hy/\hy<=9223372036854775807)
   exact ⟨hei,by omega,by omega⟩,?_⟩
  refine And.symm ⟨λ c613=>?_,λ c613=>?_⟩
  ·try simp only [nrm] at c613
   have q2:=OU (lo:=Fr.ofInt lx) (hi:=Fr.ofInt hx) (x:=As ((edA ls).getD i noE) hy) c613
   refine ⟨i+1,by
    first|trivial|omega|(simp;omega),by
    first|omega|(simp;omega),?_⟩
   refine ⟨rfl,?_,rfl,rfl,rfl,rfl,rfl,rfl,rfl,rfl,rfl,rfl,rfl,?_,rfl⟩
   ·first|rfl|(exact AS (AC (by omega) (by omega)))|exact BY (AD hne _) q1 q2|exact BZ (AD hne _) q1 q2|exact Ba (AD hne _) q1 q2|exact Bb (AD hne _) q1 q2
   first|rfl|(exact AS (AC (by omega) (by omega)))|exact BY (AD hne _) q1 q2|exact BZ (AD hne _) q1 q2|exact Ba (AD hne _) q1 q2|exact Bb (AD hne _) q1 q2
  try simp only [nrm] at c613
  refine ⟨((As ((edA ls).getD i noE) hy),(Fr.ofInt lx)),by
   rfl,by
   first|trivial|exact hpre.2.1|exact hpre.2.2.2.1|exact ⟨hpre.1.1,hpre.1.2.1⟩|exact ⟨by omega,by omega⟩,?_⟩
  refine And.symm ⟨λ c617=>?_,λ c617=>?_⟩
  ·try simp only [nrm] at c617
   have q2:=IS (hi:=Fr.ofInt hx) (b:=CL ((edA ls).getD i noE) hy) c617
   refine ⟨i+1,by
    first|trivial|omega|(simp;omega),by
    first|omega|(simp;omega),?_⟩
   refine ⟨rfl,?_,rfl,rfl,rfl,rfl,rfl,rfl,rfl,rfl,rfl,rfl,rfl,?_,rfl⟩
   ·first|rfl|(exact AS (AC (by omega) (by omega)))|exact BY (AD hne _) q1 q2|exact BZ (AD hne _) q1 q2|exact Ba (AD hne _) q1 q2|exact Bb (AD hne _) q1 q2
   first|rfl|(exact AS (AC (by omega) (by omega)))|exact BY (AD hne _) q1 q2|exact BZ (AD hne _) q1 q2|exact Ba (AD hne _) q1 q2|exact Bb (AD hne _) q1 q2
  try simp only [nrm] at c617
  refine ⟨((As ((edA ls).getD i noE) hy),(Fr.ofInt hx)),by
   rfl,by
   first|trivial|exact hpre.2.1|exact hpre.2.2.2.1|exact ⟨hpre.1.1,hpre.1.2.1⟩|exact ⟨by omega,by omega⟩,?_⟩
  refine And.symm ⟨λ c621=>?_,λ c621=>?_⟩
  ·try simp only [nrm] at c621
   have q2:=IT (lo:=Fr.ofInt lx) (b:=CL ((edA ls).getD i noE) hy) c621
   refine ⟨i+1,by
    first|trivial|omega|(simp;omega),by
    first|omega|(simp;omega),?_⟩
   refine ⟨rfl,?_,rfl,rfl,rfl,rfl,rfl,rfl,rfl,rfl,rfl,rfl,rfl,?_,rfl⟩
   ·first|rfl|(exact AS (AC (by omega) (by omega)))|exact BY (AD hne _) q1 q2|exact BZ (AD hne _) q1 q2|exact Ba (AD hne _) q1 q2|exact Bb (AD hne _) q1 q2
   first|rfl|(exact AS (AC (by omega) (by omega)))|exact BY (AD hne _) q1 q2|exact BZ (AD hne _) q1 q2|exact Ba (AD hne _) q1 q2|exact Bb (AD hne _) q1 q2
  try simp only [nrm] at c621
  have q2:=Mg c613 c617 c621
  refine ao (a:=(AG (evF (Fr.ofInt lx) (Fr.ofInt hx) (cA ls ls.length++(cE (edA ls) ly hy i++cC (edA ls) i n)))).length+([[Dat.bool (decide ((As ((edA ls).getD i noE) hy).z<0)),Dat.sl (L (As ((edA ls).getD i noE) hy).z.natAbs),Dat.sl (L (As ((edA ls).getD i noE) hy).d)]]:List (List Dat)).length<=2199023255552) (by first|rfl|omega|(rw [AL];omega)|(rw [Ae,AL,List.length_take];omega)|(rw [Aa hkl,AB];omega)|(have:=By hpre.1 (lo:=Fr.ofInt lx) (hi:=Fr.ofInt hx) (n:=n) hkl;simp only [List.length_cons,List.length_nil];omega)|(have:=(hbi n).1;simp only [List.length_append,List.length_cons,List.length_nil];omega)|(have:=hbi.2;simp only [List.length_append,List.length_cons,List.length_nil];omega)) λ o622=>?_
  refine ⟨i+1,by
   first|trivial|omega|(simp;omega),by
   first|omega|(simp;omega),?_⟩
  refine ⟨rfl,?_,rfl,rfl,rfl,rfl,rfl,rfl,rfl,rfl,rfl,rfl,rfl,?_,rfl⟩
  ·first|rfl|(exact AS (AC (by omega) (by omega)))|exact BY (AD hne _) q1 q2|exact BZ (AD hne _) q1 q2|exact Ba (AD hne _) q1 q2|exact Bb (AD hne _) q1 q2
  show ((AG (evF (Fr.ofInt lx) (Fr.ofInt hx) (cA ls ls.length++(cE (edA ls) ly hy i++cC (edA ls) i n))))++([[Dat.bool (decide ((As ((edA ls).getD i noE) hy).z<0)),Dat.sl (L (As ((edA ls).getD i noE) hy).z.natAbs),Dat.sl (L (As ((edA ls).getD i noE) hy).d)]]:List (List Dat)))=(AG (evF (Fr.ofInt lx) (Fr.ofInt hx) (cA ls ls.length++cE (edA ls) ly hy (i+1))))
  first|rfl|(exact AS (AC (by omega) (by omega)))|exact BY (AD hne _) q1 q2|exact BZ (AD hne _) q1 q2|exact Ba (AD hne _) q1 q2|exact Bb (AD hne _) q1 q2
 try simp only [nrm] at c345
 refine ⟨((As ((edA ls).getD i noE) ly),(Fr.ofInt lx)),by
  rfl,by
  first|trivial|exact hpre.2.1|exact hpre.2.2.2.1|exact ⟨hpre.1.1,hpre.1.2.1⟩|exact ⟨by omega,by omega⟩,?_⟩
 refine And.symm ⟨λ c349=>?_,λ c349=>?_⟩
 ·try simp only [nrm] at c349
  have q1:=IS (hi:=Fr.ofInt hx) (b:=CL ((edA ls).getD i noE) ly) c349
  refine ⟨(((edA ls).getD i noE),hy),by
   rw [Eg hil];rfl,by
   show ((edA ls).getD i noE).ok=true/\(-9223372036854775808<=hy/\hy<=9223372036854775807)
   exact ⟨hei,by omega,by omega⟩,?_⟩
  refine And.symm ⟨λ c528=>?_,λ c528=>?_⟩
  ·try simp only [nrm] at c528
   have q2:=OU (lo:=Fr.ofInt lx) (hi:=Fr.ofInt hx) (x:=As ((edA ls).getD i noE) hy) c528
   refine ⟨i+1,by
    first|trivial|omega|(simp;omega),by
    first|omega|(simp;omega),?_⟩
   refine ⟨rfl,?_,rfl,rfl,rfl,rfl,rfl,rfl,rfl,rfl,rfl,rfl,rfl,?_,rfl⟩
   ·first|rfl|(exact AS (AC (by omega) (by omega)))|exact BY (AD hne _) q1 q2|exact BZ (AD hne _) q1 q2|exact Ba (AD hne _) q1 q2|exact Bb (AD hne _) q1 q2
   first|rfl|(exact AS (AC (by omega) (by omega)))|exact BY (AD hne _) q1 q2|exact BZ (AD hne _) q1 q2|exact Ba (AD hne _) q1 q2|exact Bb (AD hne _) q1 q2
  try simp only [nrm] at c528
  refine ⟨((As ((edA ls).getD i noE) hy),(Fr.ofInt lx)),by
   rfl,by
   first|trivial|exact hpre.2.1|exact hpre.2.2.2.1|exact ⟨hpre.1.1,hpre.1.2.1⟩|exact ⟨by omega,by omega⟩,?_⟩
  refine And.symm ⟨λ c532=>?_,λ c532=>?_⟩
  ·try simp only [nrm] at c532
   have q2:=IS (hi:=Fr.ofInt hx) (b:=CL ((edA ls).getD i noE) hy) c532
   refine ⟨i+1,by
    first|trivial|omega|(simp;omega),by
    first|omega|(simp;omega),?_⟩
   refine ⟨rfl,?_,rfl,rfl,rfl,rfl,rfl,rfl,rfl,rfl,rfl,rfl,rfl,?_,rfl⟩
   ·first|rfl|(exact AS (AC (by omega) (by omega)))|exact BY (AD hne _) q1 q2|exact BZ (AD hne _) q1 q2|exact Ba (AD hne _) q1 q2|exact Bb (AD hne _) q1 q2
   first|rfl|(exact AS (AC (by omega) (by omega)))|exact BY (AD hne _) q1 q2|exact BZ (AD hne _) q1 q2|exact Ba (AD hne _) q1 q2|exact Bb (AD hne _) q1 q2
  try simp only [nrm] at c532
  refine ⟨((As ((edA ls).getD i noE) hy),(Fr.ofInt hx)),by
   rfl,by
   first|trivial|exact hpre.2.1|exact hpre.2.2.2.1|exact ⟨hpre.1.1,hpre.1.2.1⟩|exact ⟨by omega,by omega⟩,?_⟩
  refine And.symm ⟨λ c536=>?_,λ c536=>?_⟩
  ·try simp only [nrm] at c536
   have q2:=IT (lo:=Fr.ofInt lx) (b:=CL ((edA ls).getD i noE) hy) c536
   refine ⟨i+1,by
    first|trivial|omega|(simp;omega),by
    first|omega|(simp;omega),?_⟩
   refine ⟨rfl,?_,rfl,rfl,rfl,rfl,rfl,rfl,rfl,rfl,rfl,rfl,rfl,?_,rfl⟩
   ·first|rfl|(exact AS (AC (by omega) (by omega)))|exact BY (AD hne _) q1 q2|exact BZ (AD hne _) q1 q2|exact Ba (AD hne _) q1 q2|exact Bb (AD hne _) q1 q2
   first|rfl|(exact AS (AC (by omega) (by omega)))|exact BY (AD hne _) q1 q2|exact BZ (AD hne _) q1 q2|exact Ba (AD hne _) q1 q2|exact Bb (AD hne _) q1 q2
  try simp only [nrm] at c536
  have q2:=Mg c528 c532 c536
  refine ao (a:=(AG (evF (Fr.ofInt lx) (Fr.ofInt hx) (cA ls ls.length++(cE (edA ls) ly hy i++cC (edA ls) i n)))).length+([[Dat.bool (decide ((As ((edA ls).getD i noE) hy).z<0)),Dat.sl (L (As ((edA ls).getD i noE) hy).z.natAbs),Dat.sl (L (As ((edA ls).getD i noE) hy).d)]]:List (List Dat)).length<=2199023255552) (by first|rfl|omega|(rw [AL];omega)|(rw [Ae,AL,List.length_take];omega)|(rw [Aa hkl,AB];omega)|(have:=By hpre.1 (lo:=Fr.ofInt lx) (hi:=Fr.ofInt hx) (n:=n) hkl;simp only [List.length_cons,List.length_nil];omega)|(have:=(hbi n).1;simp only [List.length_append,List.length_cons,List.length_nil];omega)|(have:=hbi.2;simp only [List.length_append,List.length_cons,List.length_nil];omega)) λ o537=>?_
  refine ⟨i+1,by
   first|trivial|omega|(simp;omega),by
   first|omega|(simp;omega),?_⟩
  refine ⟨rfl,?_,rfl,rfl,rfl,rfl,rfl,rfl,rfl,rfl,rfl,rfl,rfl,?_,rfl⟩
  ·first|rfl|(exact AS (AC (by omega) (by omega)))|exact BY (AD hne _) q1 q2|exact BZ (AD hne _) q1 q2|exact Ba (AD hne _) q1 q2|exact Bb (AD hne _) q1 q2
  show ((AG (evF (Fr.ofInt lx) (Fr.ofInt hx) (cA ls ls.length++(cE (edA ls) ly hy i++cC (edA ls) i n))))++([[Dat.bool (decide ((As ((edA ls).getD i noE) hy).z<0)),Dat.sl (L (As ((edA ls).getD i noE) hy).z.natAbs),Dat.sl (L (As ((edA ls).getD i noE) hy).d)]]:List (List Dat)))=(AG (evF (Fr.ofInt lx) (Fr.ofInt hx) (cA ls ls.length++cE (edA ls) ly hy (i+1))))
  first|rfl|(exact AS (AC (by omega) (by omega)))|exact BY (AD hne _) q1 q2|exact BZ (AD hne _) q1 q2|exact Ba (AD hne _) q1 q2|exact Bb (AD hne _) q1 q2
 try simp only [nrm] at c349
 refine ⟨((As ((edA ls).getD i noE) ly),(Fr.ofInt hx)),by
  rfl,by
  first|trivial|exact hpre.2.1|exact hpre.2.2.2.1|exact ⟨hpre.1.1,hpre.1.2.1⟩|exact ⟨by omega,by omega⟩,?_⟩
 refine And.symm ⟨λ c353=>?_,λ c353=>?_⟩
 ·try simp only [nrm] at c353
  have q1:=IT (lo:=Fr.ofInt lx) (b:=CL ((edA ls).getD i noE) ly) c353
  refine ⟨(((edA ls).getD i noE),hy),by
   rw [Eg hil];rfl,by
   show ((edA ls).getD i noE).ok=true/\(-9223372036854775808<=hy/\hy<=9223372036854775807)
   exact ⟨hei,by omega,by omega⟩,?_⟩
  refine And.symm ⟨λ c443=>?_,λ c443=>?_⟩
  ·try simp only [nrm] at c443
   have q2:=OU (lo:=Fr.ofInt lx) (hi:=Fr.ofInt hx) (x:=As ((edA ls).getD i noE) hy) c443
   refine ⟨i+1,by
    first|trivial|omega|(simp;omega),by
    first|omega|(simp;omega),?_⟩
   refine ⟨rfl,?_,rfl,rfl,rfl,rfl,rfl,rfl,rfl,rfl,rfl,rfl,rfl,?_,rfl⟩
   ·first|rfl|(exact AS (AC (by omega) (by omega)))|exact BY (AD hne _) q1 q2|exact BZ (AD hne _) q1 q2|exact Ba (AD hne _) q1 q2|exact Bb (AD hne _) q1 q2
   first|rfl|(exact AS (AC (by omega) (by omega)))|exact BY (AD hne _) q1 q2|exact BZ (AD hne _) q1 q2|exact Ba (AD hne _) q1 q2|exact Bb (AD hne _) q1 q2
  try simp only [nrm] at c443
  refine ⟨((As ((edA ls).getD i noE) hy),(Fr.ofInt lx)),by
   rfl,by
   first|trivial|exact hpre.2.1|exact hpre.2.2.2.1|exact ⟨hpre.1.1,hpre.1.2.1⟩|exact ⟨by omega,by omega⟩,?_⟩
  refine And.symm ⟨λ c447=>?_,λ c447=>?_⟩
  ·try simp only [nrm] at c447
   have q2:=IS (hi:=Fr.ofInt hx) (b:=CL ((edA ls).getD i noE) hy) c447
   refine ⟨i+1,by
    first|trivial|omega|(simp;omega),by
    first|omega|(simp;omega),?_⟩
   refine ⟨rfl,?_,rfl,rfl,rfl,rfl,rfl,rfl,rfl,rfl,rfl,rfl,rfl,?_,rfl⟩
   ·first|rfl|(exact AS (AC (by omega) (by omega)))|exact BY (AD hne _) q1 q2|exact BZ (AD hne _) q1 q2|exact Ba (AD hne _) q1 q2|exact Bb (AD hne _) q1 q2
   first|rfl|(exact AS (AC (by omega) (by omega)))|exact BY (AD hne _) q1 q2|exact BZ (AD hne _) q1 q2|exact Ba (AD hne _) q1 q2|exact Bb (AD hne _) q1 q2
  try simp only [nrm] at c447
  refine ⟨((As ((edA ls).getD i noE) hy),(Fr.ofInt hx)),by
   rfl,by
   first|trivial|exact hpre.2.1|exact hpre.2.2.2.1|exact ⟨hpre.1.1,hpre.1.2.1⟩|exact ⟨by omega,by omega⟩,?_⟩
  refine And.symm ⟨λ c451=>?_,λ c451=>?_⟩
  ·try simp only [nrm] at c451
   have q2:=IT (lo:=Fr.ofInt lx) (b:=CL ((edA ls).getD i noE) hy) c451
   refine ⟨i+1,by
    first|trivial|omega|(simp;omega),by
    first|omega|(simp;omega),?_⟩
   refine ⟨rfl,?_,rfl,rfl,rfl,rfl,rfl,rfl,rfl,rfl,rfl,rfl,rfl,?_,rfl⟩
   ·first|rfl|(exact AS (AC (by omega) (by omega)))|exact BY (AD hne _) q1 q2|exact BZ (AD hne _) q1 q2|exact Ba (AD hne _) q1 q2|exact Bb (AD hne _) q1 q2
   first|rfl|(exact AS (AC (by omega) (by omega)))|exact BY (AD hne _) q1 q2|exact BZ (AD hne _) q1 q2|exact Ba (AD hne _) q1 q2|exact Bb (AD hne _) q1 q2
  try simp only [nrm] at c451
  have q2:=Mg c443 c447 c451
  refine ao (a:=(AG (evF (Fr.ofInt lx) (Fr.ofInt hx) (cA ls ls.length++(cE (edA ls) ly hy i++cC (edA ls) i n)))).length+([[Dat.bool (decide ((As ((edA ls).getD i noE) hy).z<0)),Dat.sl (L (As ((edA ls).getD i noE) hy).z.natAbs),Dat.sl (L (As ((edA ls).getD i noE) hy).d)]]:List (List Dat)).length<=2199023255552) (by first|rfl|omega|(rw [AL];omega)|(rw [Ae,AL,List.length_take];omega)|(rw [Aa hkl,AB];omega)|(have:=By hpre.1 (lo:=Fr.ofInt lx) (hi:=Fr.ofInt hx) (n:=n) hkl;simp only [List.length_cons,List.length_nil];omega)|(have:=(hbi n).1;simp only [List.length_append,List.length_cons,List.length_nil];omega)|(have:=hbi.2;simp only [List.length_append,List.length_cons,List.length_nil];omega)) λ o452=>?_
  refine ⟨i+1,by
   first|trivial|omega|(simp;omega),by
   first|omega|(simp;omega),?_⟩
  refine ⟨rfl,?_,rfl,rfl,rfl,rfl,rfl,rfl,rfl,rfl,rfl,rfl,rfl,?_,rfl⟩
  ·first|rfl|(exact AS (AC (by omega) (by omega)))|exact BY (AD hne _) q1 q2|exact BZ (AD hne _) q1 q2|exact Ba (AD hne _) q1 q2|exact Bb (AD hne _) q1 q2
  show ((AG (evF (Fr.ofInt lx) (Fr.ofInt hx) (cA ls ls.length++(cE (edA ls) ly hy i++cC (edA ls) i n))))++([[Dat.bool (decide ((As ((edA ls).getD i noE) hy).z<0)),Dat.sl (L (As ((edA ls).getD i noE) hy).z.natAbs),Dat.sl (L (As ((edA ls).getD i noE) hy).d)]]:List (List Dat)))=(AG (evF (Fr.ofInt lx) (Fr.ofInt hx) (cA ls ls.length++cE (edA ls) ly hy (i+1))))
  first|rfl|(exact AS (AC (by omega) (by omega)))|exact BY (AD hne _) q1 q2|exact BZ (AD hne _) q1 q2|exact Ba (AD hne _) q1 q2|exact Bb (AD hne _) q1 q2
 try simp only [nrm] at c353
 have q1:=Mg c345 c349 c353
 refine ao (a:=(AG (evF (Fr.ofInt lx) (Fr.ofInt hx) (cA ls ls.length++(cE (edA ls) ly hy i++cC (edA ls) i n)))).length+([[Dat.bool (decide ((As ((edA ls).getD i noE) ly).z<0)),Dat.sl (L (As ((edA ls).getD i noE) ly).z.natAbs),Dat.sl (L (As ((edA ls).getD i noE) ly).d)]]:List (List Dat)).length<=2199023255552) (by first|rfl|omega|(rw [AL];omega)|(rw [Ae,AL,List.length_take];omega)|(rw [Aa hkl,AB];omega)|(have:=By hpre.1 (lo:=Fr.ofInt lx) (hi:=Fr.ofInt hx) (n:=n) hkl;simp only [List.length_cons,List.length_nil];omega)|(have:=(hbi n).1;simp only [List.length_append,List.length_cons,List.length_nil];omega)|(have:=hbi.2;simp only [List.length_append,List.length_cons,List.length_nil];omega)) λ o354=>?_
 refine ⟨(((edA ls).getD i noE),hy),by
  rw [Eg hil];rfl,by
  show ((edA ls).getD i noE).ok=true/\(-9223372036854775808<=hy/\hy<=9223372036854775807)
  exact ⟨hei,by omega,by omega⟩,?_⟩
 refine And.symm ⟨λ c358=>?_,λ c358=>?_⟩
 ·try simp only [nrm] at c358
  have q2:=OU (lo:=Fr.ofInt lx) (hi:=Fr.ofInt hx) (x:=As ((edA ls).getD i noE) hy) c358
  refine ⟨i+1,by
   first|trivial|omega|(simp;omega),by
   first|omega|(simp;omega),?_⟩
  refine ⟨rfl,?_,rfl,rfl,rfl,rfl,rfl,rfl,rfl,rfl,rfl,rfl,rfl,?_,rfl⟩
  ·first|rfl|(exact AS (AC (by omega) (by omega)))|exact BY (AD hne _) q1 q2|exact BZ (AD hne _) q1 q2|exact Ba (AD hne _) q1 q2|exact Bb (AD hne _) q1 q2
  show ((AG (evF (Fr.ofInt lx) (Fr.ofInt hx) (cA ls ls.length++(cE (edA ls) ly hy i++cC (edA ls) i n))))++([[Dat.bool (decide ((As ((edA ls).getD i noE) ly).z<0)),Dat.sl (L (As ((edA ls).getD i noE) ly).z.natAbs),Dat.sl (L (As ((edA ls).getD i noE) ly).d)]]:List (List Dat)))=(AG (evF (Fr.ofInt lx) (Fr.ofInt hx) (cA ls ls.length++cE (edA ls) ly hy (i+1))))
  first|rfl|(exact AS (AC (by omega) (by omega)))|exact BY (AD hne _) q1 q2|exact BZ (AD hne _) q1 q2|exact Ba (AD hne _) q1 q2|exact Bb (AD hne _) q1 q2
 try simp only [nrm] at c358
 refine ⟨((As ((edA ls).getD i noE) hy),(Fr.ofInt lx)),by
  rfl,by
  first|trivial|exact hpre.2.1|exact hpre.2.2.2.1|exact ⟨hpre.1.1,hpre.1.2.1⟩|exact ⟨by omega,by omega⟩,?_⟩
 refine And.symm ⟨λ c362=>?_,λ c362=>?_⟩
 ·try simp only [nrm] at c362
  have q2:=IS (hi:=Fr.ofInt hx) (b:=CL ((edA ls).getD i noE) hy) c362
  refine ⟨i+1,by
   first|trivial|omega|(simp;omega),by
   first|omega|(simp;omega),?_⟩
  refine ⟨rfl,?_,rfl,rfl,rfl,rfl,rfl,rfl,rfl,rfl,rfl,rfl,rfl,?_,rfl⟩
  ·first|rfl|(exact AS (AC (by omega) (by omega)))|exact BY (AD hne _) q1 q2|exact BZ (AD hne _) q1 q2|exact Ba (AD hne _) q1 q2|exact Bb (AD hne _) q1 q2
  show ((AG (evF (Fr.ofInt lx) (Fr.ofInt hx) (cA ls ls.length++(cE (edA ls) ly hy i++cC (edA ls) i n))))++([[Dat.bool (decide ((As ((edA ls).getD i noE) ly).z<0)),Dat.sl (L (As ((edA ls).getD i noE) ly).z.natAbs),Dat.sl (L (As ((edA ls).getD i noE) ly).d)]]:List (List Dat)))=(AG (evF (Fr.ofInt lx) (Fr.ofInt hx) (cA ls ls.length++cE (edA ls) ly hy (i+1))))
  first|rfl|(exact AS (AC (by omega) (by omega)))|exact BY (AD hne _) q1 q2|exact BZ (AD hne _) q1 q2|exact Ba (AD hne _) q1 q2|exact Bb (AD hne _) q1 q2
 try simp only [nrm] at c362
 refine ⟨((As ((edA ls).getD i noE) hy),(Fr.ofInt hx)),by
  rfl,by
  first|trivial|exact hpre.2.1|exact hpre.2.2.2.1|exact ⟨hpre.1.1,hpre.1.2.1⟩|exact ⟨by omega,by omega⟩,?_⟩
 refine And.symm ⟨λ c366=>?_,λ c366=>?_⟩
 ·try simp only [nrm] at c366
  have q2:=IT (lo:=Fr.ofInt lx) (b:=CL ((edA ls).getD i noE) hy) c366
  refine ⟨i+1,by
   first|trivial|omega|(simp;omega),by
   first|omega|(simp;omega),?_⟩
  refine ⟨rfl,?_,rfl,rfl,rfl,rfl,rfl,rfl,rfl,rfl,rfl,rfl,rfl,?_,rfl⟩
  ·first|rfl|(exact AS (AC (by omega) (by omega)))|exact BY (AD hne _) q1 q2|exact BZ (AD hne _) q1 q2|exact Ba (AD hne _) q1 q2|exact Bb (AD hne _) q1 q2
  show ((AG (evF (Fr.ofInt lx) (Fr.ofInt hx) (cA ls ls.length++(cE (edA ls) ly hy i++cC (edA ls) i n))))++([[Dat.bool (decide ((As ((edA ls).getD i noE) ly).z<0)),Dat.sl (L (As ((edA ls).getD i noE) ly).z.natAbs),Dat.sl (L (As ((edA ls).getD i noE) ly).d)]]:List (List Dat)))=(AG (evF (Fr.ofInt lx) (Fr.ofInt hx) (cA ls ls.length++cE (edA ls) ly hy (i+1))))
  first|rfl|(exact AS (AC (by omega) (by omega)))|exact BY (AD hne _) q1 q2|exact BZ (AD hne _) q1 q2|exact Ba (AD hne _) q1 q2|exact Bb (AD hne _) q1 q2
 try simp only [nrm] at c366
 have q2:=Mg c358 c362 c366
 refine ao (a:=((AG (evF (Fr.ofInt lx) (Fr.ofInt hx) (cA ls ls.length++(cE (edA ls) ly hy i++cC (edA ls) i n))))++([[Dat.bool (decide ((As ((edA ls).getD i noE) ly).z<0)),Dat.sl (L (As ((edA ls).getD i noE) ly).z.natAbs),Dat.sl (L (As ((edA ls).getD i noE) ly).d)]]:List (List Dat))).length+([[Dat.bool (decide ((As ((edA ls).getD i noE) hy).z<0)),Dat.sl (L (As ((edA ls).getD i noE) hy).z.natAbs),Dat.sl (L (As ((edA ls).getD i noE) hy).d)]]:List (List Dat)).length<=2199023255552) (by first|rfl|omega|(rw [AL];omega)|(rw [Ae,AL,List.length_take];omega)|(rw [Aa hkl,AB];omega)|(have:=By hpre.1 (lo:=Fr.ofInt lx) (hi:=Fr.ofInt hx) (n:=n) hkl;simp only [List.length_cons,List.length_nil];omega)|(have:=(hbi n).1;simp only [List.length_append,List.length_cons,List.length_nil];omega)|(have:=hbi.2;simp only [List.length_append,List.length_cons,List.length_nil];omega)) λ o367=>?_
 refine ⟨i+1,by
  first|trivial|omega|(simp;omega),by
  first|omega|(simp;omega),?_⟩
 refine ⟨rfl,?_,rfl,rfl,rfl,rfl,rfl,rfl,rfl,rfl,rfl,rfl,rfl,?_,rfl⟩
 ·first|rfl|(exact AS (AC (by omega) (by omega)))|exact BY (AD hne _) q1 q2|exact BZ (AD hne _) q1 q2|exact Ba (AD hne _) q1 q2|exact Bb (AD hne _) q1 q2
 show (((AG (evF (Fr.ofInt lx) (Fr.ofInt hx) (cA ls ls.length++(cE (edA ls) ly hy i++cC (edA ls) i n))))++([[Dat.bool (decide ((As ((edA ls).getD i noE) ly).z<0)),Dat.sl (L (As ((edA ls).getD i noE) ly).z.natAbs),Dat.sl (L (As ((edA ls).getD i noE) ly).d)]]:List (List Dat)))++([[Dat.bool (decide ((As ((edA ls).getD i noE) hy).z<0)),Dat.sl (L (As ((edA ls).getD i noE) hy).z.natAbs),Dat.sl (L (As ((edA ls).getD i noE) hy).d)]]:List (List Dat)))=(AG (evF (Fr.ofInt lx) (Fr.ofInt hx) (cA ls ls.length++cE (edA ls) ly hy (i+1))))
 first|rfl|(exact AS (AC (by omega) (by omega)))|exact BY (AD hne _) q1 q2|exact BZ (AD hne _) q1 q2|exact Ba (AD hne _) q1 q2|exact Bb (AD hne _) q1 q2
theorem Hl {l:List Fr} {k:Nat} (h:k<l.length):AG (l.take k)++[frD (l.getD k Fr.none)]=AG (l.take (k+1)):=by
 rw [List.take_add_one,List.getElem?_eq_getElem h,Mf]
 simp [AG,List.getD,h]
def CT:Con:={ ι:=(List Fr),pre:=λ i=>i.length<=2000000000000,args:=λ i=>[.one (DC.sl 40 z39 (AG i))],res:=λ i=>⟨false,[none],[.own 40 [.bool,.sl 3 [.int],.sl 3 [.int]] (AG i)]⟩ }
theorem Mj:CT.Ok Tryz.prog 54:=by
 refine fok (X:=⟨tt,[(99,F4)],[],20,[]⟩) mixed AQ (CTok.cons Vl (CTok.nil _)) Tryz.func54 (λ (i:(List Fr))=>[(3,.mk 3 (Nat) (λ x1=>{ tm:=[(7,tX 1),(8,tI (nI ((AG i).length))),(9,tI (nI x1)),(3,tX 2)],en:=[(1,.view 40 z39 (AG i) []),(2,.own 40 z39 (AG (i.take x1)))] }) (λ x1=>x1<=i.length) (λ x1=>i.length-x1) (λ _=>[]))]) ?_
 intro (l:List Fr) hpre
 have hpre:l.length<=2000000000000:=hpre
 refine AP (q:=let Z4:=List Dat;let Z1:=nI ((AG l).length);(∃ x1:Nat,(x1<=l.length)/\((rf (vI Z1))/\(vI (0:Int)=vI (nI x1))/\(rf (AG l))/\(([]:List Z4)=(AG (l.take x1)))))/\∀ x1:Nat,let Z3:=AG (l.take x1);let Z2:=(AG l).getD x1 [];(x1<=l.length)->(ifB ((decide ((nI x1)<Z1))) ((0<=(nI x1)/\(nI x1)<((AG l).length:Int))/\((x1<(AG l).length)/\(∃ i1:Bool×(List Z4)×(List Z4),[DA.agg [cB (((Z2.getD 0 (.int 0))).b),cS (((Z2.getD 1 (.int 0))).r),cS (((Z2.getD 2 (.int 0))).r)]]=F4.args i1/\F4.pre i1/\((Z3.length+([[Dat.bool i1.1,Dat.sl i1.2.1,Dat.sl i1.2.2]]:List Z4).length<=2199023255552)/\(∃ y2:Nat,(y2<=l.length)/\(l.length-y2<l.length-x1)/\((rf (vI Z1))/\(vI (wR ((nI x1)+(1:Int)))=vI (nI y2))/\(rf (AG l))/\((Z3++([[Dat.bool i1.1,Dat.sl i1.2.1,Dat.sl i1.2.2]]:List Z4))=(AG (l.take y2))))))))) ((Z3=AG l)))) (by kernel_rfl) ?_
 conv=>zeta
 delta ifB vI wR nI
 have hfl:=BM l
 refine ⟨⟨0,by
  first|trivial|omega|(simp;omega),?_⟩,?_⟩
 ·refine ⟨rfl,?_,rfl,?_⟩
  ·first|rfl|(simp;done)
  first|rfl|(simp;done)
 intro (k:Nat) hki1
 have hki1:k<=l.length:=hki1
 refine And.symm ⟨λ c7=>?_,λ c7=>?_⟩
 ·try simp only [nrm] at c7
  rw [List.take_of_length_le (by omega)]
 try simp only [nrm] at c7
 have hk:k<l.length:=by omega
 have h1:=(l.getD k Fr.none).nlz
 have h2:=(l.getD k Fr.none).nld
 have htl:=BM (l.take k)
 have htk:=List.length_take (i:=k) (l:=l)
 refine ao (by first|rfl|omega|(simp only [List.length_cons,List.length_nil];omega)) λ o8=>?_
 refine ao (by first|rfl|omega|(simp only [List.length_cons,List.length_nil];omega)) λ o9=>?_
 refine ⟨(decide ((l.getD k Fr.none).z<0),L (l.getD k Fr.none).z.natAbs,L (l.getD k Fr.none).d),by
  rw [BL hk];rfl,by
  show (L (l.getD k Fr.none).z.natAbs).length<=1073741824/\(L (l.getD k Fr.none).d).length<=1073741824
  exact ⟨by rw [Aq];omega,by rw [Aq];omega⟩,?_⟩
 refine ao (a:=(AG (l.take k)).length+([[Dat.bool (decide ((l.getD k Fr.none).z<0)),Dat.sl (L (l.getD k Fr.none).z.natAbs),Dat.sl (L (l.getD k Fr.none).d)]]:List (List Dat)).length<=2199023255552) (by first|rfl|omega|(simp only [List.length_cons,List.length_nil];omega)) λ o13=>?_
 refine ⟨k+1,by
  first|trivial|omega|(simp;omega),by
  first|omega|(simp;omega),?_⟩
 refine ⟨rfl,?_,rfl,?_⟩
 ·first|rfl|(rw [BL hk];exact Hl hk)|exact Hl hk|exact AS (AC (by omega) (by omega))
 show ((AG (l.take k))++([[Dat.bool (decide ((l.getD k Fr.none).z<0)),Dat.sl (L (l.getD k Fr.none).z.natAbs),Dat.sl (L (l.getD k Fr.none).d)]]:List (List Dat)))=(AG (l.take (k+1)))
 first|rfl|(rw [BL hk];exact Hl hk)|exact Hl hk|exact AS (AC (by omega) (by omega))
def Cj:Con:={ ι:=Int×Int×Int×Int×(List (List V2)),pre:=λ i=>i.2.2.2.2.length<=1048576/\I6 i.2.2.2.2 i.2.2.2.2.length<=1048576/\(-9223372036854775808<=i.1/\i.1<=9223372036854775807)/\(-9223372036854775808<=i.2.1/\i.2.1<=9223372036854775807)/\(-9223372036854775808<=i.2.2.1/\i.2.2.1<=9223372036854775807)/\(-9223372036854775808<=i.2.2.2.1/\i.2.2.2.1<=9223372036854775807),args:=λ i=>[DA.agg [cI i.1,cI i.2.1,cI i.2.2.1,cI i.2.2.2.1],.one (DC.sl 25 [.sl 24 [.int,.int]] (AM i.2.2.2.2))],res:=λ i=>⟨false,[none],[.own 40 [.bool,.sl 3 [.int],.sl 3 [.int]] (AG (evR i.1 i.2.1 i.2.2.1 i.2.2.2.1 i.2.2.2.2))]⟩ }
theorem PV:Cj.Ok Tryz.prog 19:=by
 refine fok (X:=⟨tt,[(53,CS),(55,Dz),(54,CT)],[],21,[]⟩) mixed AQ (CTok.cons Me (CTok.cons TS (CTok.cons Mj (CTok.nil _)))) Tryz.func19 (λ _=>[]) ?_
 rintro ⟨lx,ly,hx,hy,ls⟩ hpre
 have hpre:ls.length<=1048576/\I6 ls ls.length<=1048576/\(-9223372036854775808<=lx/\lx<=9223372036854775807)/\(-9223372036854775808<=ly/\ly<=9223372036854775807)/\(-9223372036854775808<=hx/\hx<=9223372036854775807)/\(-9223372036854775808<=hy/\hy<=9223372036854775807):=hpre
 refine AP (q:=let Z2:=DC.sl 25 [.sl 24 [.int,.int]] (AM ls);let Z1:=(([]:List (List Dat))=AG (evR lx ly hx hy ls));∃ i1:(List (List V2)),[DA.one Z2]=CS.args i1/\CS.pre i1/\(ifB ((!(!(BU i1)))) (ifB ((decide (lx≥hx))) Z1 (∃ i2:Int×Int×Int×Int×(List (List V2)),[DA.agg [cI lx,cI ly,cI hx,cI hy],DA.one Z2]=Dz.args i2/\Dz.pre i2/\(∃ i3:(List Fr),[DA.one (DC.sl 40 z39 (AG (Bp [] (evF (Fr.ofInt i2.1) (Fr.ofInt i2.2.2.1) (cA i2.2.2.2.2 i2.2.2.2.2.length++cE (edA i2.2.2.2.2) i2.2.1 i2.2.2.2.1 (edA i2.2.2.2.2).length)++[Fr.ofInt i2.1,Fr.ofInt i2.2.2.1]))))]=CT.args i3/\CT.pre i3/\((AG i3=AG (evR lx ly hx hy ls)))))) Z1)) (by kernel_rfl) ?_
 conv=>zeta
 delta ifB
 have hal:=Ao ls
 refine ⟨ls,by
  rfl,by
  show ls.length<=9223372036854775807
  first|exact hpre.1|omega,?_⟩
 refine And.symm ⟨λ c4=>?_,λ c4=>?_⟩
 ·try simp only [nrm] at c4
  have hE:evR lx ly hx hy ls=[]:=X7 (λ h=>by rw [h.1] at c4;cases c4)
  rw [hE];rfl
 try simp only [nrm] at c4
 refine ⟨λ c5=>?_,λ c5=>?_⟩
 ·try simp only [nrm] at c5
  have hE:evR lx ly hx hy ls=[]:=X7 (λ h=>absurd h.2 (by omega))
  rw [hE];rfl
 try simp only [nrm] at c5
 have har:TN ls:=⟨c4,hpre.1,hpre.2.1⟩
 have hab:=(PR har (lo:=Fr.ofInt lx) (hi:=Fr.ofInt hx) (ly:=ly) (hy:=hy) (Nat.le_refl _) 0).2
 rw [BM] at hab
 have hpl:=OV (evF (Fr.ofInt lx) (Fr.ofInt hx) (cA ls ls.length++cE (edA ls) ly hy (edA ls).length)++[Fr.ofInt lx,Fr.ofInt hx]) []
 rw [List.length_append] at hpl
 simp only [List.length_cons,List.length_nil] at hpl
 refine ⟨(lx,ly,hx,hy,ls),by
  rfl,by
  try dsimp only [Dz]
  exact ⟨har,hpre.2.2⟩,?_⟩
 refine ⟨(Bp [] (evF (Fr.ofInt lx) (Fr.ofInt hx) (cA ls ls.length++cE (edA ls) ly hy (edA ls).length)++[Fr.ofInt lx,Fr.ofInt hx])),by
  rfl,by
  show (Bp [] (evF (Fr.ofInt lx) (Fr.ofInt hx) (cA ls ls.length++cE (edA ls) ly hy (edA ls).length)++[Fr.ofInt lx,Fr.ofInt hx])).length<=2000000000000
  first|exact hpre.1|omega,?_⟩
 rw [AAA c4 c5 hpre.2.2.1 hpre.2.2.2.2.1]
end Go.Proofs.YtkffpiaagjcmpaaGreat
