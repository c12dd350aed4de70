import Derived.Test.YtmedodfenejimaaGreatEvRkEs
namespace Go.Proofs.YtmedodfenejimaaGreat
set_option maxRecDepth 100000
set_option linter.unusedVariables false
set_option linter.unusedSimpArgs false
open Go.RowKit
def Dy:Con:={ ι:=Int×Int×Int×Int×(List (List V2)),pre:=λ i=>NR i.2.2.2.2/\(-9223372036854775808<=i.1/\i.1<=9223372036854775807)/\(-9223372036854775808<=i.2.1/\i.2.1<=9223372036854775807)/\(-9223372036854775808<=i.2.2.1/\i.2.2.1<=9223372036854775807)/\(-9223372036854775808<=i.2.2.2.1/\i.2.2.2.1<=9223372036854775807),args:=λ i=>[DA.agg [cI i.1,cI i.2.1,cI i.2.2.1,cI i.2.2.2.1],.one (DC.sl 40 [.sl 39 [.int,.int]] (AW i.2.2.2.2))],res:=λ i=>⟨false,[none],[.view 90 [.bool,.sl 3 [.int],.sl 3 [.int]] (AG (CA [] (evF (Fr.ofInt i.1) (Fr.ofInt i.2.2.1) (cA i.2.2.2.2 i.2.2.2.2.length++cE (edA i.2.2.2.2) i.2.1 i.2.2.2.1 (edA i.2.2.2.2).length)++[Fr.ofInt i.1,Fr.ofInt i.2.2.1])))]⟩ }
set_option maxHeartbeats 1600000 in
theorem QA:Dy.Ok Tryz.prog 98:=by
 refine fok (X:=⟨tt,[(129,Ab),(153,AT),(154,EC),(155,IX),(156,CM),(157,Ce)],[],97,[(152,⟨Tryz.f152.body.getD .skip,Tryz.f152.ntmps,Tryz.f152.results.toList⟩)]⟩) mixed AN (CTok.cons FR (CTok.cons I6 (CTok.cons Ot (CTok.cons VC (CTok.cons VE (CTok.cons Le (CTok.nil _))))))) (hil:=(InlOk.cons Tryz.func152 (by decide) rfl rfl rfl (InlOk.nil _))) Tryz.func98 (λ (i:Int×Int×Int×Int×(List (List V2)))=>let Z5:=edA i.2.2.2.2;let Z4:=AW i.2.2.2.2;let Z3:=Fr.ofInt i.1;let Z11:=L Z3.z.natAbs;let Z7:=decide (Z3.z<0);let Z2:=Ai Z5;let Z1:=Fr.ofInt i.2.2.1;let Z12:=L Z1.z.natAbs;let Z8:=decide (Z1.z<0);[(15,.mk 11 (Nat) (λ x8=>{ tm:=[(2,tP 1 0),(5,tP 2 0),(6,tP 5 0),(7,tP 8 0),(8,.one (.one (.clo 152 [2,5,8]))),(49,tX 10),(51,tI (nI x8)),(13,tX 10),(50,tI (nI (Z2.length)))],en:=[(1,.box [kI i.1,kI i.2.1,kI i.2.2.1,kI i.2.2.2.1]),(2,.box [kB Z7,.ext 3,.ext 4]),(5,.box [kB Z8,.ext 6,.ext 7]),(8,.box [.ext 9]),(3,.own 3 [.int] Z11),(4,.own 3 [.int] (L Z3.d)),(6,.own 3 [.int] Z12),(7,.own 3 [.int] (L Z1.d)),(9,.own 90 z84 (AG (evF Z3 Z1 (cA i.2.2.2.2 i.2.2.2.2.length++cE Z5 i.2.1 i.2.2.2.1 x8)))),(10,.own 140 Ko Z2)] }) (λ x8=>x8<=Z5.length) (λ x8=>Z5.length-x8) (λ x8=>let Z6:=Z2.getD x8 [];[(18,.mk 13 (Nat) (λ x9=>{ tm:=[(2,tP 1 0),(5,tP 2 0),(6,tP 5 0),(7,tP 8 0),(8,.one (.one (.clo 152 [2,5,8]))),(15,tP 10 0),(49,tX 11),(51,tI (nI x8)),(60,tI (nI x9)),(13,tX 11),(50,tI (nI (Z2.length))),(58,tX 12),(59,tI (nI ((Z2.take x8).length)))],en:=[(1,.box [kI i.1,kI i.2.1,kI i.2.2.1,kI i.2.2.2.1]),(2,.box [kB Z7,.ext 3,.ext 4]),(5,.box [kB Z8,.ext 6,.ext 7]),(8,.box [.ext 9]),(10,.box [kI (((Z6.getD 0 (.int 0))).n),kI (((Z6.getD 1 (.int 0))).n),kI (((Z6.getD 2 (.int 0))).n),kI (((Z6.getD 3 (.int 0))).n),kI (((Z6.getD 4 (.int 0))).n),kB (((Z6.getD 5 (.int 0))).b)]),(3,.own 3 [.int] Z11),(4,.own 3 [.int] (L Z3.d)),(6,.own 3 [.int] Z12),(7,.own 3 [.int] (L Z1.d)),(9,.own 90 z84 (AG (evF Z3 Z1 (cA i.2.2.2.2 i.2.2.2.2.length++(cE Z5 i.2.1 i.2.2.2.1 x8++cC Z5 x8 x9))))),(11,.own 140 Ko Z2),(12,.view 140 Ko (Z2.take x8) [11])] }) (λ x9=>x9<=x8) (λ x9=>x8-x9) (λ _=>[]))])),(5,.mk 11 (Nat) (λ x1=>{ tm:=[(1,tX 1),(2,tP 2 0),(5,tP 3 0),(6,tP 6 0),(7,tP 9 0),(8,.one (.one (.clo 152 [3,6,9]))),(28,tX 1),(29,tI (nI (Z4.length))),(30,tI (nI x1))],en:=[(2,.box [kI i.1,kI i.2.1,kI i.2.2.1,kI i.2.2.2.1]),(3,.box [kB Z7,.ext 4,.ext 5]),(6,.box [kB Z8,.ext 7,.ext 8]),(9,.box [.ext 10]),(1,.view 40 [.sl 39 [.int,.int]] Z4 []),(4,.own 3 [.int] Z11),(5,.own 3 [.int] (L Z3.d)),(7,.own 3 [.int] Z12),(8,.own 3 [.int] (L Z1.d)),(10,.own 90 z84 (AG (evF Z3 Z1 (cA i.2.2.2.2 x1))))] }) (λ x1=>x1<=i.2.2.2.2.length) (λ x1=>i.2.2.2.2.length-x1) (λ x1=>let Z10:=(((Z4.getD x1 []).getD 0 (.int 0))).r;let Z9:=i.2.2.2.2.getD x1 [];[(8,.mk 12 (Nat) (λ x2=>{ tm:=[(1,tX 1),(2,tP 2 0),(5,tP 3 0),(6,tP 6 0),(7,tP 9 0),(8,.one (.one (.clo 152 [3,6,9]))),(28,tX 1),(29,tI (nI (Z4.length))),(30,tI (nI x1)),(34,tX 11),(35,tI (nI (Z10.length))),(36,tI (nI x2))],en:=[(2,.box [kI i.1,kI i.2.1,kI i.2.2.1,kI i.2.2.2.1]),(3,.box [kB Z7,.ext 4,.ext 5]),(6,.box [kB Z8,.ext 7,.ext 8]),(9,.box [.ext 10]),(1,.view 40 [.sl 39 [.int,.int]] Z4 []),(4,.own 3 [.int] Z11),(5,.own 3 [.int] (L Z3.d)),(7,.own 3 [.int] Z12),(8,.own 3 [.int] (L Z1.d)),(10,.own 90 z84 (AG (evF Z3 Z1 (cA i.2.2.2.2 x1++cV Z9 x2)))),(11,.view 39 [.int,.int] Z10 [])] }) (λ x2=>x2<=Z9.length) (λ x2=>Z9.length-x2) (λ _=>[]))]))]) ?_
 rintro ⟨lx,ly,hx,hy,ls⟩ hpre
 have hpre:NR ls/\(-9223372036854775808<=lx/\lx<=9223372036854775807)/\(-9223372036854775808<=ly/\ly<=9223372036854775807)/\(-9223372036854775808<=hx/\hx<=9223372036854775807)/\(-9223372036854775808<=hy/\hy<=9223372036854775807):=hpre
 refine AP (q:=let Z31:=AW ls;let Z30:=List Dat;let Z22:=vI (nI (Z31.length));let Z5:=Ai (edA ls);let Z44:=nI (Z5.length);let Z10:=vI Z44;let Z4:=Fr.ofInt hx;let Z39:=decide (Z4.z<0);let Z12:=L Z4.z.natAbs;let Z9:=vB Z39;let Z3:=Fr.ofInt lx;let Z40:=decide (Z3.z<0);let Z11:=L Z3.z.natAbs;let Z8:=vB Z40;∃ i1:Int,[DA.one (cI lx)]=Ab.args i1/\Ab.pre i1/\(∃ i2:Int,[DA.one (cI hx)]=Ab.args i2/\Ab.pre i2/\((∃ x1:Nat,(x1<=ls.length)/\((rf (152))/\(rf Z22)/\(vI (0:Int)=vI (nI x1))/\(rf (vI lx))/\(rf (vI ly))/\(rf (vI hx))/\(rf (vI hy))/\(vB (decide ((Fr.ofInt i1).z<0))=vB Z40)/\(vB (decide ((Fr.ofInt i2).z<0))=vB Z39)/\(rf Z31)/\(L (Fr.ofInt i1).z.natAbs=Z11)/\(L (Fr.ofInt i1).d=(L Z3.d))/\(L (Fr.ofInt i2).z.natAbs=Z12)/\(L (Fr.ofInt i2).d=(L Z4.d))/\(([]:List Z30)=(AG (evF Z3 Z4 (cA ls x1))))))/\∀ x1:Nat,let Z43:=AG (evF Z3 Z4 (cA ls x1));let Z41:=vI (nI x1);let Z14:=ls.getD x1 [];let Z7:=(((Z31.getD x1 []).getD 0 (.int 0))).r;let Z34:=vI (nI (Z7.length));(x1<=ls.length)->(ifB ((decide ((nI x1)<(nI (Z31.length))))) ((0<=(nI x1)/\(nI x1)<(Z31.length:Int))/\((x1<Z31.length)/\((∃ x2:Nat,(x2<=Z14.length)/\((rf (152))/\(rf Z22)/\(rf Z41)/\(rf Z34)/\(vI (0:Int)=vI (nI x2))/\(rf (vI lx))/\(rf (vI ly))/\(rf (vI hx))/\(rf (vI hy))/\(rf Z8)/\(rf Z9)/\(rf Z31)/\(rf Z11)/\(rf (L Z3.d))/\(rf Z12)/\(rf (L Z4.d))/\(Z43=(AG (evF Z3 Z4 (cA ls x1++cV Z14 x2))))/\(rf Z7)))/\∀ x2:Nat,let Z35:=wR ((nI x2)+(1:Int));let Z21:=AG (evF Z3 Z4 (cA ls x1++cV Z14 x2));(x2<=Z14.length)->(ifB ((decide ((nI x2)<(nI (Z7.length))))) ((0<=(nI x2)/\(nI x2)<(Z7.length:Int))/\((x2<Z7.length)/\(∃ i3:Int,let Z37:=Fr.ofInt i3;[DA.one (cI ((((Z7.getD x2 []).getD 0 (.int 0))).n))]=Ab.args i3/\Ab.pre i3/\(ifB (true) (∃ i4:Fr×Fr,[dF Z37,dF Z3]=AT.args i4/\AT.pre i4/\(ifB ((decide ((Fr.cmp i4.1 i4.2)>(0:Int)))) (∃ i5:Fr×Fr,[dF Z37,dF Z4]=AT.args i5/\AT.pre i5/\(ifB ((decide ((Fr.cmp i5.1 i5.2)<(0:Int)))) ((Z21.length+([[Dat.bool (decide (Z37.z<0)),Dat.sl (L Z37.z.natAbs),Dat.sl (L Z37.d)]]:List Z30).length<=2199023255552)/\(∃ y3:Nat,(y3<=Z14.length)/\(Z14.length-y3<Z14.length-x2)/\((rf (152))/\(rf Z22)/\(rf Z41)/\(rf Z34)/\(vI Z35=vI (nI y3))/\(rf (vI lx))/\(rf (vI ly))/\(rf (vI hx))/\(rf (vI hy))/\(rf Z8)/\(rf Z9)/\(rf Z31)/\(rf Z11)/\(rf (L Z3.d))/\(rf Z12)/\(rf (L Z4.d))/\((Z21++([[Dat.bool (decide (Z37.z<0)),Dat.sl (L Z37.z.natAbs),Dat.sl (L Z37.d)]]:List Z30))=(AG (evF Z3 Z4 (cA ls x1++cV Z14 y3))))/\(rf Z7)))) (∃ y4:Nat,(y4<=Z14.length)/\(Z14.length-y4<Z14.length-x2)/\((rf (152))/\(rf Z22)/\(rf Z41)/\(rf Z34)/\(vI Z35=vI (nI y4))/\(rf (vI lx))/\(rf (vI ly))/\(rf (vI hx))/\(rf (vI hy))/\(rf Z8)/\(rf Z9)/\(rf Z31)/\(rf Z11)/\(rf (L Z3.d))/\(rf Z12)/\(rf (L Z4.d))/\(Z21=(AG (evF Z3 Z4 (cA ls x1++cV Z14 y4))))/\(rf Z7))))) (∃ y5:Nat,(y5<=Z14.length)/\(Z14.length-y5<Z14.length-x2)/\((rf (152))/\(rf Z22)/\(rf Z41)/\(rf Z34)/\(vI Z35=vI (nI y5))/\(rf (vI lx))/\(rf (vI ly))/\(rf (vI hx))/\(rf (vI hy))/\(rf Z8)/\(rf Z9)/\(rf Z31)/\(rf Z11)/\(rf (L Z3.d))/\(rf Z12)/\(rf (L Z4.d))/\(Z21=(AG (evF Z3 Z4 (cA ls x1++cV Z14 y5))))/\(rf Z7))))) (∃ y6:Nat,(y6<=Z14.length)/\(Z14.length-y6<Z14.length-x2)/\((rf (152))/\(rf Z22)/\(rf Z41)/\(rf Z34)/\(vI Z35=vI (nI y6))/\(rf (vI lx))/\(rf (vI ly))/\(rf (vI hx))/\(rf (vI hy))/\(rf Z8)/\(rf Z9)/\(rf Z31)/\(rf Z11)/\(rf (L Z3.d))/\(rf Z12)/\(rf (L Z4.d))/\(Z21=(AG (evF Z3 Z4 (cA ls x1++cV Z14 y6))))/\(rf Z7))))))) (∃ y7:Nat,(y7<=ls.length)/\(ls.length-y7<ls.length-x1)/\((rf (152))/\(rf Z22)/\(vI (wR ((nI x1)+(1:Int)))=vI (nI y7))/\(rf (vI lx))/\(rf (vI ly))/\(rf (vI hx))/\(rf (vI hy))/\(rf Z8)/\(rf Z9)/\(rf Z31)/\(rf Z11)/\(rf (L Z3.d))/\(rf Z12)/\(rf (L Z4.d))/\(Z21=(AG (evF Z3 Z4 (cA ls y7)))))))))) (∃ i6:(List (List V2)),[DA.one (DC.sl 40 [.sl 39 [.int,.int]] Z31)]=EC.args i6/\EC.pre i6/\((∃ x8:Nat,(x8<=(edA ls).length)/\((rf (152))/\(vI (0:Int)=vI (nI x8))/\(vI (nI ((Ai (edA i6)).length))=vI Z44)/\(rf (vI lx))/\(rf (vI ly))/\(rf (vI hx))/\(rf (vI hy))/\(rf Z8)/\(rf Z9)/\(rf Z11)/\(rf (L Z3.d))/\(rf Z12)/\(rf (L Z4.d))/\(Z43=(AG (evF Z3 Z4 (cA ls ls.length++cE (edA ls) ly hy x8))))/\(Ai (edA i6)=Z5)))/\∀ x8:Nat,let Z42:=vI (nI x8);let Z24:=AG (evF Z3 Z4 (cA ls ls.length++cE (edA ls) ly hy x8));let Z23:=Z5.take x8;let Z33:=vI (nI (Z23.length));let Z13:=wR ((nI x8)+(1:Int));let Z2:=Z5.getD x8 [];let Z20:=((Z2.getD 5 (.int 0))).b;let Z19:=((Z2.getD 4 (.int 0))).n;let Z18:=((Z2.getD 3 (.int 0))).n;let Z17:=((Z2.getD 2 (.int 0))).n;let Z16:=((Z2.getD 1 (.int 0))).n;let Z15:=((Z2.getD 0 (.int 0))).n;(x8<=(edA ls).length)->(ifB ((decide ((nI x8)<Z44))) ((0<=(nI x8)/\(nI x8)<(Z5.length:Int))/\((x8<Z5.length)/\((Nat.beq 6 6=true)/\((0<=(0:Int))/\(((0:Int)<=(nI x8))/\(((nI x8)<=(Z5.length:Int))/\((∃ x9:Nat,(x9<=x8)/\((rf (152))/\(rf Z42)/\(vI (0:Int)=vI (nI x9))/\(rf Z10)/\(rf Z33)/\(rf (vI lx))/\(rf (vI ly))/\(rf (vI hx))/\(rf (vI hy))/\(rf Z8)/\(rf Z9)/\(vI ((Z2.getD 0 (.int 0))).n=vI Z15)/\(vI ((Z2.getD 1 (.int 0))).n=vI Z16)/\(vI ((Z2.getD 2 (.int 0))).n=vI Z17)/\(vI ((Z2.getD 3 (.int 0))).n=vI Z18)/\(vI ((Z2.getD 4 (.int 0))).n=vI Z19)/\(rf (vB Z20))/\(rf Z11)/\(rf (L Z3.d))/\(rf Z12)/\(rf (L Z4.d))/\(Z24=(AG (evF Z3 Z4 (cA ls ls.length++(cE (edA ls) ly hy x8++cC (edA ls) x8 x9)))))/\(rf Z5)/\(rf Z23)))/\∀ x9:Nat,let Z38:=Z23.getD x9 [];let Z36:=wR ((nI x9)+(1:Int));let Z1:=AG (evF Z3 Z4 (cA ls ls.length++(cE (edA ls) ly hy x8++cC (edA ls) x8 x9)));(x9<=x8)->(ifB ((decide ((nI x9)<(nI (Z23.length))))) ((0<=(nI x9)/\(nI x9)<(Z23.length:Int))/\((x9<Z23.length)/\(∃ i7:Edg×Edg,let Z32:=Cb i7.1 i7.2;[DA.agg [cI Z15,cI Z16,cI Z17,cI Z18,cI Z19,cB Z20],DA.agg [cI (((Z38.getD 0 (.int 0))).n),cI (((Z38.getD 1 (.int 0))).n),cI (((Z38.getD 2 (.int 0))).n),cI (((Z38.getD 3 (.int 0))).n),cI (((Z38.getD 4 (.int 0))).n),cB (((Z38.getD 5 (.int 0))).b)]]=IX.args i7/\IX.pre i7/\(ifB ((DD i7.1 i7.2)) (∃ i8:Fr×Fr,[dF Z32,dF Z3]=AT.args i8/\AT.pre i8/\(ifB ((decide ((Fr.cmp i8.1 i8.2)>(0:Int)))) (∃ i9:Fr×Fr,[dF Z32,dF Z4]=AT.args i9/\AT.pre i9/\(ifB ((decide ((Fr.cmp i9.1 i9.2)<(0:Int)))) ((Z1.length+([[Dat.bool (decide (Z32.z<0)),Dat.sl (L Z32.z.natAbs),Dat.sl (L Z32.d)]]:List Z30).length<=2199023255552)/\(∃ y10:Nat,(y10<=x8)/\(x8-y10<x8-x9)/\((rf (152))/\(rf Z42)/\(vI Z36=vI (nI y10))/\(rf Z10)/\(rf Z33)/\(rf (vI lx))/\(rf (vI ly))/\(rf (vI hx))/\(rf (vI hy))/\(rf Z8)/\(rf Z9)/\(rf (vI Z15))/\(rf (vI Z16))/\(rf (vI Z17))/\(rf (vI Z18))/\(rf (vI Z19))/\(rf (vB Z20))/\(rf Z11)/\(rf (L Z3.d))/\(rf Z12)/\(rf (L Z4.d))/\((Z1++([[Dat.bool (decide (Z32.z<0)),Dat.sl (L Z32.z.natAbs),Dat.sl (L Z32.d)]]:List Z30))=(AG (evF Z3 Z4 (cA ls ls.length++(cE (edA ls) ly hy x8++cC (edA ls) x8 y10)))))/\(rf Z5)/\(rf Z23)))) (∃ y11:Nat,(y11<=x8)/\(x8-y11<x8-x9)/\((rf (152))/\(rf Z42)/\(vI Z36=vI (nI y11))/\(rf Z10)/\(rf Z33)/\(rf (vI lx))/\(rf (vI ly))/\(rf (vI hx))/\(rf (vI hy))/\(rf Z8)/\(rf Z9)/\(rf (vI Z15))/\(rf (vI Z16))/\(rf (vI Z17))/\(rf (vI Z18))/\(rf (vI Z19))/\(rf (vB Z20))/\(rf Z11)/\(rf (L Z3.d))/\(rf Z12)/\(rf (L Z4.d))/\(Z1=(AG (evF Z3 Z4 (cA ls ls.length++(cE (edA ls) ly hy x8++cC (edA ls) x8 y11)))))/\(rf Z5)/\(rf Z23))))) (∃ y12:Nat,(y12<=x8)/\(x8-y12<x8-x9)/\((rf (152))/\(rf Z42)/\(vI Z36=vI (nI y12))/\(rf Z10)/\(rf Z33)/\(rf (vI lx))/\(rf (vI ly))/\(rf (vI hx))/\(rf (vI hy))/\(rf Z8)/\(rf Z9)/\(rf (vI Z15))/\(rf (vI Z16))/\(rf (vI Z17))/\(rf (vI Z18))/\(rf (vI Z19))/\(rf (vB Z20))/\(rf Z11)/\(rf (L Z3.d))/\(rf Z12)/\(rf (L Z4.d))/\(Z1=(AG (evF Z3 Z4 (cA ls ls.length++(cE (edA ls) ly hy x8++cC (edA ls) x8 y12)))))/\(rf Z5)/\(rf Z23))))) (∃ y13:Nat,(y13<=x8)/\(x8-y13<x8-x9)/\((rf (152))/\(rf Z42)/\(vI Z36=vI (nI y13))/\(rf Z10)/\(rf Z33)/\(rf (vI lx))/\(rf (vI ly))/\(rf (vI hx))/\(rf (vI hy))/\(rf Z8)/\(rf Z9)/\(rf (vI Z15))/\(rf (vI Z16))/\(rf (vI Z17))/\(rf (vI Z18))/\(rf (vI Z19))/\(rf (vB Z20))/\(rf Z11)/\(rf (L Z3.d))/\(rf Z12)/\(rf (L Z4.d))/\(Z1=(AG (evF Z3 Z4 (cA ls ls.length++(cE (edA ls) ly hy x8++cC (edA ls) x8 y13)))))/\(rf Z5)/\(rf Z23))))))) (∃ i10:Edg×Int,let Z25:=As i10.1 i10.2;let Z6:=Z1++([[Dat.bool (decide (Z25.z<0)),Dat.sl (L Z25.z.natAbs),Dat.sl (L Z25.d)]]:List Z30);[DA.agg [cI Z15,cI Z16,cI Z17,cI Z18,cI Z19,cB Z20],DA.one (cI ly)]=CM.args i10/\CM.pre i10/\(ifB ((Bm i10.1 i10.2)) (∃ i11:Fr×Fr,[dF Z25,dF Z3]=AT.args i11/\AT.pre i11/\(ifB ((decide ((Fr.cmp i11.1 i11.2)>(0:Int)))) (∃ i12:Fr×Fr,[dF Z25,dF Z4]=AT.args i12/\AT.pre i12/\(ifB ((decide ((Fr.cmp i12.1 i12.2)<(0:Int)))) ((Z1.length+([[Dat.bool (decide (Z25.z<0)),Dat.sl (L Z25.z.natAbs),Dat.sl (L Z25.d)]]:List Z30).length<=2199023255552)/\(∃ i13:Edg×Int,let Z26:=As i13.1 i13.2;[DA.agg [cI Z15,cI Z16,cI Z17,cI Z18,cI Z19,cB Z20],DA.one (cI hy)]=CM.args i13/\CM.pre i13/\(ifB ((Bm i13.1 i13.2)) (∃ i14:Fr×Fr,[dF Z26,dF Z3]=AT.args i14/\AT.pre i14/\(ifB ((decide ((Fr.cmp i14.1 i14.2)>(0:Int)))) (∃ i15:Fr×Fr,[dF Z26,dF Z4]=AT.args i15/\AT.pre i15/\(ifB ((decide ((Fr.cmp i15.1 i15.2)<(0:Int)))) ((Z6.length+([[Dat.bool (decide (Z26.z<0)),Dat.sl (L Z26.z.natAbs),Dat.sl (L Z26.d)]]:List Z30).length<=2199023255552)/\(∃ y14:Nat,(y14<=(edA ls).length)/\((edA ls).length-y14<(edA ls).length-x8)/\((rf (152))/\(vI Z13=vI (nI y14))/\(rf Z10)/\(rf (vI lx))/\(rf (vI ly))/\(rf (vI hx))/\(rf (vI hy))/\(rf Z8)/\(rf Z9)/\(rf Z11)/\(rf (L Z3.d))/\(rf Z12)/\(rf (L Z4.d))/\((Z6++([[Dat.bool (decide (Z26.z<0)),Dat.sl (L Z26.z.natAbs),Dat.sl (L Z26.d)]]:List Z30))=(AG (evF Z3 Z4 (cA ls ls.length++cE (edA ls) ly hy y14))))/\(rf Z5)))) (∃ y15:Nat,(y15<=(edA ls).length)/\((edA ls).length-y15<(edA ls).length-x8)/\((rf (152))/\(vI Z13=vI (nI y15))/\(rf Z10)/\(rf (vI lx))/\(rf (vI ly))/\(rf (vI hx))/\(rf (vI hy))/\(rf Z8)/\(rf Z9)/\(rf Z11)/\(rf (L Z3.d))/\(rf Z12)/\(rf (L Z4.d))/\(Z6=(AG (evF Z3 Z4 (cA ls ls.length++cE (edA ls) ly hy y15))))/\(rf Z5))))) (∃ y16:Nat,(y16<=(edA ls).length)/\((edA ls).length-y16<(edA ls).length-x8)/\((rf (152))/\(vI Z13=vI (nI y16))/\(rf Z10)/\(rf (vI lx))/\(rf (vI ly))/\(rf (vI hx))/\(rf (vI hy))/\(rf Z8)/\(rf Z9)/\(rf Z11)/\(rf (L Z3.d))/\(rf Z12)/\(rf (L Z4.d))/\(Z6=(AG (evF Z3 Z4 (cA ls ls.length++cE (edA ls) ly hy y16))))/\(rf Z5))))) (∃ y17:Nat,(y17<=(edA ls).length)/\((edA ls).length-y17<(edA ls).length-x8)/\((rf (152))/\(vI Z13=vI (nI y17))/\(rf Z10)/\(rf (vI lx))/\(rf (vI ly))/\(rf (vI hx))/\(rf (vI hy))/\(rf Z8)/\(rf Z9)/\(rf Z11)/\(rf (L Z3.d))/\(rf Z12)/\(rf (L Z4.d))/\(Z6=(AG (evF Z3 Z4 (cA ls ls.length++cE (edA ls) ly hy y17))))/\(rf Z5)))))) (∃ i16:Edg×Int,let Z27:=As i16.1 i16.2;[DA.agg [cI Z15,cI Z16,cI Z17,cI Z18,cI Z19,cB Z20],DA.one (cI hy)]=CM.args i16/\CM.pre i16/\(ifB ((Bm i16.1 i16.2)) (∃ i17:Fr×Fr,[dF Z27,dF Z3]=AT.args i17/\AT.pre i17/\(ifB ((decide ((Fr.cmp i17.1 i17.2)>(0:Int)))) (∃ i18:Fr×Fr,[dF Z27,dF Z4]=AT.args i18/\AT.pre i18/\(ifB ((decide ((Fr.cmp i18.1 i18.2)<(0:Int)))) ((Z1.length+([[Dat.bool (decide (Z27.z<0)),Dat.sl (L Z27.z.natAbs),Dat.sl (L Z27.d)]]:List Z30).length<=2199023255552)/\(∃ y18:Nat,(y18<=(edA ls).length)/\((edA ls).length-y18<(edA ls).length-x8)/\((rf (152))/\(vI Z13=vI (nI y18))/\(rf Z10)/\(rf (vI lx))/\(rf (vI ly))/\(rf (vI hx))/\(rf (vI hy))/\(rf Z8)/\(rf Z9)/\(rf Z11)/\(rf (L Z3.d))/\(rf Z12)/\(rf (L Z4.d))/\((Z1++([[Dat.bool (decide (Z27.z<0)),Dat.sl (L Z27.z.natAbs),Dat.sl (L Z27.d)]]:List Z30))=(AG (evF Z3 Z4 (cA ls ls.length++cE (edA ls) ly hy y18))))/\(rf Z5)))) (∃ y19:Nat,(y19<=(edA ls).length)/\((edA ls).length-y19<(edA ls).length-x8)/\((rf (152))/\(vI Z13=vI (nI y19))/\(rf Z10)/\(rf (vI lx))/\(rf (vI ly))/\(rf (vI hx))/\(rf (vI hy))/\(rf Z8)/\(rf Z9)/\(rf Z11)/\(rf (L Z3.d))/\(rf Z12)/\(rf (L Z4.d))/\(Z1=(AG (evF Z3 Z4 (cA ls ls.length++cE (edA ls) ly hy y19))))/\(rf Z5))))) (∃ y20:Nat,(y20<=(edA ls).length)/\((edA ls).length-y20<(edA ls).length-x8)/\((rf (152))/\(vI Z13=vI (nI y20))/\(rf Z10)/\(rf (vI lx))/\(rf (vI ly))/\(rf (vI hx))/\(rf (vI hy))/\(rf Z8)/\(rf Z9)/\(rf Z11)/\(rf (L Z3.d))/\(rf Z12)/\(rf (L Z4.d))/\(Z1=(AG (evF Z3 Z4 (cA ls ls.length++cE (edA ls) ly hy y20))))/\(rf Z5))))) (∃ y21:Nat,(y21<=(edA ls).length)/\((edA ls).length-y21<(edA ls).length-x8)/\((rf (152))/\(vI Z13=vI (nI y21))/\(rf Z10)/\(rf (vI lx))/\(rf (vI ly))/\(rf (vI hx))/\(rf (vI hy))/\(rf Z8)/\(rf Z9)/\(rf Z11)/\(rf (L Z3.d))/\(rf Z12)/\(rf (L Z4.d))/\(Z1=(AG (evF Z3 Z4 (cA ls ls.length++cE (edA ls) ly hy y21))))/\(rf Z5))))))) (∃ i19:Edg×Int,let Z28:=As i19.1 i19.2;[DA.agg [cI Z15,cI Z16,cI Z17,cI Z18,cI Z19,cB Z20],DA.one (cI hy)]=CM.args i19/\CM.pre i19/\(ifB ((Bm i19.1 i19.2)) (∃ i20:Fr×Fr,[dF Z28,dF Z3]=AT.args i20/\AT.pre i20/\(ifB ((decide ((Fr.cmp i20.1 i20.2)>(0:Int)))) (∃ i21:Fr×Fr,[dF Z28,dF Z4]=AT.args i21/\AT.pre i21/\(ifB ((decide ((Fr.cmp i21.1 i21.2)<(0:Int)))) ((Z1.length+([[Dat.bool (decide (Z28.z<0)),Dat.sl (L Z28.z.natAbs),Dat.sl (L Z28.d)]]:List Z30).length<=2199023255552)/\(∃ y22:Nat,(y22<=(edA ls).length)/\((edA ls).length-y22<(edA ls).length-x8)/\((rf (152))/\(vI Z13=vI (nI y22))/\(rf Z10)/\(rf (vI lx))/\(rf (vI ly))/\(rf (vI hx))/\(rf (vI hy))/\(rf Z8)/\(rf Z9)/\(rf Z11)/\(rf (L Z3.d))/\(rf Z12)/\(rf (L Z4.d))/\((Z1++([[Dat.bool (decide (Z28.z<0)),Dat.sl (L Z28.z.natAbs),Dat.sl (L Z28.d)]]:List Z30))=(AG (evF Z3 Z4 (cA ls ls.length++cE (edA ls) ly hy y22))))/\(rf Z5)))) (∃ y23:Nat,(y23<=(edA ls).length)/\((edA ls).length-y23<(edA ls).length-x8)/\((rf (152))/\(vI Z13=vI (nI y23))/\(rf Z10)/\(rf (vI lx))/\(rf (vI ly))/\(rf (vI hx))/\(rf (vI hy))/\(rf Z8)/\(rf Z9)/\(rf Z11)/\(rf (L Z3.d))/\(rf Z12)/\(rf (L Z4.d))/\(Z1=(AG (evF Z3 Z4 (cA ls ls.length++cE (edA ls) ly hy y23))))/\(rf Z5))))) (∃ y24:Nat,(y24<=(edA ls).length)/\((edA ls).length-y24<(edA ls).length-x8)/\((rf (152))/\(vI Z13=vI (nI y24))/\(rf Z10)/\(rf (vI lx))/\(rf (vI ly))/\(rf (vI hx))/\(rf (vI hy))/\(rf Z8)/\(rf Z9)/\(rf Z11)/\(rf (L Z3.d))/\(rf Z12)/\(rf (L Z4.d))/\(Z1=(AG (evF Z3 Z4 (cA ls ls.length++cE (edA ls) ly hy y24))))/\(rf Z5))))) (∃ y25:Nat,(y25<=(edA ls).length)/\((edA ls).length-y25<(edA ls).length-x8)/\((rf (152))/\(vI Z13=vI (nI y25))/\(rf Z10)/\(rf (vI lx))/\(rf (vI ly))/\(rf (vI hx))/\(rf (vI hy))/\(rf Z8)/\(rf Z9)/\(rf Z11)/\(rf (L Z3.d))/\(rf Z12)/\(rf (L Z4.d))/\(Z1=(AG (evF Z3 Z4 (cA ls ls.length++cE (edA ls) ly hy y25))))/\(rf Z5))))))) (∃ i22:Edg×Int,let Z29:=As i22.1 i22.2;[DA.agg [cI Z15,cI Z16,cI Z17,cI Z18,cI Z19,cB Z20],DA.one (cI hy)]=CM.args i22/\CM.pre i22/\(ifB ((Bm i22.1 i22.2)) (∃ i23:Fr×Fr,[dF Z29,dF Z3]=AT.args i23/\AT.pre i23/\(ifB ((decide ((Fr.cmp i23.1 i23.2)>(0:Int)))) (∃ i24:Fr×Fr,[dF Z29,dF Z4]=AT.args i24/\AT.pre i24/\(ifB ((decide ((Fr.cmp i24.1 i24.2)<(0:Int)))) ((Z1.length+([[Dat.bool (decide (Z29.z<0)),Dat.sl (L Z29.z.natAbs),Dat.sl (L Z29.d)]]:List Z30).length<=2199023255552)/\(∃ y26:Nat,(y26<=(edA ls).length)/\((edA ls).length-y26<(edA ls).length-x8)/\((rf (152))/\(vI Z13=vI (nI y26))/\(rf Z10)/\(rf (vI lx))/\(rf (vI ly))/\(rf (vI hx))/\(rf (vI hy))/\(rf Z8)/\(rf Z9)/\(rf Z11)/\(rf (L Z3.d))/\(rf Z12)/\(rf (L Z4.d))/\((Z1++([[Dat.bool (decide (Z29.z<0)),Dat.sl (L Z29.z.natAbs),Dat.sl (L Z29.d)]]:List Z30))=(AG (evF Z3 Z4 (cA ls ls.length++cE (edA ls) ly hy y26))))/\(rf Z5)))) (∃ y27:Nat,(y27<=(edA ls).length)/\((edA ls).length-y27<(edA ls).length-x8)/\((rf (152))/\(vI Z13=vI (nI y27))/\(rf Z10)/\(rf (vI lx))/\(rf (vI ly))/\(rf (vI hx))/\(rf (vI hy))/\(rf Z8)/\(rf Z9)/\(rf Z11)/\(rf (L Z3.d))/\(rf Z12)/\(rf (L Z4.d))/\(Z1=(AG (evF Z3 Z4 (cA ls ls.length++cE (edA ls) ly hy y27))))/\(rf Z5))))) (∃ y28:Nat,(y28<=(edA ls).length)/\((edA ls).length-y28<(edA ls).length-x8)/\((rf (152))/\(vI Z13=vI (nI y28))/\(rf Z10)/\(rf (vI lx))/\(rf (vI ly))/\(rf (vI hx))/\(rf (vI hy))/\(rf Z8)/\(rf Z9)/\(rf Z11)/\(rf (L Z3.d))/\(rf Z12)/\(rf (L Z4.d))/\(Z1=(AG (evF Z3 Z4 (cA ls ls.length++cE (edA ls) ly hy y28))))/\(rf Z5))))) (∃ y29:Nat,(y29<=(edA ls).length)/\((edA ls).length-y29<(edA ls).length-x8)/\((rf (152))/\(vI Z13=vI (nI y29))/\(rf Z10)/\(rf (vI lx))/\(rf (vI ly))/\(rf (vI hx))/\(rf (vI hy))/\(rf Z8)/\(rf Z9)/\(rf Z11)/\(rf (L Z3.d))/\(rf Z12)/\(rf (L Z4.d))/\(Z1=(AG (evF Z3 Z4 (cA ls ls.length++cE (edA ls) ly hy y29))))/\(rf Z5))))))))))))))) ((Z24.length+([[Dat.bool Z40,Dat.sl Z11,Dat.sl (L Z3.d)],[Dat.bool Z39,Dat.sl Z12,Dat.sl (L Z4.d)]]:List Z30).length<=2199023255552)/\(∃ i25:(List Fr),[DA.one (DC.sl 90 z84 (Z24++([[Dat.bool Z40,Dat.sl Z11,Dat.sl (L Z3.d)],[Dat.bool Z39,Dat.sl Z12,Dat.sl (L Z4.d)]]:List Z30)))]=Ce.args i25/\Ce.pre i25/\((AG (CA [] i25)=AG (CA [] (evF Z3 Z4 (cA ls ls.length++cE (edA ls) ly hy (edA ls).length)++[Fr.ofInt lx,Fr.ofInt hx]))))))))))))) (by kernel_rfl) ?_
 conv=>zeta
 delta ifB vB vI wR nI
 have hal:=BG ls
 have hed:=Q6 hpre.1
 have hb0:=hpre.1.2.1
 have hgl:=Q7 (hpre.2.1)
 have hgh:=Q7 (hpre.2.2.2.1)
 refine ⟨lx,by
  rfl,by
  show -9223372036854775808<=lx/\lx<=9223372036854775807
  first|trivial|exact hpre.2.1|exact hpre.2.2.2.1|exact ⟨hpre.1.1,hpre.1.2.1⟩|exact ⟨by omega,by omega⟩,?_⟩
 refine ⟨hx,by
  rfl,by
  show -9223372036854775808<=hx/\hx<=9223372036854775807
  first|trivial|exact hpre.2.1|exact hpre.2.2.2.1|exact ⟨hpre.1.1,hpre.1.2.1⟩|exact ⟨by omega,by omega⟩,?_⟩
 refine ⟨⟨0,by
  first|trivial|omega|(simp;omega),?_⟩,?_⟩
 ·refine ⟨rfl,rfl,?_,rfl,rfl,rfl,rfl,rfl,rfl,rfl,rfl,rfl,rfl,rfl,?_⟩
  ·first|rfl|(simp;done)
  first|rfl|(simp;done)
 intro (k:Nat) hki7
 have hki7:k<=ls.length:=hki7
 refine ⟨λ c24=>?_,λ c24=>?_⟩
 ·try simp only [nrm] at c24
  have hkl:k<ls.length:=by omega
  have hP:=FU hpre.1.1 hkl
  have h16:=(BS hP).2.2
  have hV:=(BS hP).1
  refine ao (by first|rfl|omega|(rw [AA];omega)|(rw [AJ,AA,List.length_take];omega)|(rw [AL hkl,AF];omega)|(have:=B6 hpre.1 (lo:=Fr.ofInt lx) (hi:=Fr.ofInt hx) (n:=n) hkl;simp only [List.length_cons,List.length_nil];omega)|(have:=(hbi n).1;simp only [List.length_append,List.length_cons,List.length_nil];omega)|(have:=hbi.2;simp only [List.length_append,List.length_cons,List.length_nil];omega)) λ o25=>?_
  refine ao (by first|rfl|omega|(rw [AA];omega)|(rw [AJ,AA,List.length_take];omega)|(rw [AL hkl,AF];omega)|(have:=B6 hpre.1 (lo:=Fr.ofInt lx) (hi:=Fr.ofInt hx) (n:=n) hkl;simp only [List.length_cons,List.length_nil];omega)|(have:=(hbi n).1;simp only [List.length_append,List.length_cons,List.length_nil];omega)|(have:=hbi.2;simp only [List.length_append,List.length_cons,List.length_nil];omega)) λ o26=>?_
  refine ⟨⟨0,by
   first|trivial|omega|(simp;omega),?_⟩,?_⟩
  ·refine ⟨rfl,rfl,rfl,rfl,?_,rfl,rfl,rfl,rfl,rfl,rfl,rfl,rfl,rfl,rfl,rfl,?_,rfl⟩
   ·first|rfl|(simp;done)
   unfold cV;rw [List.take_zero];simp
  intro (n:Nat) hki27
  have hki27:n<=(ls.getD k []).length:=hki27
  refine And.symm ⟨λ c47=>?_,λ c47=>?_⟩
  ·try simp only [nrm] at c47
   rw [AL hkl,AF] at c47
   have hne:n=(ls.getD k []).length:=by omega
   refine ⟨k+1,by
    first|trivial|omega|(simp;omega),by
    first|omega|(simp;omega),?_⟩
   refine ⟨rfl,rfl,?_,rfl,rfl,rfl,rfl,rfl,rfl,rfl,rfl,rfl,rfl,rfl,?_⟩
   ·first|rfl|exact AU (AB (by omega) (by omega))
   rw [Q5 hne]
  try simp only [nrm] at c47
  rw [AL hkl,AF] at c47
  have hn:n<(ls.getD k []).length:=by omega
  have hvb:=Dr (Ep hV hn)
  refine ao (by first|rfl|omega|(rw [AA];omega)|(rw [AJ,AA,List.length_take];omega)|(rw [AL hkl,AF];omega)|(have:=B6 hpre.1 (lo:=Fr.ofInt lx) (hi:=Fr.ofInt hx) (n:=n) hkl;simp only [List.length_cons,List.length_nil];omega)|(have:=(hbi n).1;simp only [List.length_append,List.length_cons,List.length_nil];omega)|(have:=hbi.2;simp only [List.length_append,List.length_cons,List.length_nil];omega)) λ o48=>?_
  refine ao (by first|rfl|omega|(rw [AA];omega)|(rw [AJ,AA,List.length_take];omega)|(rw [AL hkl,AF];omega)|(have:=B6 hpre.1 (lo:=Fr.ofInt lx) (hi:=Fr.ofInt hx) (n:=n) hkl;simp only [List.length_cons,List.length_nil];omega)|(have:=(hbi n).1;simp only [List.length_append,List.length_cons,List.length_nil];omega)|(have:=hbi.2;simp only [List.length_append,List.length_cons,List.length_nil];omega)) λ o49=>?_
  refine ⟨((ls.getD k []).getD n (0,0)).1,by
   rw [AL hkl,BF hn];rfl,by
   show -9223372036854775808<=(((ls.getD k []).getD n (0,0)).1)/\(((ls.getD k []).getD n (0,0)).1)<=9223372036854775807
   first|trivial|exact hpre.2.1|exact hpre.2.2.2.1|exact ⟨hpre.1.1,hpre.1.2.1⟩|exact ⟨by omega,by omega⟩,?_⟩
  refine And.symm ⟨λ c53=>?_,λ c53=>?_⟩
  ·try simp only [nrm] at c53
   cases c53 -- done
  try simp only [nrm] at c53
  refine ⟨((Fr.ofInt (((ls.getD k []).getD n (0,0)).1)),(Fr.ofInt lx)),by
   rfl,by
   first|trivial|exact hpre.2.1|exact hpre.2.2.2.1|exact ⟨hpre.1.1,hpre.1.2.1⟩|exact ⟨by omega,by omega⟩,?_⟩
  refine And.symm ⟨λ c57=>?_,λ c57=>?_⟩
  ·try simp only [nrm] at c57
   have q:=Hr (hi:=Fr.ofInt hx) (b:=true) c57
   refine ⟨n+1,by
    first|trivial|omega|(simp;omega),by
    first|omega|(simp;omega),?_⟩
   refine ⟨rfl,rfl,rfl,rfl,?_,rfl,rfl,rfl,rfl,rfl,rfl,rfl,rfl,rfl,rfl,rfl,?_,rfl⟩
   ·first|rfl|exact AU (AB (by omega) (by omega))
   exact Ia (J4 hn _) q
  try simp only [nrm] at c57
  refine ⟨((Fr.ofInt (((ls.getD k []).getD n (0,0)).1)),(Fr.ofInt hx)),by
   rfl,by
   first|trivial|exact hpre.2.1|exact hpre.2.2.2.1|exact ⟨hpre.1.1,hpre.1.2.1⟩|exact ⟨by omega,by omega⟩,?_⟩
  refine And.symm ⟨λ c61=>?_,λ c61=>?_⟩
  ·try simp only [nrm] at c61
   have q:=Hs (lo:=Fr.ofInt lx) (b:=true) c61
   refine ⟨n+1,by
    first|trivial|omega|(simp;omega),by
    first|omega|(simp;omega),?_⟩
   refine ⟨rfl,rfl,rfl,rfl,?_,rfl,rfl,rfl,rfl,rfl,rfl,rfl,rfl,rfl,rfl,rfl,?_,rfl⟩
   ·first|rfl|exact AU (AB (by omega) (by omega))
   exact Ia (J4 hn _) q
  try simp only [nrm] at c61
  have q:=LO (b:=true) rfl c57 c61
  refine ao (by first|rfl|omega|(rw [AA];omega)|(rw [AJ,AA,List.length_take];omega)|(rw [AL hkl,AF];omega)|(have:=B6 hpre.1 (lo:=Fr.ofInt lx) (hi:=Fr.ofInt hx) (n:=n) hkl;simp only [List.length_cons,List.length_nil];omega)|(have:=(hbi n).1;simp only [List.length_append,List.length_cons,List.length_nil];omega)|(have:=hbi.2;simp only [List.length_append,List.length_cons,List.length_nil];omega)) λ o62=>?_
  refine ⟨n+1,by
   first|trivial|omega|(simp;omega),by
   first|omega|(simp;omega),?_⟩
  refine ⟨rfl,rfl,rfl,rfl,?_,rfl,rfl,rfl,rfl,rfl,rfl,rfl,rfl,rfl,rfl,rfl,?_,rfl⟩
  ·first|rfl|exact AU (AB (by omega) (by omega))
  exact JB (J4 hn _) q
 try simp only [nrm] at c24
 have hke:k=ls.length:=by omega
 refine ⟨ls,by
  rfl,by
  show BZ ls=true/\ls.length<=1048576
  first|trivial|exact hpre.2.1|exact hpre.2.2.2.1|exact ⟨hpre.1.1,hpre.1.2.1⟩|exact ⟨by omega,by omega⟩,?_⟩
 refine ⟨⟨0,by
  first|trivial|omega|(simp;omega),?_⟩,?_⟩
 ·refine ⟨rfl,?_,rfl,rfl,rfl,rfl,rfl,rfl,rfl,rfl,rfl,rfl,rfl,?_,rfl⟩
  ·first|rfl|(simp;done)
  rw [hke];simp [cE]
 intro (i:Nat) hki168
 have hki168:i<=(edA ls).length:=hki168
 refine And.symm ⟨λ c185=>?_,λ c185=>?_⟩
 ·try simp only [nrm] at c185
  rw [AA] at c185
  have hie:i=(edA ls).length:=by omega
  have hbi:=NS hpre.1 (lo:=Fr.ofInt lx) (hi:=Fr.ofInt hx) (ly:=ly) (hy:=hy) (show i<=(edA ls).length by omega) 0
  refine ao (by first|rfl|omega|(rw [AA];omega)|(rw [AJ,AA,List.length_take];omega)|(rw [AL hkl,AF];omega)|(have:=B6 hpre.1 (lo:=Fr.ofInt lx) (hi:=Fr.ofInt hx) (n:=n) hkl;simp only [List.length_cons,List.length_nil];omega)|(have:=(hbi n).1;simp only [List.length_append,List.length_cons,List.length_nil];omega)|(have:=hbi.2;simp only [List.length_append,List.length_cons,List.length_nil];omega)) λ o695=>?_
  refine ⟨(evF (Fr.ofInt lx) (Fr.ofInt hx) (cA ls ls.length++cE (edA ls) ly hy (edA ls).length)++[Fr.ofInt lx,Fr.ofInt hx]),by
   rw [hie]
   show [DA.one (DC.sl 90 _ (AG _++AG [_,_]))]=_
   rw [← IZ];rfl,by
   try dsimp only [Ce]
   exact ⟨UG _ hgl hgh,by have:=hbi.2;rw [AH] at this;rw [List.length_append,← hie];simp only [List.length_cons,List.length_nil];omega⟩,?_⟩
  exact rfl
 try simp only [nrm] at c185
 rw [AA] at c185
 have hil:i<(edA ls).length:=by omega
 have hei:=NP hpre.1.1 hil
 have hbi:=λ n=>NS hpre.1 (lo:=Fr.ofInt lx) (hi:=Fr.ofInt hx) (ly:=ly) (hy:=hy) (Nat.le_of_lt hil) n
 refine ao (by first|rfl|omega|(rw [AA];omega)|(rw [AJ,AA,List.length_take];omega)|(rw [AL hkl,AF];omega)|(have:=B6 hpre.1 (lo:=Fr.ofInt lx) (hi:=Fr.ofInt hx) (n:=n) hkl;simp only [List.length_cons,List.length_nil];omega)|(have:=(hbi n).1;simp only [List.length_append,List.length_cons,List.length_nil];omega)|(have:=hbi.2;simp only [List.length_append,List.length_cons,List.length_nil];omega)) λ o186=>?_
 refine ao (by first|rfl|omega|(rw [AA];omega)|(rw [AJ,AA,List.length_take];omega)|(rw [AL hkl,AF];omega)|(have:=B6 hpre.1 (lo:=Fr.ofInt lx) (hi:=Fr.ofInt hx) (n:=n) hkl;simp only [List.length_cons,List.length_nil];omega)|(have:=(hbi n).1;simp only [List.length_append,List.length_cons,List.length_nil];omega)|(have:=hbi.2;simp only [List.length_append,List.length_cons,List.length_nil];omega)) λ o187=>?_
 refine ao (by first|rfl|omega|(rw [AA];omega)|(rw [AJ,AA,List.length_take];omega)|(rw [AL hkl,AF];omega)|(have:=B6 hpre.1 (lo:=Fr.ofInt lx) (hi:=Fr.ofInt hx) (n:=n) hkl;simp only [List.length_cons,List.length_nil];omega)|(have:=(hbi n).1;simp only [List.length_append,List.length_cons,List.length_nil];omega)|(have:=hbi.2;simp only [List.length_append,List.length_cons,List.length_nil];omega)) λ o188=>?_
 refine ao (by first|rfl|omega|(rw [AA];omega)|(rw [AJ,AA,List.length_take];omega)|(rw [AL hkl,AF];omega)|(have:=B6 hpre.1 (lo:=Fr.ofInt lx) (hi:=Fr.ofInt hx) (n:=n) hkl;simp only [List.length_cons,List.length_nil];omega)|(have:=(hbi n).1;simp only [List.length_append,List.length_cons,List.length_nil];omega)|(have:=hbi.2;simp only [List.length_append,List.length_cons,List.length_nil];omega)) λ o189=>?_
 refine ao (by first|rfl|omega|(rw [AA];omega)|(rw [AJ,AA,List.length_take];omega)|(rw [AL hkl,AF];omega)|(have:=B6 hpre.1 (lo:=Fr.ofInt lx) (hi:=Fr.ofInt hx) (n:=n) hkl;simp only [List.length_cons,List.length_nil];omega)|(have:=(hbi n).1;simp only [List.length_append,List.length_cons,List.length_nil];omega)|(have:=hbi.2;simp only [List.length_append,List.length_cons,List.length_nil];omega)) λ o190=>?_
 refine ao (by first|rfl|omega|(rw [AA];omega)|(rw [AJ,AA,List.length_take];omega)|(rw [AL hkl,AF];omega)|(have:=B6 hpre.1 (lo:=Fr.ofInt lx) (hi:=Fr.ofInt hx) (n:=n) hkl;simp only [List.length_cons,List.length_nil];omega)|(have:=(hbi n).1;simp only [List.length_append,List.length_cons,List.length_nil];omega)|(have:=hbi.2;simp only [List.length_append,List.length_cons,List.length_nil];omega)) λ o191=>?_
 refine ⟨⟨0,by
  first|trivial|omega|(simp;omega),?_⟩,?_⟩
 ·refine ⟨rfl,rfl,?_,rfl,rfl,rfl,rfl,rfl,rfl,rfl,rfl,?_,?_,?_,?_,?_,rfl,rfl,rfl,rfl,rfl,?_,rfl,rfl⟩
  ·first|rfl|(simp;done)
  ·first|rfl|(simp;done)
  ·first|rfl|(simp;done)
  ·first|rfl|(simp;done)
  ·first|rfl|(simp;done)
  ·first|rfl|(simp;done)
  unfold cC;simp
 intro (n:Nat) hki192
 have hki192:n<=i:=hki192
 refine ⟨λ c218=>?_,λ c218=>?_⟩
 ·try simp only [nrm] at c218
  rw [AJ,AA,List.length_take] at c218
  have hn:n<i:=by omega
  have hnt:n<((edA ls).take i).length:=by rw [List.length_take];omega
  have hen:(((edA ls).take i).getD n noE).ok=true:=by rw [Q3 hn];exact NP hpre.1.1 (by omega)
  refine ao (by first|rfl|omega|(rw [AA];omega)|(rw [AJ,AA,List.length_take];omega)|(rw [AL hkl,AF];omega)|(have:=B6 hpre.1 (lo:=Fr.ofInt lx) (hi:=Fr.ofInt hx) (n:=n) hkl;simp only [List.length_cons,List.length_nil];omega)|(have:=(hbi n).1;simp only [List.length_append,List.length_cons,List.length_nil];omega)|(have:=hbi.2;simp only [List.length_append,List.length_cons,List.length_nil];omega)) λ o219=>?_
  refine ao (by first|rfl|omega|(rw [AA];omega)|(rw [AJ,AA,List.length_take];omega)|(rw [AL hkl,AF];omega)|(have:=B6 hpre.1 (lo:=Fr.ofInt lx) (hi:=Fr.ofInt hx) (n:=n) hkl;simp only [List.length_cons,List.length_nil];omega)|(have:=(hbi n).1;simp only [List.length_append,List.length_cons,List.length_nil];omega)|(have:=hbi.2;simp only [List.length_append,List.length_cons,List.length_nil];omega)) λ o220=>?_
  refine ⟨(((edA ls).getD i noE),(((edA ls).take i).getD n noE)),by
   rw [Cx hil,AJ,Cx hnt];rfl,by
   show ((edA ls).getD i noE).ok=true/\(((edA ls).take i).getD n noE).ok=true
   exact ⟨hei,hen⟩,?_⟩
  refine And.symm ⟨λ c224=>?_,λ c224=>?_⟩
  ·try simp only [nrm] at c224
   have q:=MW (lo:=Fr.ofInt lx) (hi:=Fr.ofInt hx) (x:=Cb ((edA ls).getD i noE) (((edA ls).take i).getD n noE)) c224
   refine ⟨n+1,by
    first|trivial|omega|(simp;omega),by
    first|omega|(simp;omega),?_⟩
   refine ⟨rfl,rfl,?_,rfl,rfl,rfl,rfl,rfl,rfl,rfl,rfl,rfl,rfl,rfl,rfl,rfl,rfl,rfl,rfl,rfl,rfl,?_,rfl,rfl⟩
   ·first|rfl|exact AU (AB (by omega) (by omega))
   exact Ia (HL hn (Nat.le_of_lt hil) _ _) q
  try simp only [nrm] at c224
  refine ⟨((Cb ((edA ls).getD i noE) (((edA ls).take i).getD n noE)),(Fr.ofInt lx)),by
   rfl,by
   first|trivial|exact hpre.2.1|exact hpre.2.2.2.1|exact ⟨hpre.1.1,hpre.1.2.1⟩|exact ⟨by omega,by omega⟩,?_⟩
  refine And.symm ⟨λ c228=>?_,λ c228=>?_⟩
  ·try simp only [nrm] at c228
   have q:=Hr (hi:=Fr.ofInt hx) (b:=DD ((edA ls).getD i noE) (((edA ls).take i).getD n noE)) c228
   refine ⟨n+1,by
    first|trivial|omega|(simp;omega),by
    first|omega|(simp;omega),?_⟩
   refine ⟨rfl,rfl,?_,rfl,rfl,rfl,rfl,rfl,rfl,rfl,rfl,rfl,rfl,rfl,rfl,rfl,rfl,rfl,rfl,rfl,rfl,?_,rfl,rfl⟩
   ·first|rfl|exact AU (AB (by omega) (by omega))
   exact Ia (HL hn (Nat.le_of_lt hil) _ _) q
  try simp only [nrm] at c228
  refine ⟨((Cb ((edA ls).getD i noE) (((edA ls).take i).getD n noE)),(Fr.ofInt hx)),by
   rfl,by
   first|trivial|exact hpre.2.1|exact hpre.2.2.2.1|exact ⟨hpre.1.1,hpre.1.2.1⟩|exact ⟨by omega,by omega⟩,?_⟩
  refine And.symm ⟨λ c232=>?_,λ c232=>?_⟩
  ·try simp only [nrm] at c232
   have q:=Hs (lo:=Fr.ofInt lx) (b:=DD ((edA ls).getD i noE) (((edA ls).take i).getD n noE)) c232
   refine ⟨n+1,by
    first|trivial|omega|(simp;omega),by
    first|omega|(simp;omega),?_⟩
   refine ⟨rfl,rfl,?_,rfl,rfl,rfl,rfl,rfl,rfl,rfl,rfl,rfl,rfl,rfl,rfl,rfl,rfl,rfl,rfl,rfl,rfl,?_,rfl,rfl⟩
   ·first|rfl|exact AU (AB (by omega) (by omega))
   exact Ia (HL hn (Nat.le_of_lt hil) _ _) q
  try simp only [nrm] at c232
  have q:=LO c224 c228 c232
  refine ao (a:=(AG (evF (Fr.ofInt lx) (Fr.ofInt hx) (cA ls ls.length++(cE (edA ls) ly hy i++cC (edA ls) i n)))).length+([[Dat.bool (decide ((Cb ((edA ls).getD i noE) (((edA ls).take i).getD n noE)).z<0)),Dat.sl (L (Cb ((edA ls).getD i noE) (((edA ls).take i).getD n noE)).z.natAbs),Dat.sl (L (Cb ((edA ls).getD i noE) (((edA ls).take i).getD n noE)).d)]]:List (List Dat)).length<=2199023255552) (by first|rfl|omega|(rw [AA];omega)|(rw [AJ,AA,List.length_take];omega)|(rw [AL hkl,AF];omega)|(have:=B6 hpre.1 (lo:=Fr.ofInt lx) (hi:=Fr.ofInt hx) (n:=n) hkl;simp only [List.length_cons,List.length_nil];omega)|(have:=(hbi n).1;simp only [List.length_append,List.length_cons,List.length_nil];omega)|(have:=hbi.2;simp only [List.length_append,List.length_cons,List.length_nil];omega)) λ o233=>?_
  refine ⟨n+1,by
   first|trivial|omega|(simp;omega),by
   first|omega|(simp;omega),?_⟩
  refine ⟨rfl,rfl,?_,rfl,rfl,rfl,rfl,rfl,rfl,rfl,rfl,rfl,rfl,rfl,rfl,rfl,rfl,rfl,rfl,rfl,rfl,?_,rfl,rfl⟩
  ·first|rfl|exact AU (AB (by omega) (by omega))
  show ((AG (evF (Fr.ofInt lx) (Fr.ofInt hx) (cA ls ls.length++(cE (edA ls) ly hy i++cC (edA ls) i n))))++([[Dat.bool (decide ((Cb ((edA ls).getD i noE) (((edA ls).take i).getD n noE)).z<0)),Dat.sl (L (Cb ((edA ls).getD i noE) (((edA ls).take i).getD n noE)).z.natAbs),Dat.sl (L (Cb ((edA ls).getD i noE) (((edA ls).take i).getD n noE)).d)]]:List (List Dat)))=(AG (evF (Fr.ofInt lx) (Fr.ofInt hx) (cA ls ls.length++(cE (edA ls) ly hy i++cC (edA ls) i (n+1)))))
  exact JB (HL hn (Nat.le_of_lt hil) _ _) q
 try simp only [nrm] at c218
 rw [AJ,AA,List.length_take] at c218
 have hne:n=i:=by omega
 refine ⟨(((edA ls).getD i noE),ly),by
  rw [Cx hil];rfl,by
  show ((edA ls).getD i noE).ok=true/\(-9223372036854775808<=ly/\ly<=9223372036854775807)
  exact ⟨hei,by omega,by omega⟩,?_⟩
 refine And.symm ⟨λ c345=>?_,λ c345=>?_⟩
 ·try simp only [nrm] at c345
  have q1:=MW (lo:=Fr.ofInt lx) (hi:=Fr.ofInt hx) (x:=As ((edA ls).getD i noE) ly) c345
  refine ⟨(((edA ls).getD i noE),hy),by
   rw [Cx hil];rfl,by
   show ((edA ls).getD i noE).ok=true/\(-9223372036854775808<=hy/\hy<=9223372036854775807)
   exact ⟨hei,by omega,by omega⟩,?_⟩
  refine And.symm ⟨λ c613=>?_,λ c613=>?_⟩
  ·try simp only [nrm] at c613
   have q2:=MW (lo:=Fr.ofInt lx) (hi:=Fr.ofInt hx) (x:=As ((edA ls).getD i noE) hy) c613
   refine ⟨i+1,by
    first|trivial|omega|(simp;omega),by
    first|omega|(simp;omega),?_⟩
   refine ⟨rfl,?_,rfl,rfl,rfl,rfl,rfl,rfl,rfl,rfl,rfl,rfl,rfl,?_,rfl⟩
   ·first|rfl|(exact AU (AB (by omega) (by omega)))|exact Bd (AC hne _) q1 q2|exact Be (AC hne _) q1 q2|exact Bf (AC hne _) q1 q2|exact Bg (AC hne _) q1 q2
   first|rfl|(exact AU (AB (by omega) (by omega)))|exact Bd (AC hne _) q1 q2|exact Be (AC hne _) q1 q2|exact Bf (AC hne _) q1 q2|exact Bg (AC hne _) q1 q2
  try simp only [nrm] at c613
  refine ⟨((As ((edA ls).getD i noE) hy),(Fr.ofInt lx)),by
   rfl,by
   first|trivial|exact hpre.2.1|exact hpre.2.2.2.1|exact ⟨hpre.1.1,hpre.1.2.1⟩|exact ⟨by omega,by omega⟩,?_⟩
  refine And.symm ⟨λ c617=>?_,λ c617=>?_⟩
  ·try simp only [nrm] at c617
   have q2:=Hr (hi:=Fr.ofInt hx) (b:=Bm ((edA ls).getD i noE) hy) c617
   refine ⟨i+1,by
    first|trivial|omega|(simp;omega),by
    first|omega|(simp;omega),?_⟩
   refine ⟨rfl,?_,rfl,rfl,rfl,rfl,rfl,rfl,rfl,rfl,rfl,rfl,rfl,?_,rfl⟩
   ·first|rfl|(exact AU (AB (by omega) (by omega)))|exact Bd (AC hne _) q1 q2|exact Be (AC hne _) q1 q2|exact Bf (AC hne _) q1 q2|exact Bg (AC hne _) q1 q2
   first|rfl|(exact AU (AB (by omega) (by omega)))|exact Bd (AC hne _) q1 q2|exact Be (AC hne _) q1 q2|exact Bf (AC hne _) q1 q2|exact Bg (AC hne _) q1 q2
  try simp only [nrm] at c617
  refine ⟨((As ((edA ls).getD i noE) hy),(Fr.ofInt hx)),by
   rfl,by
   first|trivial|exact hpre.2.1|exact hpre.2.2.2.1|exact ⟨hpre.1.1,hpre.1.2.1⟩|exact ⟨by omega,by omega⟩,?_⟩
  refine And.symm ⟨λ c621=>?_,λ c621=>?_⟩
  ·try simp only [nrm] at c621
   have q2:=Hs (lo:=Fr.ofInt lx) (b:=Bm ((edA ls).getD i noE) hy) c621
   refine ⟨i+1,by
    first|trivial|omega|(simp;omega),by
    first|omega|(simp;omega),?_⟩
   refine ⟨rfl,?_,rfl,rfl,rfl,rfl,rfl,rfl,rfl,rfl,rfl,rfl,rfl,?_,rfl⟩
   ·first|rfl|(exact AU (AB (by omega) (by omega)))|exact Bd (AC hne _) q1 q2|exact Be (AC hne _) q1 q2|exact Bf (AC hne _) q1 q2|exact Bg (AC hne _) q1 q2
   first|rfl|(exact AU (AB (by omega) (by omega)))|exact Bd (AC hne _) q1 q2|exact Be (AC hne _) q1 q2|exact Bf (AC hne _) q1 q2|exact Bg (AC hne _) q1 q2
  try simp only [nrm] at c621
  have q2:=LO c613 c617 c621
  refine ao (a:=(AG (evF (Fr.ofInt lx) (Fr.ofInt hx) (cA ls ls.length++(cE (edA ls) ly hy i++cC (edA ls) i n)))).length+([[Dat.bool (decide ((As ((edA ls).getD i noE) hy).z<0)),Dat.sl (L (As ((edA ls).getD i noE) hy).z.natAbs),Dat.sl (L (As ((edA ls).getD i noE) hy).d)]]:List (List Dat)).length<=2199023255552) (by first|rfl|omega|(rw [AA];omega)|(rw [AJ,AA,List.length_take];omega)|(rw [AL hkl,AF];omega)|(have:=B6 hpre.1 (lo:=Fr.ofInt lx) (hi:=Fr.ofInt hx) (n:=n) hkl;simp only [List.length_cons,List.length_nil];omega)|(have:=(hbi n).1;simp only [List.length_append,List.length_cons,List.length_nil];omega)|(have:=hbi.2;simp only [List.length_append,List.length_cons,List.length_nil];omega)) λ o622=>?_
  refine ⟨i+1,by
   first|trivial|omega|(simp;omega),by
   first|omega|(simp;omega),?_⟩
  refine ⟨rfl,?_,rfl,rfl,rfl,rfl,rfl,rfl,rfl,rfl,rfl,rfl,rfl,?_,rfl⟩
  ·first|rfl|(exact AU (AB (by omega) (by omega)))|exact Bd (AC hne _) q1 q2|exact Be (AC hne _) q1 q2|exact Bf (AC hne _) q1 q2|exact Bg (AC hne _) q1 q2
  show ((AG (evF (Fr.ofInt lx) (Fr.ofInt hx) (cA ls ls.length++(cE (edA ls) ly hy i++cC (edA ls) i n))))++([[Dat.bool (decide ((As ((edA ls).getD i noE) hy).z<0)),Dat.sl (L (As ((edA ls).getD i noE) hy).z.natAbs),Dat.sl (L (As ((edA ls).getD i noE) hy).d)]]:List (List Dat)))=(AG (evF (Fr.ofInt lx) (Fr.ofInt hx) (cA ls ls.length++cE (edA ls) ly hy (i+1))))
  first|rfl|(exact AU (AB (by omega) (by omega)))|exact Bd (AC hne _) q1 q2|exact Be (AC hne _) q1 q2|exact Bf (AC hne _) q1 q2|exact Bg (AC hne _) q1 q2
 try simp only [nrm] at c345
 refine ⟨((As ((edA ls).getD i noE) ly),(Fr.ofInt lx)),by
  rfl,by
  first|trivial|exact hpre.2.1|exact hpre.2.2.2.1|exact ⟨hpre.1.1,hpre.1.2.1⟩|exact ⟨by omega,by omega⟩,?_⟩
 refine And.symm ⟨λ c349=>?_,λ c349=>?_⟩
 ·try simp only [nrm] at c349
  have q1:=Hr (hi:=Fr.ofInt hx) (b:=Bm ((edA ls).getD i noE) ly) c349
  refine ⟨(((edA ls).getD i noE),hy),by
   rw [Cx hil];rfl,by
   show ((edA ls).getD i noE).ok=true/\(-9223372036854775808<=hy/\hy<=9223372036854775807)
   exact ⟨hei,by omega,by omega⟩,?_⟩
  refine And.symm ⟨λ c528=>?_,λ c528=>?_⟩
  ·try simp only [nrm] at c528
   have q2:=MW (lo:=Fr.ofInt lx) (hi:=Fr.ofInt hx) (x:=As ((edA ls).getD i noE) hy) c528
   refine ⟨i+1,by
    first|trivial|omega|(simp;omega),by
    first|omega|(simp;omega),?_⟩
   refine ⟨rfl,?_,rfl,rfl,rfl,rfl,rfl,rfl,rfl,rfl,rfl,rfl,rfl,?_,rfl⟩
   ·first|rfl|(exact AU (AB (by omega) (by omega)))|exact Bd (AC hne _) q1 q2|exact Be (AC hne _) q1 q2|exact Bf (AC hne _) q1 q2|exact Bg (AC hne _) q1 q2
   first|rfl|(exact AU (AB (by omega) (by omega)))|exact Bd (AC hne _) q1 q2|exact Be (AC hne _) q1 q2|exact Bf (AC hne _) q1 q2|exact Bg (AC hne _) q1 q2
  try simp only [nrm] at c528
  refine ⟨((As ((edA ls).getD i noE) hy),(Fr.ofInt lx)),by
   rfl,by
   first|trivial|exact hpre.2.1|exact hpre.2.2.2.1|exact ⟨hpre.1.1,hpre.1.2.1⟩|exact ⟨by omega,by omega⟩,?_⟩
  refine And.symm ⟨λ c532=>?_,λ c532=>?_⟩
  ·try simp only [nrm] at c532
   have q2:=Hr (hi:=Fr.ofInt hx) (b:=Bm ((edA ls).getD i noE) hy) c532
   refine ⟨i+1,by
    first|trivial|omega|(simp;omega),by
    first|omega|(simp;omega),?_⟩
   refine ⟨rfl,?_,rfl,rfl,rfl,rfl,rfl,rfl,rfl,rfl,rfl,rfl,rfl,?_,rfl⟩
   ·first|rfl|(exact AU (AB (by omega) (by omega)))|exact Bd (AC hne _) q1 q2|exact Be (AC hne _) q1 q2|exact Bf (AC hne _) q1 q2|exact Bg (AC hne _) q1 q2
   first|rfl|(exact AU (AB (by omega) (by omega)))|exact Bd (AC hne _) q1 q2|exact Be (AC hne _) q1 q2|exact Bf (AC hne _) q1 q2|exact Bg (AC hne _) q1 q2
  try simp only [nrm] at c532
  refine ⟨((As ((edA ls).getD i noE) hy),(Fr.ofInt hx)),by
   rfl,by
   first|trivial|exact hpre.2.1|exact hpre.2.2.2.1|exact ⟨hpre.1.1,hpre.1.2.1⟩|exact ⟨by omega,by omega⟩,?_⟩
  refine And.symm ⟨λ c536=>?_,λ c536=>?_⟩
  ·try simp only [nrm] at c536
   have q2:=Hs (lo:=Fr.ofInt lx) (b:=Bm ((edA ls).getD i noE) hy) c536
   refine ⟨i+1,by
    first|trivial|omega|(simp;omega),by
    first|omega|(simp;omega),?_⟩
   refine ⟨rfl,?_,rfl,rfl,rfl,rfl,rfl,rfl,rfl,rfl,rfl,rfl,rfl,?_,rfl⟩
   ·first|rfl|(exact AU (AB (by omega) (by omega)))|exact Bd (AC hne _) q1 q2|exact Be (AC hne _) q1 q2|exact Bf (AC hne _) q1 q2|exact Bg (AC hne _) q1 q2
   first|rfl|(exact AU (AB (by omega) (by omega)))|exact Bd (AC hne _) q1 q2|exact Be (AC hne _) q1 q2|exact Bf (AC hne _) q1 q2|exact Bg (AC hne _) q1 q2
  try simp only [nrm] at c536
  have q2:=LO c528 c532 c536
  refine ao (a:=(AG (evF (Fr.ofInt lx) (Fr.ofInt hx) (cA ls ls.length++(cE (edA ls) ly hy i++cC (edA ls) i n)))).length+([[Dat.bool (decide ((As ((edA ls).getD i noE) hy).z<0)),Dat.sl (L (As ((edA ls).getD i noE) hy).z.natAbs),Dat.sl (L (As ((edA ls).getD i noE) hy).d)]]:List (List Dat)).length<=2199023255552) (by first|rfl|omega|(rw [AA];omega)|(rw [AJ,AA,List.length_take];omega)|(rw [AL hkl,AF];omega)|(have:=B6 hpre.1 (lo:=Fr.ofInt lx) (hi:=Fr.ofInt hx) (n:=n) hkl;simp only [List.length_cons,List.length_nil];omega)|(have:=(hbi n).1;simp only [List.length_append,List.length_cons,List.length_nil];omega)|(have:=hbi.2;simp only [List.length_append,List.length_cons,List.length_nil];omega)) λ o537=>?_
  refine ⟨i+1,by
   first|trivial|omega|(simp;omega),by
   first|omega|(simp;omega),?_⟩
  refine ⟨rfl,?_,rfl,rfl,rfl,rfl,rfl,rfl,rfl,rfl,rfl,rfl,rfl,?_,rfl⟩
  ·first|rfl|(exact AU (AB (by omega) (by omega)))|exact Bd (AC hne _) q1 q2|exact Be (AC hne _) q1 q2|exact Bf (AC hne _) q1 q2|exact Bg (AC hne _) q1 q2
  show ((AG (evF (Fr.ofInt lx) (Fr.ofInt hx) (cA ls ls.length++(cE (edA ls) ly hy i++cC (edA ls) i n))))++([[Dat.bool (decide ((As ((edA ls).getD i noE) hy).z<0)),Dat.sl (L (As ((edA ls).getD i noE) hy).z.natAbs),Dat.sl (L (As ((edA ls).getD i noE) hy).d)]]:List (List Dat)))=(AG (evF (Fr.ofInt lx) (Fr.ofInt hx) (cA ls ls.length++cE (edA ls) ly hy (i+1))))
  first|rfl|(exact AU (AB (by omega) (by omega)))|exact Bd (AC hne _) q1 q2|exact Be (AC hne _) q1 q2|exact Bf (AC hne _) q1 q2|exact Bg (AC hne _) q1 q2
 try simp only [nrm] at c349
 refine ⟨((As ((edA ls).getD i noE) ly),(Fr.ofInt hx)),by
  rfl,by
  first|trivial|exact hpre.2.1|exact hpre.2.2.2.1|exact ⟨hpre.1.1,hpre.1.2.1⟩|exact ⟨by omega,by omega⟩,?_⟩
 refine And.symm ⟨λ c353=>?_,λ c353=>?_⟩
 ·try simp only [nrm] at c353
  have q1:=Hs (lo:=Fr.ofInt lx) (b:=Bm ((edA ls).getD i noE) ly) c353
  refine ⟨(((edA ls).getD i noE),hy),by
   rw [Cx hil];rfl,by
   show ((edA ls).getD i noE).ok=true/\(-9223372036854775808<=hy/\hy<=9223372036854775807)
   exact ⟨hei,by omega,by omega⟩,?_⟩
  refine And.symm ⟨λ c443=>?_,λ c443=>?_⟩
  ·try simp only [nrm] at c443
   have q2:=MW (lo:=Fr.ofInt lx) (hi:=Fr.ofInt hx) (x:=As ((edA ls).getD i noE) hy) c443
   refine ⟨i+1,by
    first|trivial|omega|(simp;omega),by
    first|omega|(simp;omega),?_⟩
   refine ⟨rfl,?_,rfl,rfl,rfl,rfl,rfl,rfl,rfl,rfl,rfl,rfl,rfl,?_,rfl⟩
   ·first|rfl|(exact AU (AB (by omega) (by omega)))|exact Bd (AC hne _) q1 q2|exact Be (AC hne _) q1 q2|exact Bf (AC hne _) q1 q2|exact Bg (AC hne _) q1 q2
   first|rfl|(exact AU (AB (by omega) (by omega)))|exact Bd (AC hne _) q1 q2|exact Be (AC hne _) q1 q2|exact Bf (AC hne _) q1 q2|exact Bg (AC hne _) q1 q2
  try simp only [nrm] at c443
  refine ⟨((As ((edA ls).getD i noE) hy),(Fr.ofInt lx)),by
   rfl,by
   first|trivial|exact hpre.2.1|exact hpre.2.2.2.1|exact ⟨hpre.1.1,hpre.1.2.1⟩|exact ⟨by omega,by omega⟩,?_⟩
  refine And.symm ⟨λ c447=>?_,λ c447=>?_⟩
  ·try simp only [nrm] at c447
   have q2:=Hr (hi:=Fr.ofInt hx) (b:=Bm ((edA ls).getD i noE) hy) c447
   refine ⟨i+1,by
    first|trivial|omega|(simp;omega),by
    first|omega|(simp;omega),?_⟩
   refine ⟨rfl,?_,rfl,rfl,rfl,rfl,rfl,rfl,rfl,rfl,rfl,rfl,rfl,?_,rfl⟩
   ·first|rfl|(exact AU (AB (by omega) (by omega)))|exact Bd (AC hne _) q1 q2|exact Be (AC hne _) q1 q2|exact Bf (AC hne _) q1 q2|exact Bg (AC hne _) q1 q2
   first|rfl|(exact AU (AB (by omega) (by omega)))|exact Bd (AC hne _) q1 q2|exact Be (AC hne _) q1 q2|exact Bf (AC hne _) q1 q2|exact Bg (AC hne _) q1 q2
  try simp only [nrm] at c447
  refine ⟨((As ((edA ls).getD i noE) hy),(Fr.ofInt hx)),by
   rfl,by
   first|trivial|exact hpre.2.1|exact hpre.2.2.2.1|exact ⟨hpre.1.1,hpre.1.2.1⟩|exact ⟨by omega,by omega⟩,?_⟩
  refine And.symm ⟨λ c451=>?_,λ c451=>?_⟩
  ·try simp only [nrm] at c451
   have q2:=Hs (lo:=Fr.ofInt lx) (b:=Bm ((edA ls).getD i noE) hy) c451
   refine ⟨i+1,by
    first|trivial|omega|(simp;omega),by
    first|omega|(simp;omega),?_⟩
   refine ⟨rfl,?_,rfl,rfl,rfl,rfl,rfl,rfl,rfl,rfl,rfl,rfl,rfl,?_,rfl⟩
   ·first|rfl|(exact AU (AB (by omega) (by omega)))|exact Bd (AC hne _) q1 q2|exact Be (AC hne _) q1 q2|exact Bf (AC hne _) q1 q2|exact Bg (AC hne _) q1 q2
   first|rfl|(exact AU (AB (by omega) (by omega)))|exact Bd (AC hne _) q1 q2|exact Be (AC hne _) q1 q2|exact Bf (AC hne _) q1 q2|exact Bg (AC hne _) q1 q2
  try simp only [nrm] at c451
  have q2:=LO c443 c447 c451
  refine ao (a:=(AG (evF (Fr.ofInt lx) (Fr.ofInt hx) (cA ls ls.length++(cE (edA ls) ly hy i++cC (edA ls) i n)))).length+([[Dat.bool (decide ((As ((edA ls).getD i noE) hy).z<0)),Dat.sl (L (As ((edA ls).getD i noE) hy).z.natAbs),Dat.sl (L (As ((edA ls).getD i noE) hy).d)]]:List (List Dat)).length<=2199023255552) (by first|rfl|omega|(rw [AA];omega)|(rw [AJ,AA,List.length_take];omega)|(rw [AL hkl,AF];omega)|(have:=B6 hpre.1 (lo:=Fr.ofInt lx) (hi:=Fr.ofInt hx) (n:=n) hkl;simp only [List.length_cons,List.length_nil];omega)|(have:=(hbi n).1;simp only [List.length_append,List.length_cons,List.length_nil];omega)|(have:=hbi.2;simp only [List.length_append,List.length_cons,List.length_nil];omega)) λ o452=>?_
  refine ⟨i+1,by
   first|trivial|omega|(simp;omega),by
   first|omega|(simp;omega),?_⟩
  refine ⟨rfl,?_,rfl,rfl,rfl,rfl,rfl,rfl,rfl,rfl,rfl,rfl,rfl,?_,rfl⟩
  ·first|rfl|(exact AU (AB (by omega) (by omega)))|exact Bd (AC hne _) q1 q2|exact Be (AC hne _) q1 q2|exact Bf (AC hne _) q1 q2|exact Bg (AC hne _) q1 q2
  show ((AG (evF (Fr.ofInt lx) (Fr.ofInt hx) (cA ls ls.length++(cE (edA ls) ly hy i++cC (edA ls) i n))))++([[Dat.bool (decide ((As ((edA ls).getD i noE) hy).z<0)),Dat.sl (L (As ((edA ls).getD i noE) hy).z.natAbs),Dat.sl (L (As ((edA ls).getD i noE) hy).d)]]:List (List Dat)))=(AG (evF (Fr.ofInt lx) (Fr.ofInt hx) (cA ls ls.length++cE (edA ls) ly hy (i+1))))
  first|rfl|(exact AU (AB (by omega) (by omega)))|exact Bd (AC hne _) q1 q2|exact Be (AC hne _) q1 q2|exact Bf (AC hne _) q1 q2|exact Bg (AC hne _) q1 q2
 try simp only [nrm] at c353
 have q1:=LO c345 c349 c353
 refine ao (a:=(AG (evF (Fr.ofInt lx) (Fr.ofInt hx) (cA ls ls.length++(cE (edA ls) ly hy i++cC (edA ls) i n)))).length+([[Dat.bool (decide ((As ((edA ls).getD i noE) ly).z<0)),Dat.sl (L (As ((edA ls).getD i noE) ly).z.natAbs),Dat.sl (L (As ((edA ls).getD i noE) ly).d)]]:List (List Dat)).length<=2199023255552) (by first|rfl|omega|(rw [AA];omega)|(rw [AJ,AA,List.length_take];omega)|(rw [AL hkl,AF];omega)|(have:=B6 hpre.1 (lo:=Fr.ofInt lx) (hi:=Fr.ofInt hx) (n:=n) hkl;simp only [List.length_cons,List.length_nil];omega)|(have:=(hbi n).1;simp only [List.length_append,List.length_cons,List.length_nil];omega)|(have:=hbi.2;simp only [List.length_append,List.length_cons,List.length_nil];omega)) λ o354=>?_
 refine ⟨(((edA ls).getD i noE),hy),by
  rw [Cx hil];rfl,by
  show ((edA ls).getD i noE).ok=true/\(-9223372036854775808<=hy/\hy<=9223372036854775807)
  exact ⟨hei,by omega,by omega⟩,?_⟩
 refine And.symm ⟨λ c358=>?_,λ c358=>?_⟩
 ·try simp only [nrm] at c358
  have q2:=MW (lo:=Fr.ofInt lx) (hi:=Fr.ofInt hx) (x:=As ((edA ls).getD i noE) hy) c358
  refine ⟨i+1,by
   first|trivial|omega|(simp;omega),by
   first|omega|(simp;omega),?_⟩
  refine ⟨rfl,?_,rfl,rfl,rfl,rfl,rfl,rfl,rfl,rfl,rfl,rfl,rfl,?_,rfl⟩
  ·first|rfl|(exact AU (AB (by omega) (by omega)))|exact Bd (AC hne _) q1 q2|exact Be (AC hne _) q1 q2|exact Bf (AC hne _) q1 q2|exact Bg (AC hne _) q1 q2
  show ((AG (evF (Fr.ofInt lx) (Fr.ofInt hx) (cA ls ls.length++(cE (edA ls) ly hy i++cC (edA ls) i n))))++([[Dat.bool (decide ((As ((edA ls).getD i noE) ly).z<0)),Dat.sl (L (As ((edA ls).getD i noE) ly).z.natAbs),Dat.sl (L (As ((edA ls).getD i noE) ly).d)]]:List (List Dat)))=(AG (evF (Fr.ofInt lx) (Fr.ofInt hx) (cA ls ls.length++cE (edA ls) ly hy (i+1))))
  first|rfl|(exact AU (AB (by omega) (by omega)))|exact Bd (AC hne _) q1 q2|exact Be (AC hne _) q1 q2|exact Bf (AC hne _) q1 q2|exact Bg (AC hne _) q1 q2
 try simp only [nrm] at c358
 refine ⟨((As ((edA ls).getD i noE) hy),(Fr.ofInt lx)),by
  rfl,by
  first|trivial|exact hpre.2.1|exact hpre.2.2.2.1|exact ⟨hpre.1.1,hpre.1.2.1⟩|exact ⟨by omega,by omega⟩,?_⟩
 refine And.symm ⟨λ c362=>?_,λ c362=>?_⟩
 ·try simp only [nrm] at c362
  have q2:=Hr (hi:=Fr.ofInt hx) (b:=Bm ((edA ls).getD i noE) hy) c362
  refine ⟨i+1,by
   first|trivial|omega|(simp;omega),by
   first|omega|(simp;omega),?_⟩
  refine ⟨rfl,?_,rfl,rfl,rfl,rfl,rfl,rfl,rfl,rfl,rfl,rfl,rfl,?_,rfl⟩
  ·first|rfl|(exact AU (AB (by omega) (by omega)))|exact Bd (AC hne _) q1 q2|exact Be (AC hne _) q1 q2|exact Bf (AC hne _) q1 q2|exact Bg (AC hne _) q1 q2
  show ((AG (evF (Fr.ofInt lx) (Fr.ofInt hx) (cA ls ls.length++(cE (edA ls) ly hy i++cC (edA ls) i n))))++([[Dat.bool (decide ((As ((edA ls).getD i noE) ly).z<0)),Dat.sl (L (As ((edA ls).getD i noE) ly).z.natAbs),Dat.sl (L (As ((edA ls).getD i noE) ly).d)]]:List (List Dat)))=(AG (evF (Fr.ofInt lx) (Fr.ofInt hx) (cA ls ls.length++cE (edA ls) ly hy (i+1))))
  first|rfl|(exact AU (AB (by omega) (by omega)))|exact Bd (AC hne _) q1 q2|exact Be (AC hne _) q1 q2|exact Bf (AC hne _) q1 q2|exact Bg (AC hne _) q1 q2
 try simp only [nrm] at c362
 refine ⟨((As ((edA ls).getD i noE) hy),(Fr.ofInt hx)),by
  rfl,by
  first|trivial|exact hpre.2.1|exact hpre.2.2.2.1|exact ⟨hpre.1.1,hpre.1.2.1⟩|exact ⟨by omega,by omega⟩,?_⟩
 refine And.symm ⟨λ c366=>?_,λ c366=>?_⟩
 ·try simp only [nrm] at c366
  have q2:=Hs (lo:=Fr.ofInt lx) (b:=Bm ((edA ls).getD i noE) hy) c366
  refine ⟨i+1,by
   first|trivial|omega|(simp;omega),by
   first|omega|(simp;omega),?_⟩
  refine ⟨rfl,?_,rfl,rfl,rfl,rfl,rfl,rfl,rfl,rfl,rfl,rfl,rfl,?_,rfl⟩
  ·first|rfl|(exact AU (AB (by omega) (by omega)))|exact Bd (AC hne _) q1 q2|exact Be (AC hne _) q1 q2|exact Bf (AC hne _) q1 q2|exact Bg (AC hne _) q1 q2
  show ((AG (evF (Fr.ofInt lx) (Fr.ofInt hx) (cA ls ls.length++(cE (edA ls) ly hy i++cC (edA ls) i n))))++([[Dat.bool (decide ((As ((edA ls).getD i noE) ly).z<0)),Dat.sl (L (As ((edA ls).getD i noE) ly).z.natAbs),Dat.sl (L (As ((edA ls).getD i noE) ly).d)]]:List (List Dat)))=(AG (evF (Fr.ofInt lx) (Fr.ofInt hx) (cA ls ls.length++cE (edA ls) ly hy (i+1))))
  first|rfl|(exact AU (AB (by omega) (by omega)))|exact Bd (AC hne _) q1 q2|exact Be (AC hne _) q1 q2|exact Bf (AC hne _) q1 q2|exact Bg (AC hne _) q1 q2
 try simp only [nrm] at c366
 have q2:=LO c358 c362 c366
 refine ao (a:=((AG (evF (Fr.ofInt lx) (Fr.ofInt hx) (cA ls ls.length++(cE (edA ls) ly hy i++cC (edA ls) i n))))++([[Dat.bool (decide ((As ((edA ls).getD i noE) ly).z<0)),Dat.sl (L (As ((edA ls).getD i noE) ly).z.natAbs),Dat.sl (L (As ((edA ls).getD i noE) ly).d)]]:List (List Dat))).length+([[Dat.bool (decide ((As ((edA ls).getD i noE) hy).z<0)),Dat.sl (L (As ((edA ls).getD i noE) hy).z.natAbs),Dat.sl (L (As ((edA ls).getD i noE) hy).d)]]:List (List Dat)).length<=2199023255552) (by first|rfl|omega|(rw [AA];omega)|(rw [AJ,AA,List.length_take];omega)|(rw [AL hkl,AF];omega)|(have:=B6 hpre.1 (lo:=Fr.ofInt lx) (hi:=Fr.ofInt hx) (n:=n) hkl;simp only [List.length_cons,List.length_nil];omega)|(have:=(hbi n).1;simp only [List.length_append,List.length_cons,List.length_nil];omega)|(have:=hbi.2;simp only [List.length_append,List.length_cons,List.length_nil];omega)) λ o367=>?_
 refine ⟨i+1,by
  first|trivial|omega|(simp;omega),by
  first|omega|(simp;omega),?_⟩
 refine ⟨rfl,?_,rfl,rfl,rfl,rfl,rfl,rfl,rfl,rfl,rfl,rfl,rfl,?_,rfl⟩
 ·first|rfl|(exact AU (AB (by omega) (by omega)))|exact Bd (AC hne _) q1 q2|exact Be (AC hne _) q1 q2|exact Bf (AC hne _) q1 q2|exact Bg (AC hne _) q1 q2
 show (((AG (evF (Fr.ofInt lx) (Fr.ofInt hx) (cA ls ls.length++(cE (edA ls) ly hy i++cC (edA ls) i n))))++([[Dat.bool (decide ((As ((edA ls).getD i noE) ly).z<0)),Dat.sl (L (As ((edA ls).getD i noE) ly).z.natAbs),Dat.sl (L (As ((edA ls).getD i noE) ly).d)]]:List (List Dat)))++([[Dat.bool (decide ((As ((edA ls).getD i noE) hy).z<0)),Dat.sl (L (As ((edA ls).getD i noE) hy).z.natAbs),Dat.sl (L (As ((edA ls).getD i noE) hy).d)]]:List (List Dat)))=(AG (evF (Fr.ofInt lx) (Fr.ofInt hx) (cA ls ls.length++cE (edA ls) ly hy (i+1))))
 first|rfl|(exact AU (AB (by omega) (by omega)))|exact Bd (AC hne _) q1 q2|exact Be (AC hne _) q1 q2|exact Bf (AC hne _) q1 q2|exact Bg (AC hne _) q1 q2
def F7:Con:={ ι:=(List Fr)×Fr,pre:=λ i=>i.1.length<=2000000000000,args:=λ i=>[.one (DC.sl 90 z84 (AG i.1)),dF i.2],res:=λ i=>⟨false,[none],[.view 90 [.bool,.sl 3 [.int],.sl 3 [.int]] (AG (Cy i.1 i.2))]⟩ }
theorem SW:F7.Ok Tryz.prog 95:=by
 refine fok (X:=⟨tt,[(94,Am),(148,Bc)],[],51,[]⟩) mixed AN (CTok.cons Fz (CTok.cons Pu (CTok.nil _))) Tryz.func95 (λ (i:(List Fr)×Fr)=>[(2,.mk 5 (Nat) (λ x1=>{ tm:=[(0,tX 1),(3,tP 2 0),(5,tI (nI x1))],en:=[(2,.box [kB (decide (i.2.z<0)),.ext 3,.ext 4]),(1,.view 90 z84 (AG i.1) []),(3,eV (L i.2.z.natAbs)),(4,eV (L i.2.d))] }) (λ x1=>x1<=i.1.length/\∀ j,j<x1->Fr.cmp (i.1.getD j Fr.none) i.2<0) (λ x1=>i.1.length-x1) (λ _=>[]))]) ?_
 rintro ⟨l,r⟩ hpre
 have hpre:l.length<=2000000000000:=hpre
 refine AP (q:=let Z18:=Cy l r;let Z6:=Nat.beq 3 3=true;let Z3:=List Dat;let Z1:=((AG l).length:Int);(∃ x1:Nat,(x1<=l.length/\∀ j,j<x1->Fr.cmp (l.getD j Fr.none) r<0)/\((vI (0:Int)=vI (nI x1))/\(rf (vB (decide (r.z<0))))/\(rf (AG l))/\(rf (L r.z.natAbs))/\(rf (L r.d))))/\∀ x1:Nat,let Z17:=x1<(AG l).length;let Z13:=(0:Int)<=(nI x1);let Z12:=(decide ((nI x1)<(nI ((AG l).length))));let Z7:=(nI x1)<=Z1;let Z5:=(AG l).getD x1 [];let Z16:=((Z5.getD 2 (.int 0))).r;let Z15:=((Z5.getD 1 (.int 0))).r;let Z14:=((Z5.getD 0 (.int 0))).b;let Z4:=(AG l).take x1;let Z2:=((AG l).take (Z1.toNat)).drop x1;(x1<=l.length/\∀ j,j<x1->Fr.cmp (l.getD j Fr.none) r<0)->(ifB Z12 ((0<=(nI x1)/\(nI x1)<Z1)/\(Z17/\(∃ i1:Fr×Fr,[DA.agg [cB Z14,cS Z15,cS Z16],dF r]=Am.args i1/\Am.pre i1/\(ifB ((decide ((Fr.cmp i1.1 i1.2)<(0:Int)))) (∃ y2:Nat,(y2<=l.length/\∀ j,j<y2->Fr.cmp (l.getD j Fr.none) r<0)/\(l.length-y2<l.length-x1)/\((vI (wR ((nI x1)+(1:Int)))=vI (nI y2))/\(rf (vB (decide (r.z<0))))/\(rf (AG l))/\(rf (L r.z.natAbs))/\(rf (L r.d)))) (ifB Z12 ((0<=(nI x1)/\(nI x1)<Z1)/\(Z17/\(∃ i2:Fr×Fr,[DA.agg [cB Z14,cS Z15,cS Z16],dF r]=Am.args i2/\Am.pre i2/\(ifB (((Fr.cmp i2.1 i2.2) == (0:Int))) (((AG l)=AG Z18)) (Z6/\((0<=(0:Int))/\(Z13/\(Z7/\((([]:List Z3).length+Z4.length<=2199023255552)/\(∃ i3:Bool×(List Z3)×(List Z3),let Z8:=(([]:List Z3)++Z4)++([[Dat.bool i3.1,Dat.sl i3.2.1,Dat.sl i3.2.2]]:List Z3);[dF r]=Bc.args i3/\Bc.pre i3/\(((([]:List Z3)++Z4).length+([[Dat.bool i3.1,Dat.sl i3.2.1,Dat.sl i3.2.2]]:List Z3).length<=2199023255552)/\(Z6/\((0<=(nI x1))/\(Z7/\((Z1<=Z1)/\((Z8.length+Z2.length<=2199023255552)/\(((Z8++Z2)=AG Z18)))))))))))))))))) (Z6/\((0<=(0:Int))/\(Z13/\(Z7/\((([]:List Z3).length+Z4.length<=2199023255552)/\(∃ i4:Bool×(List Z3)×(List Z3),let Z9:=(([]:List Z3)++Z4)++([[Dat.bool i4.1,Dat.sl i4.2.1,Dat.sl i4.2.2]]:List Z3);[dF r]=Bc.args i4/\Bc.pre i4/\(((([]:List Z3)++Z4).length+([[Dat.bool i4.1,Dat.sl i4.2.1,Dat.sl i4.2.2]]:List Z3).length<=2199023255552)/\(Z6/\((0<=(nI x1))/\(Z7/\((Z1<=Z1)/\((Z9.length+Z2.length<=2199023255552)/\(((Z9++Z2)=AG Z18))))))))))))))))))) (ifB Z12 ((0<=(nI x1)/\(nI x1)<Z1)/\(Z17/\(∃ i5:Fr×Fr,[DA.agg [cB Z14,cS Z15,cS Z16],dF r]=Am.args i5/\Am.pre i5/\(ifB (((Fr.cmp i5.1 i5.2) == (0:Int))) (((AG l)=AG Z18)) (Z6/\((0<=(0:Int))/\(Z13/\(Z7/\((([]:List Z3).length+Z4.length<=2199023255552)/\(∃ i6:Bool×(List Z3)×(List Z3),let Z10:=(([]:List Z3)++Z4)++([[Dat.bool i6.1,Dat.sl i6.2.1,Dat.sl i6.2.2]]:List Z3);[dF r]=Bc.args i6/\Bc.pre i6/\(((([]:List Z3)++Z4).length+([[Dat.bool i6.1,Dat.sl i6.2.1,Dat.sl i6.2.2]]:List Z3).length<=2199023255552)/\(Z6/\((0<=(nI x1))/\(Z7/\((Z1<=Z1)/\((Z10.length+Z2.length<=2199023255552)/\(((Z10++Z2)=AG Z18)))))))))))))))))) (Z6/\((0<=(0:Int))/\(Z13/\(Z7/\((([]:List Z3).length+Z4.length<=2199023255552)/\(∃ i7:Bool×(List Z3)×(List Z3),let Z11:=(([]:List Z3)++Z4)++([[Dat.bool i7.1,Dat.sl i7.2.1,Dat.sl i7.2.2]]:List Z3);[dF r]=Bc.args i7/\Bc.pre i7/\(((([]:List Z3)++Z4).length+([[Dat.bool i7.1,Dat.sl i7.2.1,Dat.sl i7.2.2]]:List Z3).length<=2199023255552)/\(Z6/\((0<=(nI x1))/\(Z7/\((Z1<=Z1)/\((Z11.length+Z2.length<=2199023255552)/\(((Z11++Z2)=AG Z18))))))))))))))))) (by kernel_rfl) ?_
 conv=>zeta
 delta ifB vB vI wR nI
 have hfl:=AH l
 have h1:=r.nlz
 have h2:=r.nld
 have hz:=AK r.z.natAbs
 have hd:=AK r.d
 refine ⟨⟨0,by
  exact ⟨Nat.zero_le _,λ j hj=>absurd hj (Nat.not_lt_zero j)⟩,?_⟩,?_⟩
 ·refine ⟨?_,rfl,rfl,rfl,rfl⟩
  first|rfl|(simp;done)
 intro (k:Nat) hki1
 have hki1:k<=l.length/\∀ j,j<k->Fr.cmp (l.getD j Fr.none) r<0:=hki1
 refine And.symm ⟨λ c8=>?_,λ c8=>?_⟩
 ·try simp only [nrm] at c8
  have hE:Cy l r=l.take k++r::l.drop k:=LQ hki1.1 hki1.2 (λ h=>absurd h (by omega))
  refine ⟨λ c61=>?_,λ c61=>?_⟩
  ·try simp only [nrm] at c61
   exfalso;omega -- done
  try simp only [nrm] at c61
  refine ao (by first|rfl|omega|(simp only [List.length_append,List.length_take,List.length_drop,List.length_cons,List.length_nil];omega)) λ o84=>?_
  refine ao (by first|rfl|omega|(simp only [List.length_append,List.length_take,List.length_drop,List.length_cons,List.length_nil];omega)) λ o85=>?_
  refine ao (by first|rfl|omega|(simp only [List.length_append,List.length_take,List.length_drop,List.length_cons,List.length_nil];omega)) λ o86=>?_
  refine ao (by first|rfl|omega|(simp only [List.length_append,List.length_take,List.length_drop,List.length_cons,List.length_nil];omega)) λ o87=>?_
  refine ao (by first|rfl|omega|(simp only [List.length_append,List.length_take,List.length_drop,List.length_cons,List.length_nil];omega)) λ o88=>?_
  refine ⟨(decide (r.z<0),(L r.z.natAbs),(L r.d)),by
   first|rfl|(rw [Cp hk];rfl),by
   show (L r.z.natAbs).length<=1073741824/\(L r.d).length<=1073741824
   first|trivial|exact ⟨by omega,by omega⟩,?_⟩
  refine ao (a:=(([]:List (List Dat))++((AG l).take k)).length+([[Dat.bool (decide (r.z<0)),Dat.sl (L r.z.natAbs),Dat.sl (L r.d)]]:List (List Dat)).length<=2199023255552) (by first|rfl|omega|(simp only [List.length_append,List.length_take,List.length_drop,List.length_cons,List.length_nil];omega)) λ o92=>?_
  refine ao (by first|rfl|omega|(simp only [List.length_append,List.length_take,List.length_drop,List.length_cons,List.length_nil];omega)) λ o93=>?_
  refine ao (by first|rfl|omega|(simp only [List.length_append,List.length_take,List.length_drop,List.length_cons,List.length_nil];omega)) λ o94=>?_
  refine ao (by first|rfl|omega|(simp only [List.length_append,List.length_take,List.length_drop,List.length_cons,List.length_nil];omega)) λ o95=>?_
  refine ao (by first|rfl|omega|(simp only [List.length_append,List.length_take,List.length_drop,List.length_cons,List.length_nil];omega)) λ o96=>?_
  refine ao (a:=((([]:List (List Dat))++((AG l).take k))++([[Dat.bool (decide (r.z<0)),Dat.sl (L r.z.natAbs),Dat.sl (L r.d)]]:List (List Dat))).length+(((AG l).take (((AG l).length:Int).toNat)).drop k).length<=2199023255552) (by first|rfl|omega|(simp only [List.length_append,List.length_take,List.length_drop,List.length_cons,List.length_nil];omega)) λ o97=>?_
  show (((([]:List (List Dat))++((AG l).take k))++([[Dat.bool (decide (r.z<0)),Dat.sl (L r.z.natAbs),Dat.sl (L r.d)]]:List (List Dat)))++(((AG l).take (((AG l).length:Int).toNat)).drop k))=AG (Cy l r)
  rw [hE,Int.toNat_natCast,List.take_length];exact MY l r k
 try simp only [nrm] at c8
 have hk:k<l.length:=by omega
 refine ao (by first|rfl|omega|(simp only [List.length_append,List.length_take,List.length_drop,List.length_cons,List.length_nil];omega)) λ o9=>?_
 refine ao (by first|rfl|omega|(simp only [List.length_append,List.length_take,List.length_drop,List.length_cons,List.length_nil];omega)) λ o10=>?_
 refine ⟨((l.getD k Fr.none),r),by
  first|rfl|(rw [Cp hk];rfl),by
  first|trivial|exact ⟨by omega,by omega⟩,?_⟩
 refine ⟨λ c14=>?_,λ c14=>?_⟩
 ·try simp only [nrm] at c14
  refine ⟨k+1,by
   exact ⟨by omega,II hki1.2 c14⟩,by
   first|omega|(simp;omega),?_⟩
  refine ⟨?_,rfl,rfl,rfl,rfl⟩
  first|rfl|exact AU (AB (by omega) (by omega))
 try simp only [nrm] at c14
 refine And.symm ⟨λ c23=>?_,λ c23=>?_⟩
 ·try simp only [nrm] at c23
  exfalso;omega -- done
 try simp only [nrm] at c23
 refine ao (by first|rfl|omega|(simp only [List.length_append,List.length_take,List.length_drop,List.length_cons,List.length_nil];omega)) λ o24=>?_
 refine ao (by first|rfl|omega|(simp only [List.length_append,List.length_take,List.length_drop,List.length_cons,List.length_nil];omega)) λ o25=>?_
 refine ⟨((l.getD k Fr.none),r),by
  first|rfl|(rw [Cp hk];rfl),by
  first|trivial|exact ⟨by omega,by omega⟩,?_⟩
 refine ⟨λ c29=>?_,λ c29=>?_⟩
 ·try simp only [nrm] at c29
  have hE:Cy l r=l:=MX hk hki1.2 c29
  rw [hE]
 try simp only [nrm] at c29
 have hE:Cy l r=l.take k++r::l.drop k:=LQ hki1.1 hki1.2 (λ _=>by omega)
 refine ao (by first|rfl|omega|(simp only [List.length_append,List.length_take,List.length_drop,List.length_cons,List.length_nil];omega)) λ o31=>?_
 refine ao (by first|rfl|omega|(simp only [List.length_append,List.length_take,List.length_drop,List.length_cons,List.length_nil];omega)) λ o32=>?_
 refine ao (by first|rfl|omega|(simp only [List.length_append,List.length_take,List.length_drop,List.length_cons,List.length_nil];omega)) λ o33=>?_
 refine ao (by first|rfl|omega|(simp only [List.length_append,List.length_take,List.length_drop,List.length_cons,List.length_nil];omega)) λ o34=>?_
 refine ao (by first|rfl|omega|(simp only [List.length_append,List.length_take,List.length_drop,List.length_cons,List.length_nil];omega)) λ o35=>?_
 refine ⟨(decide (r.z<0),(L r.z.natAbs),(L r.d)),by
  first|rfl|(rw [Cp hk];rfl),by
  show (L r.z.natAbs).length<=1073741824/\(L r.d).length<=1073741824
  first|trivial|exact ⟨by omega,by omega⟩,?_⟩
 refine ao (a:=(([]:List (List Dat))++((AG l).take k)).length+([[Dat.bool (decide (r.z<0)),Dat.sl (L r.z.natAbs),Dat.sl (L r.d)]]:List (List Dat)).length<=2199023255552) (by first|rfl|omega|(simp only [List.length_append,List.length_take,List.length_drop,List.length_cons,List.length_nil];omega)) λ o39=>?_
 refine ao (by first|rfl|omega|(simp only [List.length_append,List.length_take,List.length_drop,List.length_cons,List.length_nil];omega)) λ o40=>?_
 refine ao (by first|rfl|omega|(simp only [List.length_append,List.length_take,List.length_drop,List.length_cons,List.length_nil];omega)) λ o41=>?_
 refine ao (by first|rfl|omega|(simp only [List.length_append,List.length_take,List.length_drop,List.length_cons,List.length_nil];omega)) λ o42=>?_
 refine ao (by first|rfl|omega|(simp only [List.length_append,List.length_take,List.length_drop,List.length_cons,List.length_nil];omega)) λ o43=>?_
 refine ao (a:=((([]:List (List Dat))++((AG l).take k))++([[Dat.bool (decide (r.z<0)),Dat.sl (L r.z.natAbs),Dat.sl (L r.d)]]:List (List Dat))).length+(((AG l).take (((AG l).length:Int).toNat)).drop k).length<=2199023255552) (by first|rfl|omega|(simp only [List.length_append,List.length_take,List.length_drop,List.length_cons,List.length_nil];omega)) λ o44=>?_
 show (((([]:List (List Dat))++((AG l).take k))++([[Dat.bool (decide (r.z<0)),Dat.sl (L r.z.natAbs),Dat.sl (L r.d)]]:List (List Dat)))++(((AG l).take (((AG l).length:Int).toNat)).drop k))=AG (Cy l r)
 rw [hE,Int.toNat_natCast,List.take_length];exact MY l r k
def cM (e:Edg) (ly hy:Int) (m:Nat):List Cnd:=(cL e ly++cL e hy).take m
theorem DV {cs:List Cnd} {n:Nat} (h:cs.length<=n):(AG (okF cs)).length<=n:=by rw [AH];exact Nat.le_trans (Aj cs) h
theorem Vl {ls:List (List V2)} (h:NR ls) {ly hy:Int} {i:Nat} (hi' : i<=(edA ls).length) (n m:Nat):(cA ls ls.length++(cE (edA ls) ly hy i++(cC (edA ls) i n++cM ((edA ls).getD i noE) ly hy m))).length<=1200000000000/\(cA ls ls.length++cE (edA ls) ly hy i).length<=1200000000000:=by
 have h2:=LP ls ls.length
 have h3:=P3 (edA ls) i n
 have h4:=P4 (edA ls) ly hy i hi'
 have h5:=Q6 h
 have h6:=h.2.2
 have h7:=Nat.mul_le_mul (show i<=1048576 by omega) (show (edA ls).length+2<=1048578 by omega)
 have h8:(cM ((edA ls).getD i noE) ly hy m).length<=2:=by unfold cM cL;rw [List.length_take];simp only [List.length_append,List.length_cons,List.length_nil];omega
 simp only [List.length_append]
 constructor <;> omega
theorem CJ {ls:List (List V2)} {k n:Nat} (hv:E6 ls ls.length<=1048576) (hk:k<ls.length):(cA ls k++cV (ls.getD k []) n).length<=1048576:=by
 have h2:=LP ls k
 have h3:=P2 (ls.getD k []) n
 have h4:=NO ls (k+1) (ls.length-(k+1))
 rw [show k+1+(ls.length-(k+1))=ls.length by omega] at h4
 have h5:E6 ls (k+1)=E6 ls k+(ls.getD k []).length:=rfl
 rw [List.length_append];omega
theorem Q9 {e:Edg} {ly hy:Int} {m:Nat} (h:m<2) (A B C:List Cnd):A++(B++(C++cM e ly hy (m+1)))=(A++(B++(C++cM e ly hy m)))++[(As e ((([[Dat.int ly],[Dat.int hy]].getD m []).getD 0 (.int 0)).n),Bm e ((([[Dat.int ly],[Dat.int hy]].getD m []).getD 0 (.int 0)).n))]:=by
 match m,h with
 | 0,_=>simp [cM,cL,Dat.n]
 | 1,_=>simp [cM,cL,Dat.n]
theorem VO {es:List Edg} {ly hy:Int} {i m:Nat} (h:m=2) (A:List Cnd):A++(cE es ly hy i++(cC es i i++cM (es.getD i noE) ly hy m))=A++cE es ly hy (i+1):=by
 subst h;simp [cM,cL,cE]
theorem VP (e:Edg) (ly hy:Int) (A B C:List Cnd):A++(B++(C++cM e ly hy 0))=A++(B++C):=by simp [cM]
theorem XI {ly hy:Int} {m:Nat} (h1:-9223372036854775808<=ly/\ly<=9223372036854775807) (h2:-9223372036854775808<=hy/\hy<=9223372036854775807) (h:m<2):-9223372036854775808<=(([[Dat.int ly],[Dat.int hy]].getD m []).getD 0 (.int 0)).n/\(([[Dat.int ly],[Dat.int hy]].getD m []).getD 0 (.int 0)).n<=9223372036854775807:=by
 match m,h with
 | 0,_=>exact h1
 | 1,_=>exact h2
def C0:Con:={ ι:=Int×Int×Int×Int×(List (List V2)),pre:=λ i=>i.2.2.2.2.length<=1048576/\E6 i.2.2.2.2 i.2.2.2.2.length<=1048576/\(-9223372036854775808<=i.1/\i.1<=9223372036854775807)/\(-9223372036854775808<=i.2.1/\i.2.1<=9223372036854775807)/\(-9223372036854775808<=i.2.2.1/\i.2.2.1<=9223372036854775807)/\(-9223372036854775808<=i.2.2.2.1/\i.2.2.2.1<=9223372036854775807),args:=λ i=>[DA.agg [cI i.1,cI i.2.1,cI i.2.2.1,cI i.2.2.2.1],.one (DC.sl 40 [.sl 39 [.int,.int]] (AW i.2.2.2.2))],res:=λ i=>⟨false,[none],[.view 90 [.bool,.sl 3 [.int],.sl 3 [.int]] (AG (evR i.1 i.2.1 i.2.2.1 i.2.2.2.1 i.2.2.2.2))]⟩ }
set_option maxHeartbeats 1600000 in
theorem NX:C0.Ok Tryz.prog 27:=by
 refine fok (X:=⟨tt,[(89,Ca),(90,AR),(91,ED),(92,IY),(93,Gd),(94,Am),(95,F7)],[121],143,[]⟩) mixed AN (CTok.cons LK (CTok.cons CY (CTok.cons Ou (CTok.cons VD (CTok.cons VF (CTok.cons Fz (CTok.cons SW (CTok.nil _)))))))) Tryz.func27 (λ (i:Int×Int×Int×Int×(List (List V2)))=>let Z9:=Fr.ofInt i.1;let Z6:=Fr.ofInt i.2.2.1;let Z4:=AW i.2.2.2.2;let Z1:=edA i.2.2.2.2;let Z5:=Ai Z1;let Z10:=nI (Z5.length);let Z2:=okF (cA i.2.2.2.2 i.2.2.2.2.length++cE Z1 i.2.1 i.2.2.2.1 Z1.length);[(38,.mk 9 (Nat) (λ x13=>{ tm:=[(21,tP 1 0),(22,tP 4 0),(122,tX 7),(123,tI (nI ((AG Z2).length))),(124,tI (nI x13)),(23,tX 8)],en:=[(1,.box [kB (decide (Z9.z<0)),.ext 2,.ext 3]),(4,.box [kB (decide (Z6.z<0)),.ext 5,.ext 6]),(2,.own 3 [.int] (L Z9.z.natAbs)),(3,.own 3 [.int] (L Z9.d)),(5,.own 3 [.int] (L Z6.z.natAbs)),(6,.own 3 [.int] (L Z6.d)),(7,.own 90 z84 (AG Z2)),(8,.view 90 z84 (AG (Cz Z9 Z6 Z2 x13)) [2,3,5,6,7])] }) (λ x13=>x13<=Z2.length) (λ x13=>Z2.length-x13) (λ _=>[])),(17,.mk 4 (Nat) (λ x5=>{ tm:=[(2,tP 1 0),(59,tX 2),(61,tI (nI x5)),(10,tX 2),(60,tI Z10),(5,tX 3)],en:=[(1,.box [kI i.1,kI i.2.1,kI i.2.2.1,kI i.2.2.2.1]),(2,.own 140 Ko Z5),(3,.own 90 z84 (AG (okF (cA i.2.2.2.2 i.2.2.2.2.length++cE Z1 i.2.1 i.2.2.2.1 x5))))] }) (λ x5=>x5<=Z1.length) (λ x5=>Z1.length-x5) (λ x5=>let Z3:=Z5.getD x5 [];let Z16:=((Z3.getD 5 (.int 0))).b;let Z15:=((Z3.getD 4 (.int 0))).n;let Z14:=((Z3.getD 3 (.int 0))).n;let Z13:=((Z3.getD 2 (.int 0))).n;let Z12:=((Z3.getD 1 (.int 0))).n;let Z11:=((Z3.getD 0 (.int 0))).n;[(20,.mk 6 (Nat) (λ x6=>{ tm:=[(2,tP 1 0),(12,tP 2 0),(59,tX 3),(61,tI (nI x5)),(70,tI (nI x6)),(10,tX 3),(60,tI Z10),(68,tX 4),(69,tI (nI ((Z5.take x5).length))),(5,tX 5)],en:=[(1,.box [kI i.1,kI i.2.1,kI i.2.2.1,kI i.2.2.2.1]),(2,.box [kI Z11,kI Z12,kI Z13,kI Z14,kI Z15,kB Z16]),(3,.own 140 Ko Z5),(4,.view 140 Ko (Z5.take x5) [3]),(5,.own 90 z84 (AG (okF (cA i.2.2.2.2 i.2.2.2.2.length++(cE Z1 i.2.1 i.2.2.2.1 x5++cC Z1 x5 x6)))))] }) (λ x6=>x6<=x5) (λ x6=>x5-x6) (λ _=>[])),(27,.mk 6 (Nat) (λ x9=>{ tm:=[(2,tP 1 0),(12,tP 2 0),(59,tX 3),(61,tI (nI x5)),(92,tX 4),(93,tI (nI (([[Dat.int i.2.1],[Dat.int i.2.2.2.1]]:List (List Dat)).length))),(94,tI (nI x9)),(10,tX 3),(60,tI Z10),(5,tX 5)],en:=[(1,.box [kI i.1,kI i.2.1,kI i.2.2.1,kI i.2.2.2.1]),(2,.box [kI Z11,kI Z12,kI Z13,kI Z14,kI Z15,kB Z16]),(3,.own 140 Ko Z5),(4,.own 3 [.int] ([[Dat.int i.2.1],[Dat.int i.2.2.2.1]]:List (List Dat))),(5,.own 90 z84 (AG (okF (cA i.2.2.2.2 i.2.2.2.2.length++(cE Z1 i.2.1 i.2.2.2.1 x5++(cC Z1 x5 x5++cM (Z1.getD x5 noE) i.2.1 i.2.2.2.1 x9))))))] }) (λ x9=>x9<=2) (λ x9=>2-x9) (λ _=>[]))])),(3,.mk 4 (Nat) (λ x1=>{ tm:=[(1,tX 1),(2,tP 2 0),(27,tX 1),(28,tI (nI (Z4.length))),(29,tI (nI x1)),(5,tX 3)],en:=[(2,.box [kI i.1,kI i.2.1,kI i.2.2.1,kI i.2.2.2.1]),(1,.view 40 [.sl 39 [.int,.int]] Z4 []),(3,.own 90 z84 (AG (okF (cA i.2.2.2.2 x1))))] }) (λ x1=>x1<=i.2.2.2.2.length/\∀ j,j<x1->Ae (i.2.2.2.2.getD j [])=true) (λ x1=>i.2.2.2.2.length-x1) (λ x1=>let Z8:=(((Z4.getD x1 []).getD 0 (.int 0))).r;let Z7:=i.2.2.2.2.getD x1 [];[(8,.mk 5 (Nat) (λ x2=>{ tm:=[(1,tX 1),(2,tP 2 0),(27,tX 1),(28,tI (nI (Z4.length))),(29,tI (nI x1)),(36,tX 3),(37,tI (nI (Z8.length))),(38,tI (nI x2)),(5,tX 4)],en:=[(2,.box [kI i.1,kI i.2.1,kI i.2.2.1,kI i.2.2.2.1]),(1,.view 40 [.sl 39 [.int,.int]] Z4 []),(3,.view 39 [.int,.int] Z8 []),(4,.own 90 z84 (AG (okF (cA i.2.2.2.2 x1++cV Z7 x2))))] }) (λ x2=>x2<=Z7.length) (λ x2=>Z7.length-x2) (λ _=>[]))]))]) ?_
 rintro ⟨lx,ly,hx,hy,ls⟩ hpre
 have hpre:ls.length<=1048576/\E6 ls ls.length<=1048576/\(-9223372036854775808<=lx/\lx<=9223372036854775807)/\(-9223372036854775808<=ly/\ly<=9223372036854775807)/\(-9223372036854775808<=hx/\hx<=9223372036854775807)/\(-9223372036854775808<=hy/\hy<=9223372036854775807):=hpre
 refine AP (q:=let Z22:=AW ls;let Z29:=vI (nI (Z22.length));let Z21:=List Dat;let Z40:=(([]:List Z21)=AG (evR lx ly hx hy ls));let Z9:=nI (([[Dat.int ly],[Dat.int hy]]:List Z21).length);let Z8:=Fr.ofInt hx;let Z44:=L Z8.z.natAbs;let Z39:=decide (Z8.z<0);let Z7:=Fr.ofInt lx;let Z43:=L Z7.z.natAbs;let Z37:=decide (Z7.z<0);let Z3:=Ai (edA ls);let Z45:=nI (Z3.length);let Z19:=vI Z45;let Z1:=okF (cA ls ls.length++cE (edA ls) ly hy (edA ls).length);let Z23:=nI ((AG Z1).length);(∃ x1:Nat,(x1<=ls.length/\∀ j,j<x1->Ae (ls.getD j [])=true)/\((rf Z29)/\(vI (0:Int)=vI (nI x1))/\(rf (vI lx))/\(rf (vI ly))/\(rf (vI hx))/\(rf (vI hy))/\(rf Z22)/\(([]:List Z21)=(AG (okF (cA ls x1))))))/\∀ x1:Nat,let Z47:=AG (okF (cA ls x1));let Z20:=ls.getD x1 [];let Z4:=(((Z22.getD x1 []).getD 0 (.int 0))).r;let Z46:=nI (Z4.length);(x1<=ls.length/\∀ j,j<x1->Ae (ls.getD j [])=true)->(ifB ((decide ((nI x1)<(nI (Z22.length))))) ((0<=(nI x1)/\(nI x1)<(Z22.length:Int))/\((x1<Z22.length)/\(∃ i1:(List V2),[DA.one (DC.sl 39 [.int,.int] Z4)]=Ca.args i1/\Ca.pre i1/\(ifB ((!(Ae i1))) Z40 ((∃ x2:Nat,(x2<=Z20.length)/\((rf Z29)/\(rf (vI (nI x1)))/\(rf (vI Z46))/\(vI (0:Int)=vI (nI x2))/\(rf (vI lx))/\(rf (vI ly))/\(rf (vI hx))/\(rf (vI hy))/\(rf Z22)/\(rf Z4)/\(Z47=(AG (okF (cA ls x1++cV Z20 x2))))))/\∀ x2:Nat,let Z25:=AG (okF (cA ls x1++cV Z20 x2));(x2<=Z20.length)->(ifB ((decide ((nI x2)<Z46))) ((0<=(nI x2)/\(nI x2)<(Z4.length:Int))/\((x2<Z4.length)/\(∃ i2:Int,let Z35:=Fr.ofInt i2;[DA.one (cI ((((Z4.getD x2 []).getD 0 (.int 0))).n))]=AR.args i2/\AR.pre i2/\((Z25.length+([[Dat.bool (decide (Z35.z<0)),Dat.sl (L Z35.z.natAbs),Dat.sl (L Z35.d)]]:List Z21).length<=2199023255552)/\(∃ y3:Nat,(y3<=Z20.length)/\(Z20.length-y3<Z20.length-x2)/\((rf Z29)/\(rf (vI (nI x1)))/\(rf (vI Z46))/\(vI (wR ((nI x2)+(1:Int)))=vI (nI y3))/\(rf (vI lx))/\(rf (vI ly))/\(rf (vI hx))/\(rf (vI hy))/\(rf Z22)/\(rf Z4)/\((Z25++([[Dat.bool (decide (Z35.z<0)),Dat.sl (L Z35.z.natAbs),Dat.sl (L Z35.d)]]:List Z21))=(AG (okF (cA ls x1++cV Z20 y3)))))))))) (∃ y4:Nat,(y4<=ls.length/\∀ j,j<y4->Ae (ls.getD j [])=true)/\(ls.length-y4<ls.length-x1)/\((rf Z29)/\(vI (wR ((nI x1)+(1:Int)))=vI (nI y4))/\(rf (vI lx))/\(rf (vI ly))/\(rf (vI hx))/\(rf (vI hy))/\(rf Z22)/\(Z25=(AG (okF (cA ls y4)))))))))))) (ifB ((decide (lx≥hx))) Z40 (∃ i3:(List (List V2)),[DA.one (DC.sl 40 [.sl 39 [.int,.int]] Z22)]=ED.args i3/\ED.pre i3/\((∃ x5:Nat,(x5<=(edA ls).length)/\((vI (0:Int)=vI (nI x5))/\(vI (nI ((Ai (edA i3)).length))=vI Z45)/\(rf (vI lx))/\(rf (vI ly))/\(rf (vI hx))/\(rf (vI hy))/\(Ai (edA i3)=Z3)/\(Z47=(AG (okF (cA ls ls.length++cE (edA ls) ly hy x5))))))/\∀ x5:Nat,let Z41:=vI (nI x5);let Z30:=(edA ls).getD x5 noE;let Z18:=AG (okF (cA ls ls.length++cE (edA ls) ly hy x5));let Z17:=Z3.take x5;let Z42:=nI (Z17.length);let Z2:=Z3.getD x5 [];let Z15:=((Z2.getD 5 (.int 0))).b;let Z14:=((Z2.getD 4 (.int 0))).n;let Z13:=((Z2.getD 3 (.int 0))).n;let Z12:=((Z2.getD 2 (.int 0))).n;let Z11:=((Z2.getD 1 (.int 0))).n;let Z10:=((Z2.getD 0 (.int 0))).n;(x5<=(edA ls).length)->(ifB ((decide ((nI x5)<Z45))) ((0<=(nI x5)/\(nI x5)<(Z3.length:Int))/\((x5<Z3.length)/\((Nat.beq 6 6=true)/\((0<=(0:Int))/\(((0:Int)<=(nI x5))/\(((nI x5)<=(Z3.length:Int))/\((∃ x6:Nat,(x6<=x5)/\((rf Z41)/\(vI (0:Int)=vI (nI x6))/\(rf Z19)/\(rf (vI Z42))/\(rf (vI lx))/\(rf (vI ly))/\(rf (vI hx))/\(rf (vI hy))/\(vI ((Z2.getD 0 (.int 0))).n=vI Z10)/\(vI ((Z2.getD 1 (.int 0))).n=vI Z11)/\(vI ((Z2.getD 2 (.int 0))).n=vI Z12)/\(vI ((Z2.getD 3 (.int 0))).n=vI Z13)/\(vI ((Z2.getD 4 (.int 0))).n=vI Z14)/\(rf (vB Z15))/\(rf Z3)/\(rf Z17)/\(Z18=(AG (okF (cA ls ls.length++(cE (edA ls) ly hy x5++cC (edA ls) x5 x6)))))))/\∀ x6:Nat,let Z48:=wR ((nI x6)+(1:Int));let Z26:=Z17.getD x6 [];let Z6:=AG (okF (cA ls ls.length++(cE (edA ls) ly hy x5++cC (edA ls) x5 x6)));(x6<=x5)->(ifB ((decide ((nI x6)<Z42))) ((0<=(nI x6)/\(nI x6)<(Z17.length:Int))/\((x6<Z17.length)/\(∃ i4:Edg×Edg,let Z27:=Cb i4.1 i4.2;[DA.agg [cI Z10,cI Z11,cI Z12,cI Z13,cI Z14,cB Z15],DA.agg [cI (((Z26.getD 0 (.int 0))).n),cI (((Z26.getD 1 (.int 0))).n),cI (((Z26.getD 2 (.int 0))).n),cI (((Z26.getD 3 (.int 0))).n),cI (((Z26.getD 4 (.int 0))).n),cB (((Z26.getD 5 (.int 0))).b)]]=IY.args i4/\IY.pre i4/\(ifB ((DD i4.1 i4.2)) ((Z6.length+([[Dat.bool (decide (Z27.z<0)),Dat.sl (L Z27.z.natAbs),Dat.sl (L Z27.d)]]:List Z21).length<=2199023255552)/\(∃ y7:Nat,(y7<=x5)/\(x5-y7<x5-x6)/\((rf Z41)/\(vI Z48=vI (nI y7))/\(rf Z19)/\(rf (vI Z42))/\(rf (vI lx))/\(rf (vI ly))/\(rf (vI hx))/\(rf (vI hy))/\(rf (vI Z10))/\(rf (vI Z11))/\(rf (vI Z12))/\(rf (vI Z13))/\(rf (vI Z14))/\(rf (vB Z15))/\(rf Z3)/\(rf Z17)/\((Z6++([[Dat.bool (decide (Z27.z<0)),Dat.sl (L Z27.z.natAbs),Dat.sl (L Z27.d)]]:List Z21))=(AG (okF (cA ls ls.length++(cE (edA ls) ly hy x5++cC (edA ls) x5 y7)))))))) (∃ y8:Nat,(y8<=x5)/\(x5-y8<x5-x6)/\((rf Z41)/\(vI Z48=vI (nI y8))/\(rf Z19)/\(rf (vI Z42))/\(rf (vI lx))/\(rf (vI ly))/\(rf (vI hx))/\(rf (vI hy))/\(rf (vI Z10))/\(rf (vI Z11))/\(rf (vI Z12))/\(rf (vI Z13))/\(rf (vI Z14))/\(rf (vB Z15))/\(rf Z3)/\(rf Z17)/\(Z6=(AG (okF (cA ls ls.length++(cE (edA ls) ly hy x5++cC (edA ls) x5 y8))))))))))) ((∃ x9:Nat,(x9<=2)/\((rf Z41)/\(rf (vI Z9))/\(vI (0:Int)=vI (nI x9))/\(rf Z19)/\(rf (vI lx))/\(rf (vI ly))/\(rf (vI hx))/\(rf (vI hy))/\(rf (vI Z10))/\(rf (vI Z11))/\(rf (vI Z12))/\(rf (vI Z13))/\(rf (vI Z14))/\(rf (vB Z15))/\(rf Z3)/\(rf ([[Dat.int ly],[Dat.int hy]]:List Z21))/\(Z6=(AG (okF (cA ls ls.length++(cE (edA ls) ly hy x5++(cC (edA ls) x5 x5++cM Z30 ly hy x9))))))))/\∀ x9:Nat,let Z49:=wR ((nI x9)+(1:Int));let Z5:=AG (okF (cA ls ls.length++(cE (edA ls) ly hy x5++(cC (edA ls) x5 x5++cM Z30 ly hy x9))));(x9<=2)->(ifB ((decide ((nI x9)<Z9))) ((0<=(nI x9)/\(nI x9)<(([[Dat.int ly],[Dat.int hy]]:List Z21).length:Int))/\((x9<([[Dat.int ly],[Dat.int hy]]:List Z21).length)/\(∃ i5:Edg×Int,let Z28:=As i5.1 i5.2;[DA.agg [cI Z10,cI Z11,cI Z12,cI Z13,cI Z14,cB Z15],DA.one (cI ((((([[Dat.int ly],[Dat.int hy]]:List Z21).getD x9 []).getD 0 (.int 0))).n))]=Gd.args i5/\Gd.pre i5/\(ifB ((Bm i5.1 i5.2)) ((Z5.length+([[Dat.bool (decide (Z28.z<0)),Dat.sl (L Z28.z.natAbs),Dat.sl (L Z28.d)]]:List Z21).length<=2199023255552)/\(∃ y10:Nat,(y10<=2)/\(2-y10<2-x9)/\((rf Z41)/\(rf (vI Z9))/\(vI Z49=vI (nI y10))/\(rf Z19)/\(rf (vI lx))/\(rf (vI ly))/\(rf (vI hx))/\(rf (vI hy))/\(rf (vI Z10))/\(rf (vI Z11))/\(rf (vI Z12))/\(rf (vI Z13))/\(rf (vI Z14))/\(rf (vB Z15))/\(rf Z3)/\(rf ([[Dat.int ly],[Dat.int hy]]:List Z21))/\((Z5++([[Dat.bool (decide (Z28.z<0)),Dat.sl (L Z28.z.natAbs),Dat.sl (L Z28.d)]]:List Z21))=(AG (okF (cA ls ls.length++(cE (edA ls) ly hy x5++(cC (edA ls) x5 x5++cM Z30 ly hy y10))))))))) (∃ y11:Nat,(y11<=2)/\(2-y11<2-x9)/\((rf Z41)/\(rf (vI Z9))/\(vI Z49=vI (nI y11))/\(rf Z19)/\(rf (vI lx))/\(rf (vI ly))/\(rf (vI hx))/\(rf (vI hy))/\(rf (vI Z10))/\(rf (vI Z11))/\(rf (vI Z12))/\(rf (vI Z13))/\(rf (vI Z14))/\(rf (vB Z15))/\(rf Z3)/\(rf ([[Dat.int ly],[Dat.int hy]]:List Z21))/\(Z5=(AG (okF (cA ls ls.length++(cE (edA ls) ly hy x5++(cC (edA ls) x5 x5++cM Z30 ly hy y11)))))))))))) (∃ y12:Nat,(y12<=(edA ls).length)/\((edA ls).length-y12<(edA ls).length-x5)/\((vI (wR ((nI x5)+(1:Int)))=vI (nI y12))/\(rf Z19)/\(rf (vI lx))/\(rf (vI ly))/\(rf (vI hx))/\(rf (vI hy))/\(rf Z3)/\(Z5=(AG (okF (cA ls ls.length++cE (edA ls) ly hy y12)))))))))))))))) (∃ i6:Int,let Z36:=Fr.ofInt i6;[DA.one (cI lx)]=AR.args i6/\AR.pre i6/\(∃ i7:Int,let Z38:=Fr.ofInt i7;[DA.one (cI hx)]=AR.args i7/\AR.pre i7/\((∃ x13:Nat,(x13<=Z1.length)/\((vI (nI (Z18.length))=vI Z23)/\(vI (0:Int)=vI (nI x13))/\(vB (decide (Z36.z<0))=vB Z37)/\(vB (decide (Z38.z<0))=vB Z39)/\(L Z36.z.natAbs=Z43)/\(L Z36.d=(L Z7.d))/\(L Z38.z.natAbs=Z44)/\(L Z38.d=(L Z8.d))/\(Z18=(AG Z1))/\(([[Dat.bool (decide (Z36.z<0)),Dat.sl (L Z36.z.natAbs),Dat.sl (L Z36.d)],[Dat.bool (decide (Z38.z<0)),Dat.sl (L Z38.z.natAbs),Dat.sl (L Z38.d)]]:List Z21)=(AG (Cz Z7 Z8 Z1 x13)))))/\∀ x13:Nat,let Z34:=wR ((nI x13)+(1:Int));let Z24:=AG (Cz Z7 Z8 Z1 x13);let Z16:=(AG Z1).getD x13 [];let Z33:=((Z16.getD 2 (.int 0))).r;let Z32:=((Z16.getD 1 (.int 0))).r;let Z31:=((Z16.getD 0 (.int 0))).b;(x13<=Z1.length)->(ifB ((decide ((nI x13)<Z23))) ((0<=(nI x13)/\(nI x13)<((AG Z1).length:Int))/\((x13<(AG Z1).length)/\(∃ i8:Fr×Fr,[DA.agg [cB Z31,cS Z32,cS Z33],dF Z7]=Am.args i8/\Am.pre i8/\(ifB ((decide ((Fr.cmp i8.1 i8.2)>(0:Int)))) (∃ i9:Fr×Fr,[DA.agg [cB Z31,cS Z32,cS Z33],dF Z8]=Am.args i9/\Am.pre i9/\(ifB ((decide ((Fr.cmp i9.1 i9.2)<(0:Int)))) (∃ i10:(List Fr)×Fr,[DA.one (DC.sl 90 z84 Z24),DA.agg [cB Z31,cS Z32,cS Z33]]=F7.args i10/\F7.pre i10/\(∃ y14:Nat,(y14<=Z1.length)/\(Z1.length-y14<Z1.length-x13)/\((rf (vI Z23))/\(vI Z34=vI (nI y14))/\(rf (vB Z37))/\(rf (vB Z39))/\(rf Z43)/\(rf (L Z7.d))/\(rf Z44)/\(rf (L Z8.d))/\(rf (AG Z1))/\(AG (Cy i10.1 i10.2)=(AG (Cz Z7 Z8 Z1 y14)))))) (∃ y15:Nat,(y15<=Z1.length)/\(Z1.length-y15<Z1.length-x13)/\((rf (vI Z23))/\(vI Z34=vI (nI y15))/\(rf (vB Z37))/\(rf (vB Z39))/\(rf Z43)/\(rf (L Z7.d))/\(rf Z44)/\(rf (L Z8.d))/\(rf (AG Z1))/\(Z24=(AG (Cz Z7 Z8 Z1 y15))))))) (∃ y16:Nat,(y16<=Z1.length)/\(Z1.length-y16<Z1.length-x13)/\((rf (vI Z23))/\(vI Z34=vI (nI y16))/\(rf (vB Z37))/\(rf (vB Z39))/\(rf Z43)/\(rf (L Z7.d))/\(rf Z44)/\(rf (L Z8.d))/\(rf (AG Z1))/\(Z24=(AG (Cz Z7 Z8 Z1 y16))))))))) ((Z24=AG (evR lx ly hx hy ls))))))))))))) (by kernel_rfl) ?_
 conv=>zeta
 delta ifB vB vI wR nI
 have hal:=BG ls
 have hb0:=hpre.1
 refine ⟨⟨0,by
  exact ⟨Nat.zero_le _,λ j hj=>absurd hj (Nat.not_lt_zero j)⟩,?_⟩,?_⟩
 ·refine ⟨rfl,?_,rfl,rfl,rfl,rfl,rfl,?_⟩
  ·first|rfl|(simp;done)
  first|rfl|(simp;done)
 intro (k:Nat) hki1
 have hki1:k<=ls.length/\∀ j,j<k->Ae (ls.getD j [])=true:=hki1
 refine ⟨λ c11=>?_,λ c11=>?_⟩
 ·try simp only [nrm] at c11
  have hkl:k<ls.length:=by omega
  refine ao (by first|rfl|omega|(rw [AA];omega)|(rw [AJ,AA,List.length_take];omega)|(rw [AL hkl,AF];omega)|(have:=DV (CJ hpre.2.1 hkl (n:=n));simp only [List.length_cons,List.length_nil];omega)|(simp only [List.length_cons,List.length_nil];omega)|(rw [AH];omega)|(rw [AH];refine Nat.le_trans (Nat.add_le_add_right (Aj _) _) ?_;have hcc:=(hcb n 0).1;simp only [List.length_append,List.length_cons,List.length_nil] at hcc ⊢;omega)|(rw [AH];refine Nat.le_trans (Nat.add_le_add_right (Aj _) _) ?_;have hcc:=(hcb i m).1;simp only [List.length_append,List.length_cons,List.length_nil] at hcc ⊢;omega)) λ o12=>?_
  refine ao (by first|rfl|omega|(rw [AA];omega)|(rw [AJ,AA,List.length_take];omega)|(rw [AL hkl,AF];omega)|(have:=DV (CJ hpre.2.1 hkl (n:=n));simp only [List.length_cons,List.length_nil];omega)|(simp only [List.length_cons,List.length_nil];omega)|(rw [AH];omega)|(rw [AH];refine Nat.le_trans (Nat.add_le_add_right (Aj _) _) ?_;have hcc:=(hcb n 0).1;simp only [List.length_append,List.length_cons,List.length_nil] at hcc ⊢;omega)|(rw [AH];refine Nat.le_trans (Nat.add_le_add_right (Aj _) _) ?_;have hcc:=(hcb i m).1;simp only [List.length_append,List.length_cons,List.length_nil] at hcc ⊢;omega)) λ o13=>?_
  refine ⟨(ls.getD k []),by
   rw [AL hkl];rfl,by
   first|trivial|exact ⟨by omega,by omega⟩|exact ⟨hPB,hpre.1⟩,?_⟩
  refine ⟨λ c17=>?_,λ c17=>?_⟩
  ·try simp only [nrm] at c17
   have hE:evR lx ly hx hy ls=[]:=NV (λ h=>by rw [UJ hkl c17] at h;cases h.1)
   rw [hE];rfl
  try simp only [nrm] at c17
  have hV:=(BS c17).1
  have h16:=(BS c17).2.2
  refine ⟨⟨0,by
   first|trivial|omega|(simp;omega),?_⟩,?_⟩
  ·refine ⟨rfl,rfl,rfl,?_,rfl,rfl,rfl,rfl,rfl,rfl,?_⟩
   ·first|rfl|(simp;done)
   unfold cV;rw [List.take_zero];simp
  intro (n:Nat) hki19
  have hki19:n<=(ls.getD k []).length:=hki19
  refine And.symm ⟨λ c32=>?_,λ c32=>?_⟩
  ·try simp only [nrm] at c32
   rw [AL hkl,AF] at c32
   have hne:n=(ls.getD k []).length:=by omega
   refine ⟨k+1,by
    exact ⟨by omega,II hki1.2 c17⟩,by
    first|omega|(simp;omega),?_⟩
   refine ⟨rfl,?_,rfl,rfl,rfl,rfl,rfl,?_⟩
   ·first|rfl|exact AU (AB (by omega) (by omega))
   rw [Q5 hne]
  try simp only [nrm] at c32
  rw [AL hkl,AF] at c32
  have hn:n<(ls.getD k []).length:=by omega
  have hvb:=Dr (Ep hV hn)
  refine ao (by first|rfl|omega|(rw [AA];omega)|(rw [AJ,AA,List.length_take];omega)|(rw [AL hkl,AF];omega)|(have:=DV (CJ hpre.2.1 hkl (n:=n));simp only [List.length_cons,List.length_nil];omega)|(simp only [List.length_cons,List.length_nil];omega)|(rw [AH];omega)|(rw [AH];refine Nat.le_trans (Nat.add_le_add_right (Aj _) _) ?_;have hcc:=(hcb n 0).1;simp only [List.length_append,List.length_cons,List.length_nil] at hcc ⊢;omega)|(rw [AH];refine Nat.le_trans (Nat.add_le_add_right (Aj _) _) ?_;have hcc:=(hcb i m).1;simp only [List.length_append,List.length_cons,List.length_nil] at hcc ⊢;omega)) λ o33=>?_
  refine ao (by first|rfl|omega|(rw [AA];omega)|(rw [AJ,AA,List.length_take];omega)|(rw [AL hkl,AF];omega)|(have:=DV (CJ hpre.2.1 hkl (n:=n));simp only [List.length_cons,List.length_nil];omega)|(simp only [List.length_cons,List.length_nil];omega)|(rw [AH];omega)|(rw [AH];refine Nat.le_trans (Nat.add_le_add_right (Aj _) _) ?_;have hcc:=(hcb n 0).1;simp only [List.length_append,List.length_cons,List.length_nil] at hcc ⊢;omega)|(rw [AH];refine Nat.le_trans (Nat.add_le_add_right (Aj _) _) ?_;have hcc:=(hcb i m).1;simp only [List.length_append,List.length_cons,List.length_nil] at hcc ⊢;omega)) λ o34=>?_
  refine ⟨((ls.getD k []).getD n (0,0)).1,by
   rw [AL hkl,BF hn];rfl,by
   show -9223372036854775808<=(((ls.getD k []).getD n (0,0)).1)/\(((ls.getD k []).getD n (0,0)).1)<=9223372036854775807
   first|trivial|exact ⟨by omega,by omega⟩|exact ⟨hPB,hpre.1⟩,?_⟩
  refine ao (by first|rfl|omega|(rw [AA];omega)|(rw [AJ,AA,List.length_take];omega)|(rw [AL hkl,AF];omega)|(have:=DV (CJ hpre.2.1 hkl (n:=n));simp only [List.length_cons,List.length_nil];omega)|(simp only [List.length_cons,List.length_nil];omega)|(rw [AH];omega)|(rw [AH];refine Nat.le_trans (Nat.add_le_add_right (Aj _) _) ?_;have hcc:=(hcb n 0).1;simp only [List.length_append,List.length_cons,List.length_nil] at hcc ⊢;omega)|(rw [AH];refine Nat.le_trans (Nat.add_le_add_right (Aj _) _) ?_;have hcc:=(hcb i m).1;simp only [List.length_append,List.length_cons,List.length_nil] at hcc ⊢;omega)) λ o38=>?_
  refine ⟨n+1,by
   first|trivial|omega|(simp;omega),by
   first|omega|(simp;omega),?_⟩
  refine ⟨rfl,rfl,rfl,?_,rfl,rfl,rfl,rfl,rfl,rfl,?_⟩
  ·first|rfl|exact AU (AB (by omega) (by omega))
  exact P6 (J4 hn _) rfl
 try simp only [nrm] at c11
 have hke:k=ls.length:=by omega
 have hPB:=UK (λ j hj=>hki1.2 j (by omega))
 have har:NR ls:=⟨hPB,hpre.1,hpre.2.1⟩
 have hed:=Q6 har
 refine ⟨λ c64=>?_,λ c64=>?_⟩
 ·try simp only [nrm] at c64
  have hE:evR lx ly hx hy ls=[]:=NV (λ h=>absurd h.2 (by omega))
  rw [hE];rfl
 try simp only [nrm] at c64
 refine ⟨ls,by
  rfl,by
  show BZ ls=true/\ls.length<=1048576
  first|trivial|exact ⟨by omega,by omega⟩|exact ⟨hPB,hpre.1⟩,?_⟩
 refine ⟨⟨0,by
  first|trivial|omega|(simp;omega),?_⟩,?_⟩
 ·refine ⟨?_,rfl,rfl,rfl,rfl,rfl,rfl,?_⟩
  ·first|rfl|(simp;done)
  rw [hke];simp [cE]
 intro (i:Nat) hki69
 have hki69:i<=(edA ls).length:=hki69
 refine And.symm ⟨λ c79=>?_,λ c79=>?_⟩
 ·try simp only [nrm] at c79
  rw [AA] at c79
  have hie:i=(edA ls).length:=by omega
  have hab:=Nat.le_trans (Aj _) (Vl har (ly:=ly) (hy:=hy) (Nat.le_refl _) 0 0).2
  refine ⟨lx,by
   rfl,by
   show -9223372036854775808<=lx/\lx<=9223372036854775807
   first|trivial|exact ⟨by omega,by omega⟩|exact ⟨hPB,hpre.1⟩,?_⟩
  refine ⟨hx,by
   rfl,by
   show -9223372036854775808<=hx/\hx<=9223372036854775807
   first|trivial|exact ⟨by omega,by omega⟩|exact ⟨hPB,hpre.1⟩,?_⟩
  refine ⟨⟨0,by
   first|trivial|omega|(simp;omega),?_⟩,?_⟩
  ·refine ⟨?_,?_,rfl,rfl,rfl,rfl,rfl,rfl,?_,?_⟩
   ·rw [hie]
   ·first|rfl|(simp;done)
   ·rw [hie]
   unfold Cz;rw [List.take_zero];rfl
  intro (q:Nat) hki237
  have hki237:q<=(okF (cA ls ls.length++cE (edA ls) ly hy (edA ls).length)).length:=hki237
  refine And.symm ⟨λ c249=>?_,λ c249=>?_⟩
  ·try simp only [nrm] at c249
   rw [AH] at c249
   have hqe:q=(okF (cA ls ls.length++cE (edA ls) ly hy (edA ls).length)).length:=by omega
   rw [VI hPB (by omega),hqe]
  try simp only [nrm] at c249
  rw [AH] at c249
  have hq:q<(okF (cA ls ls.length++cE (edA ls) ly hy (edA ls).length)).length:=by omega
  refine ao (by first|rfl|omega|(rw [AA];omega)|(rw [AJ,AA,List.length_take];omega)|(rw [AL hkl,AF];omega)|(have:=DV (CJ hpre.2.1 hkl (n:=n));simp only [List.length_cons,List.length_nil];omega)|(simp only [List.length_cons,List.length_nil];omega)|(rw [AH];omega)|(rw [AH];refine Nat.le_trans (Nat.add_le_add_right (Aj _) _) ?_;have hcc:=(hcb n 0).1;simp only [List.length_append,List.length_cons,List.length_nil] at hcc ⊢;omega)|(rw [AH];refine Nat.le_trans (Nat.add_le_add_right (Aj _) _) ?_;have hcc:=(hcb i m).1;simp only [List.length_append,List.length_cons,List.length_nil] at hcc ⊢;omega)) λ o250=>?_
  refine ao (by first|rfl|omega|(rw [AA];omega)|(rw [AJ,AA,List.length_take];omega)|(rw [AL hkl,AF];omega)|(have:=DV (CJ hpre.2.1 hkl (n:=n));simp only [List.length_cons,List.length_nil];omega)|(simp only [List.length_cons,List.length_nil];omega)|(rw [AH];omega)|(rw [AH];refine Nat.le_trans (Nat.add_le_add_right (Aj _) _) ?_;have hcc:=(hcb n 0).1;simp only [List.length_append,List.length_cons,List.length_nil] at hcc ⊢;omega)|(rw [AH];refine Nat.le_trans (Nat.add_le_add_right (Aj _) _) ?_;have hcc:=(hcb i m).1;simp only [List.length_append,List.length_cons,List.length_nil] at hcc ⊢;omega)) λ o251=>?_
  refine ⟨(((okF (cA ls ls.length++cE (edA ls) ly hy (edA ls).length)).getD q Fr.none),Fr.ofInt lx),by
   rw [Cp hq];rfl,by
   first|trivial|exact ⟨by omega,by omega⟩|exact ⟨hPB,hpre.1⟩,?_⟩
  refine And.symm ⟨λ c255=>?_,λ c255=>?_⟩
  ·try simp only [nrm] at c255
   have hI:inP (Fr.ofInt lx) (Fr.ofInt hx) ((okF (cA ls ls.length++cE (edA ls) ly hy (edA ls).length)).getD q Fr.none)=false:=by unfold inP;rw [decide_eq_false (by omega)];rfl
   refine ⟨q+1,by
    first|trivial|omega|(simp;omega),by
    first|omega|(simp;omega),?_⟩
   refine ⟨rfl,?_,rfl,rfl,rfl,rfl,rfl,rfl,rfl,?_⟩
   ·first|rfl|exact AU (AB (by omega) (by omega))
   rw [Oy hq hI]
  try simp only [nrm] at c255
  refine ⟨(((okF (cA ls ls.length++cE (edA ls) ly hy (edA ls).length)).getD q Fr.none),Fr.ofInt hx),by
   rw [Cp hq];rfl,by
   first|trivial|exact ⟨by omega,by omega⟩|exact ⟨hPB,hpre.1⟩,?_⟩
  refine And.symm ⟨λ c259=>?_,λ c259=>?_⟩
  ·try simp only [nrm] at c259
   have hI:inP (Fr.ofInt lx) (Fr.ofInt hx) ((okF (cA ls ls.length++cE (edA ls) ly hy (edA ls).length)).getD q Fr.none)=false:=by unfold inP;rw [decide_eq_false (show ¬ Fr.cmp ((okF (cA ls ls.length++cE (edA ls) ly hy (edA ls).length)).getD q Fr.none) (Fr.ofInt hx)<0 by omega)];simp
   refine ⟨q+1,by
    first|trivial|omega|(simp;omega),by
    first|omega|(simp;omega),?_⟩
   refine ⟨rfl,?_,rfl,rfl,rfl,rfl,rfl,rfl,rfl,?_⟩
   ·first|rfl|exact AU (AB (by omega) (by omega))
   rw [Oy hq hI]
  try simp only [nrm] at c259
  have hI:inP (Fr.ofInt lx) (Fr.ofInt hx) ((okF (cA ls ls.length++cE (edA ls) ly hy (edA ls).length)).getD q Fr.none)=true:=by unfold inP;rw [decide_eq_true (by omega),decide_eq_true c259];rfl
  refine ⟨(Cz (Fr.ofInt lx) (Fr.ofInt hx) (okF (cA ls ls.length++cE (edA ls) ly hy (edA ls).length)) q,((okF (cA ls ls.length++cE (edA ls) ly hy (edA ls).length)).getD q Fr.none)),by
   rw [Cp hq];rfl,by
   show (Cz (Fr.ofInt lx) (Fr.ofInt hx) (okF (cA ls ls.length++cE (edA ls) ly hy (edA ls).length)) q).length<=2000000000000
   have:=SQ (Fr.ofInt lx) (Fr.ofInt hx) (okF (cA ls ls.length++cE (edA ls) ly hy (edA ls).length)) q;omega,?_⟩
  refine ⟨q+1,by
   first|trivial|omega|(simp;omega),by
   first|omega|(simp;omega),?_⟩
  refine ⟨rfl,?_,rfl,rfl,rfl,rfl,rfl,rfl,rfl,?_⟩
  ·first|rfl|exact AU (AB (by omega) (by omega))
  show AG (Cy (Cz (Fr.ofInt lx) (Fr.ofInt hx) (okF (cA ls ls.length++cE (edA ls) ly hy (edA ls).length)) q) ((okF (cA ls ls.length++cE (edA ls) ly hy (edA ls).length)).getD q Fr.none))=(AG (Cz (Fr.ofInt lx) (Fr.ofInt hx) (okF (cA ls ls.length++cE (edA ls) ly hy (edA ls).length)) (q+1)))
  rw [SP hq hI]
 try simp only [nrm] at c79
 rw [AA] at c79
 have hil:i<(edA ls).length:=by omega
 have hei:=NP hPB hil
 have hcb:=λ n m=>Vl har (ly:=ly) (hy:=hy) (Nat.le_of_lt hil) n m
 refine ao (by first|rfl|omega|(rw [AA];omega)|(rw [AJ,AA,List.length_take];omega)|(rw [AL hkl,AF];omega)|(have:=DV (CJ hpre.2.1 hkl (n:=n));simp only [List.length_cons,List.length_nil];omega)|(simp only [List.length_cons,List.length_nil];omega)|(rw [AH];omega)|(rw [AH];refine Nat.le_trans (Nat.add_le_add_right (Aj _) _) ?_;have hcc:=(hcb n 0).1;simp only [List.length_append,List.length_cons,List.length_nil] at hcc ⊢;omega)|(rw [AH];refine Nat.le_trans (Nat.add_le_add_right (Aj _) _) ?_;have hcc:=(hcb i m).1;simp only [List.length_append,List.length_cons,List.length_nil] at hcc ⊢;omega)) λ o80=>?_
 refine ao (by first|rfl|omega|(rw [AA];omega)|(rw [AJ,AA,List.length_take];omega)|(rw [AL hkl,AF];omega)|(have:=DV (CJ hpre.2.1 hkl (n:=n));simp only [List.length_cons,List.length_nil];omega)|(simp only [List.length_cons,List.length_nil];omega)|(rw [AH];omega)|(rw [AH];refine Nat.le_trans (Nat.add_le_add_right (Aj _) _) ?_;have hcc:=(hcb n 0).1;simp only [List.length_append,List.length_cons,List.length_nil] at hcc ⊢;omega)|(rw [AH];refine Nat.le_trans (Nat.add_le_add_right (Aj _) _) ?_;have hcc:=(hcb i m).1;simp only [List.length_append,List.length_cons,List.length_nil] at hcc ⊢;omega)) λ o81=>?_
 refine ao (by first|rfl|omega|(rw [AA];omega)|(rw [AJ,AA,List.length_take];omega)|(rw [AL hkl,AF];omega)|(have:=DV (CJ hpre.2.1 hkl (n:=n));simp only [List.length_cons,List.length_nil];omega)|(simp only [List.length_cons,List.length_nil];omega)|(rw [AH];omega)|(rw [AH];refine Nat.le_trans (Nat.add_le_add_right (Aj _) _) ?_;have hcc:=(hcb n 0).1;simp only [List.length_append,List.length_cons,List.length_nil] at hcc ⊢;omega)|(rw [AH];refine Nat.le_trans (Nat.add_le_add_right (Aj _) _) ?_;have hcc:=(hcb i m).1;simp only [List.length_append,List.length_cons,List.length_nil] at hcc ⊢;omega)) λ o82=>?_
 refine ao (by first|rfl|omega|(rw [AA];omega)|(rw [AJ,AA,List.length_take];omega)|(rw [AL hkl,AF];omega)|(have:=DV (CJ hpre.2.1 hkl (n:=n));simp only [List.length_cons,List.length_nil];omega)|(simp only [List.length_cons,List.length_nil];omega)|(rw [AH];omega)|(rw [AH];refine Nat.le_trans (Nat.add_le_add_right (Aj _) _) ?_;have hcc:=(hcb n 0).1;simp only [List.length_append,List.length_cons,List.length_nil] at hcc ⊢;omega)|(rw [AH];refine Nat.le_trans (Nat.add_le_add_right (Aj _) _) ?_;have hcc:=(hcb i m).1;simp only [List.length_append,List.length_cons,List.length_nil] at hcc ⊢;omega)) λ o83=>?_
 refine ao (by first|rfl|omega|(rw [AA];omega)|(rw [AJ,AA,List.length_take];omega)|(rw [AL hkl,AF];omega)|(have:=DV (CJ hpre.2.1 hkl (n:=n));simp only [List.length_cons,List.length_nil];omega)|(simp only [List.length_cons,List.length_nil];omega)|(rw [AH];omega)|(rw [AH];refine Nat.le_trans (Nat.add_le_add_right (Aj _) _) ?_;have hcc:=(hcb n 0).1;simp only [List.length_append,List.length_cons,List.length_nil] at hcc ⊢;omega)|(rw [AH];refine Nat.le_trans (Nat.add_le_add_right (Aj _) _) ?_;have hcc:=(hcb i m).1;simp only [List.length_append,List.length_cons,List.length_nil] at hcc ⊢;omega)) λ o84=>?_
 refine ao (by first|rfl|omega|(rw [AA];omega)|(rw [AJ,AA,List.length_take];omega)|(rw [AL hkl,AF];omega)|(have:=DV (CJ hpre.2.1 hkl (n:=n));simp only [List.length_cons,List.length_nil];omega)|(simp only [List.length_cons,List.length_nil];omega)|(rw [AH];omega)|(rw [AH];refine Nat.le_trans (Nat.add_le_add_right (Aj _) _) ?_;have hcc:=(hcb n 0).1;simp only [List.length_append,List.length_cons,List.length_nil] at hcc ⊢;omega)|(rw [AH];refine Nat.le_trans (Nat.add_le_add_right (Aj _) _) ?_;have hcc:=(hcb i m).1;simp only [List.length_append,List.length_cons,List.length_nil] at hcc ⊢;omega)) λ o85=>?_
 refine ⟨⟨0,by
  first|trivial|omega|(simp;omega),?_⟩,?_⟩
 ·refine ⟨rfl,?_,rfl,rfl,rfl,rfl,rfl,rfl,?_,?_,?_,?_,?_,rfl,rfl,rfl,?_⟩
  ·first|rfl|(simp;done)
  ·first|rfl|(simp;done)
  ·first|rfl|(simp;done)
  ·first|rfl|(simp;done)
  ·first|rfl|(simp;done)
  ·first|rfl|(simp;done)
  unfold cC;simp
 intro (n:Nat) hki86
 have hki86:n<=i:=hki86
 refine ⟨λ c105=>?_,λ c105=>?_⟩
 ·try simp only [nrm] at c105
  rw [AJ,AA,List.length_take] at c105
  have hn:n<i:=by omega
  have hnt:n<((edA ls).take i).length:=by rw [List.length_take];omega
  have hen:(((edA ls).take i).getD n noE).ok=true:=by rw [Q3 hn];exact NP hPB (by omega)
  refine ao (by first|rfl|omega|(rw [AA];omega)|(rw [AJ,AA,List.length_take];omega)|(rw [AL hkl,AF];omega)|(have:=DV (CJ hpre.2.1 hkl (n:=n));simp only [List.length_cons,List.length_nil];omega)|(simp only [List.length_cons,List.length_nil];omega)|(rw [AH];omega)|(rw [AH];refine Nat.le_trans (Nat.add_le_add_right (Aj _) _) ?_;have hcc:=(hcb n 0).1;simp only [List.length_append,List.length_cons,List.length_nil] at hcc ⊢;omega)|(rw [AH];refine Nat.le_trans (Nat.add_le_add_right (Aj _) _) ?_;have hcc:=(hcb i m).1;simp only [List.length_append,List.length_cons,List.length_nil] at hcc ⊢;omega)) λ o106=>?_
  refine ao (by first|rfl|omega|(rw [AA];omega)|(rw [AJ,AA,List.length_take];omega)|(rw [AL hkl,AF];omega)|(have:=DV (CJ hpre.2.1 hkl (n:=n));simp only [List.length_cons,List.length_nil];omega)|(simp only [List.length_cons,List.length_nil];omega)|(rw [AH];omega)|(rw [AH];refine Nat.le_trans (Nat.add_le_add_right (Aj _) _) ?_;have hcc:=(hcb n 0).1;simp only [List.length_append,List.length_cons,List.length_nil] at hcc ⊢;omega)|(rw [AH];refine Nat.le_trans (Nat.add_le_add_right (Aj _) _) ?_;have hcc:=(hcb i m).1;simp only [List.length_append,List.length_cons,List.length_nil] at hcc ⊢;omega)) λ o107=>?_
  refine ⟨(((edA ls).getD i noE),(((edA ls).take i).getD n noE)),by
   rw [Cx hil,AJ,Cx hnt];rfl,by
   show ((edA ls).getD i noE).ok=true/\(((edA ls).take i).getD n noE).ok=true
   exact ⟨hei,hen⟩,?_⟩
  refine And.symm ⟨λ c111=>?_,λ c111=>?_⟩
  ·try simp only [nrm] at c111
   refine ⟨n+1,by
    first|trivial|omega|(simp;omega),by
    first|omega|(simp;omega),?_⟩
   refine ⟨rfl,?_,rfl,rfl,rfl,rfl,rfl,rfl,rfl,rfl,rfl,rfl,rfl,rfl,rfl,rfl,?_⟩
   ·first|rfl|exact AU (AB (by omega) (by omega))
   exact Vk (HL hn (Nat.le_of_lt hil) _ _) c111
  try simp only [nrm] at c111
  refine ao (a:=(AG (okF (cA ls ls.length++(cE (edA ls) ly hy i++cC (edA ls) i n)))).length+([[Dat.bool (decide ((Cb ((edA ls).getD i noE) (((edA ls).take i).getD n noE)).z<0)),Dat.sl (L (Cb ((edA ls).getD i noE) (((edA ls).take i).getD n noE)).z.natAbs),Dat.sl (L (Cb ((edA ls).getD i noE) (((edA ls).take i).getD n noE)).d)]]:List (List Dat)).length<=2199023255552) (by first|rfl|omega|(rw [AA];omega)|(rw [AJ,AA,List.length_take];omega)|(rw [AL hkl,AF];omega)|(have:=DV (CJ hpre.2.1 hkl (n:=n));simp only [List.length_cons,List.length_nil];omega)|(simp only [List.length_cons,List.length_nil];omega)|(rw [AH];omega)|(rw [AH];refine Nat.le_trans (Nat.add_le_add_right (Aj _) _) ?_;have hcc:=(hcb n 0).1;simp only [List.length_append,List.length_cons,List.length_nil] at hcc ⊢;omega)|(rw [AH];refine Nat.le_trans (Nat.add_le_add_right (Aj _) _) ?_;have hcc:=(hcb i m).1;simp only [List.length_append,List.length_cons,List.length_nil] at hcc ⊢;omega)) λ o112=>?_
  refine ⟨n+1,by
   first|trivial|omega|(simp;omega),by
   first|omega|(simp;omega),?_⟩
  refine ⟨rfl,?_,rfl,rfl,rfl,rfl,rfl,rfl,rfl,rfl,rfl,rfl,rfl,rfl,rfl,rfl,?_⟩
  ·first|rfl|exact AU (AB (by omega) (by omega))
  show ((AG (okF (cA ls ls.length++(cE (edA ls) ly hy i++cC (edA ls) i n))))++([[Dat.bool (decide ((Cb ((edA ls).getD i noE) (((edA ls).take i).getD n noE)).z<0)),Dat.sl (L (Cb ((edA ls).getD i noE) (((edA ls).take i).getD n noE)).z.natAbs),Dat.sl (L (Cb ((edA ls).getD i noE) (((edA ls).take i).getD n noE)).d)]]:List (List Dat)))=(AG (okF (cA ls ls.length++(cE (edA ls) ly hy i++cC (edA ls) i (n+1)))))
  exact P6 (HL hn (Nat.le_of_lt hil) _ _) c111
 try simp only [nrm] at c105
 rw [AJ,AA,List.length_take] at c105
 have hne:n=i:=by omega
 refine ⟨⟨0,by
  first|trivial|omega|(simp;omega),?_⟩,?_⟩
 ·refine ⟨rfl,rfl,?_,rfl,rfl,rfl,rfl,rfl,rfl,rfl,rfl,rfl,rfl,rfl,rfl,rfl,?_⟩
  ·first|rfl|(simp;done)
  rw [VP,hne]
 intro (m:Nat) hki153
 have hki153:m<=2:=hki153
 refine And.symm ⟨λ c172=>?_,λ c172=>?_⟩
 ·try simp only [nrm] at c172
  have hm2:m=2:=by simp only [List.length_cons,List.length_nil] at c172;omega
  refine ⟨i+1,by
   first|trivial|omega|(simp;omega),by
   first|omega|(simp;omega),?_⟩
  refine ⟨?_,rfl,rfl,rfl,rfl,rfl,rfl,?_⟩
  ·first|rfl|exact AU (AB (by omega) (by omega))
  rw [VO hm2]
 try simp only [nrm] at c172
 have hm2:m<2:=by simp only [List.length_cons,List.length_nil] at c172;omega
 refine ao (by first|rfl|omega|(rw [AA];omega)|(rw [AJ,AA,List.length_take];omega)|(rw [AL hkl,AF];omega)|(have:=DV (CJ hpre.2.1 hkl (n:=n));simp only [List.length_cons,List.length_nil];omega)|(simp only [List.length_cons,List.length_nil];omega)|(rw [AH];omega)|(rw [AH];refine Nat.le_trans (Nat.add_le_add_right (Aj _) _) ?_;have hcc:=(hcb n 0).1;simp only [List.length_append,List.length_cons,List.length_nil] at hcc ⊢;omega)|(rw [AH];refine Nat.le_trans (Nat.add_le_add_right (Aj _) _) ?_;have hcc:=(hcb i m).1;simp only [List.length_append,List.length_cons,List.length_nil] at hcc ⊢;omega)) λ o173=>?_
 refine ao (by first|rfl|omega|(rw [AA];omega)|(rw [AJ,AA,List.length_take];omega)|(rw [AL hkl,AF];omega)|(have:=DV (CJ hpre.2.1 hkl (n:=n));simp only [List.length_cons,List.length_nil];omega)|(simp only [List.length_cons,List.length_nil];omega)|(rw [AH];omega)|(rw [AH];refine Nat.le_trans (Nat.add_le_add_right (Aj _) _) ?_;have hcc:=(hcb n 0).1;simp only [List.length_append,List.length_cons,List.length_nil] at hcc ⊢;omega)|(rw [AH];refine Nat.le_trans (Nat.add_le_add_right (Aj _) _) ?_;have hcc:=(hcb i m).1;simp only [List.length_append,List.length_cons,List.length_nil] at hcc ⊢;omega)) λ o174=>?_
 refine ⟨(((edA ls).getD i noE),(([[Dat.int ly],[Dat.int hy]].getD m []).getD 0 (.int 0)).n),by
  rw [Cx hil];rfl,by
  try dsimp only [Gd]
  exact ⟨hei,XI hpre.2.2.2.1 hpre.2.2.2.2.2 hm2⟩,?_⟩
 refine And.symm ⟨λ c178=>?_,λ c178=>?_⟩
 ·try simp only [nrm] at c178
  refine ⟨m+1,by
   first|trivial|omega|(simp;omega),by
   first|omega|(simp;omega),?_⟩
  refine ⟨rfl,rfl,?_,rfl,rfl,rfl,rfl,rfl,rfl,rfl,rfl,rfl,rfl,rfl,rfl,rfl,?_⟩
  ·first|rfl|exact AU (AB (by omega) (by omega))
  exact Vk (Q9 hm2 _ _ _) c178
 try simp only [nrm] at c178
 refine ao (a:=(AG (okF (cA ls ls.length++(cE (edA ls) ly hy i++(cC (edA ls) i i++cM ((edA ls).getD i noE) ly hy m))))).length+([[Dat.bool (decide ((As ((edA ls).getD i noE) ((([[Dat.int ly],[Dat.int hy]].getD m []).getD 0 (.int 0)).n)).z<0)),Dat.sl (L (As ((edA ls).getD i noE) ((([[Dat.int ly],[Dat.int hy]].getD m []).getD 0 (.int 0)).n)).z.natAbs),Dat.sl (L (As ((edA ls).getD i noE) ((([[Dat.int ly],[Dat.int hy]].getD m []).getD 0 (.int 0)).n)).d)]]:List (List Dat)).length<=2199023255552) (by first|rfl|omega|(rw [AA];omega)|(rw [AJ,AA,List.length_take];omega)|(rw [AL hkl,AF];omega)|(have:=DV (CJ hpre.2.1 hkl (n:=n));simp only [List.length_cons,List.length_nil];omega)|(simp only [List.length_cons,List.length_nil];omega)|(rw [AH];omega)|(rw [AH];refine Nat.le_trans (Nat.add_le_add_right (Aj _) _) ?_;have hcc:=(hcb n 0).1;simp only [List.length_append,List.length_cons,List.length_nil] at hcc ⊢;omega)|(rw [AH];refine Nat.le_trans (Nat.add_le_add_right (Aj _) _) ?_;have hcc:=(hcb i m).1;simp only [List.length_append,List.length_cons,List.length_nil] at hcc ⊢;omega)) λ o179=>?_
 refine ⟨m+1,by
  first|trivial|omega|(simp;omega),by
  first|omega|(simp;omega),?_⟩
 refine ⟨rfl,rfl,?_,rfl,rfl,rfl,rfl,rfl,rfl,rfl,rfl,rfl,rfl,rfl,rfl,rfl,?_⟩
 ·first|rfl|exact AU (AB (by omega) (by omega))
 show ((AG (okF (cA ls ls.length++(cE (edA ls) ly hy i++(cC (edA ls) i i++cM ((edA ls).getD i noE) ly hy m)))))++([[Dat.bool (decide ((As ((edA ls).getD i noE) ((([[Dat.int ly],[Dat.int hy]].getD m []).getD 0 (.int 0)).n)).z<0)),Dat.sl (L (As ((edA ls).getD i noE) ((([[Dat.int ly],[Dat.int hy]].getD m []).getD 0 (.int 0)).n)).z.natAbs),Dat.sl (L (As ((edA ls).getD i noE) ((([[Dat.int ly],[Dat.int hy]].getD m []).getD 0 (.int 0)).n)).d)]]:List (List Dat)))=(AG (okF (cA ls ls.length++(cE (edA ls) ly hy i++(cC (edA ls) i i++cM ((edA ls).getD i noE) ly hy (m+1))))))
 exact P6 (Q9 hm2 _ _ _) c178
theorem HN {l:List Fr} {k:Nat} (h:k<l.length):AG (l.take k)++[frD (l.getD k Fr.none)]=AG (l.take (k+1)):=by
 rw [List.take_add_one,List.getElem?_eq_getElem h,IZ]
 simp [AG,List.getD,h]
def Et:Con:={ ι:=(List Fr),pre:=λ i=>i.length<=2000000000000,args:=λ i=>[.one (DC.sl 90 z84 (AG i))],res:=λ i=>⟨false,[none],[.own 90 [.bool,.sl 3 [.int],.sl 3 [.int]] (AG i)]⟩ }
theorem QB:Et.Ok Tryz.prog 97:=by
 refine fok (X:=⟨tt,[(151,Fo)],[],20,[]⟩) mixed AN (CTok.cons Rz (CTok.nil _)) Tryz.func97 (λ (i:(List Fr))=>[(3,.mk 3 (Nat) (λ x1=>{ tm:=[(7,tX 1),(8,tI (nI ((AG i).length))),(9,tI (nI x1)),(3,tX 2)],en:=[(1,.view 90 z84 (AG i) []),(2,.own 90 z84 (AG (i.take x1)))] }) (λ x1=>x1<=i.length) (λ x1=>i.length-x1) (λ _=>[]))]) ?_
 intro (l:List Fr) hpre
 have hpre:l.length<=2000000000000:=hpre
 refine AP (q:=let Z4:=List Dat;let Z1:=nI ((AG l).length);(∃ x1:Nat,(x1<=l.length)/\((rf (vI Z1))/\(vI (0:Int)=vI (nI x1))/\(rf (AG l))/\(([]:List Z4)=(AG (l.take x1)))))/\∀ x1:Nat,let Z3:=AG (l.take x1);let Z2:=(AG l).getD x1 [];(x1<=l.length)->(ifB ((decide ((nI x1)<Z1))) ((0<=(nI x1)/\(nI x1)<((AG l).length:Int))/\((x1<(AG l).length)/\(∃ i1:Bool×(List Z4)×(List Z4),[DA.agg [cB (((Z2.getD 0 (.int 0))).b),cS (((Z2.getD 1 (.int 0))).r),cS (((Z2.getD 2 (.int 0))).r)]]=Fo.args i1/\Fo.pre i1/\((Z3.length+([[Dat.bool i1.1,Dat.sl i1.2.1,Dat.sl i1.2.2]]:List Z4).length<=2199023255552)/\(∃ y2:Nat,(y2<=l.length)/\(l.length-y2<l.length-x1)/\((rf (vI Z1))/\(vI (wR ((nI x1)+(1:Int)))=vI (nI y2))/\(rf (AG l))/\((Z3++([[Dat.bool i1.1,Dat.sl i1.2.1,Dat.sl i1.2.2]]:List Z4))=(AG (l.take y2))))))))) ((Z3=AG l)))) (by kernel_rfl) ?_
 conv=>zeta
 delta ifB vI wR nI
 have hfl:=AH l
 refine ⟨⟨0,by
  first|trivial|omega|(simp;omega),?_⟩,?_⟩
 ·refine ⟨rfl,?_,rfl,?_⟩
  ·first|rfl|(simp;done)
  first|rfl|(simp;done)
 intro (k:Nat) hki1
 have hki1:k<=l.length:=hki1
 refine And.symm ⟨λ c7=>?_,λ c7=>?_⟩
 ·try simp only [nrm] at c7
  rw [List.take_of_length_le (by omega)]
 try simp only [nrm] at c7
 have hk:k<l.length:=by omega
 have h1:=(l.getD k Fr.none).nlz
 have h2:=(l.getD k Fr.none).nld
 have htl:=AH (l.take k)
 have htk:=List.length_take (i:=k) (l:=l)
 refine ao (by first|rfl|omega|(simp only [List.length_cons,List.length_nil];omega)) λ o8=>?_
 refine ao (by first|rfl|omega|(simp only [List.length_cons,List.length_nil];omega)) λ o9=>?_
 refine ⟨(decide ((l.getD k Fr.none).z<0),L (l.getD k Fr.none).z.natAbs,L (l.getD k Fr.none).d),by
  rw [Cp hk];rfl,by
  show (L (l.getD k Fr.none).z.natAbs).length<=1073741824/\(L (l.getD k Fr.none).d).length<=1073741824
  exact ⟨by rw [AK];omega,by rw [AK];omega⟩,?_⟩
 refine ao (a:=(AG (l.take k)).length+([[Dat.bool (decide ((l.getD k Fr.none).z<0)),Dat.sl (L (l.getD k Fr.none).z.natAbs),Dat.sl (L (l.getD k Fr.none).d)]]:List (List Dat)).length<=2199023255552) (by first|rfl|omega|(simp only [List.length_cons,List.length_nil];omega)) λ o13=>?_
 refine ⟨k+1,by
  first|trivial|omega|(simp;omega),by
  first|omega|(simp;omega),?_⟩
 refine ⟨rfl,?_,rfl,?_⟩
 ·first|rfl|(rw [Cp hk];exact HN hk)|exact HN hk|exact AU (AB (by omega) (by omega))
 show ((AG (l.take k))++([[Dat.bool (decide ((l.getD k Fr.none).z<0)),Dat.sl (L (l.getD k Fr.none).z.natAbs),Dat.sl (L (l.getD k Fr.none).d)]]:List (List Dat)))=(AG (l.take (k+1)))
 first|rfl|(rw [Cp hk];exact HN hk)|exact HN hk|exact AU (AB (by omega) (by omega))
def Bh:Con:={ ι:=Int×Int×Int×Int×(List (List V2)),pre:=λ i=>i.2.2.2.2.length<=1048576/\E6 i.2.2.2.2 i.2.2.2.2.length<=1048576/\(-9223372036854775808<=i.1/\i.1<=9223372036854775807)/\(-9223372036854775808<=i.2.1/\i.2.1<=9223372036854775807)/\(-9223372036854775808<=i.2.2.1/\i.2.2.1<=9223372036854775807)/\(-9223372036854775808<=i.2.2.2.1/\i.2.2.2.1<=9223372036854775807),args:=λ i=>[DA.agg [cI i.1,cI i.2.1,cI i.2.2.1,cI i.2.2.2.1],.one (DC.sl 40 [.sl 39 [.int,.int]] (AW i.2.2.2.2))],res:=λ i=>⟨false,[none],[.own 90 [.bool,.sl 3 [.int],.sl 3 [.int]] (AG (evR i.1 i.2.1 i.2.2.1 i.2.2.2.1 i.2.2.2.2))]⟩ }
theorem NY:Bh.Ok Tryz.prog 30:=by
 refine fok (X:=⟨tt,[(96,Cd),(98,Dy),(97,Et)],[],21,[]⟩) mixed AN (CTok.cons LN (CTok.cons QA (CTok.cons QB (CTok.nil _)))) Tryz.func30 (λ _=>[]) ?_
 rintro ⟨lx,ly,hx,hy,ls⟩ hpre
 have hpre:ls.length<=1048576/\E6 ls ls.length<=1048576/\(-9223372036854775808<=lx/\lx<=9223372036854775807)/\(-9223372036854775808<=ly/\ly<=9223372036854775807)/\(-9223372036854775808<=hx/\hx<=9223372036854775807)/\(-9223372036854775808<=hy/\hy<=9223372036854775807):=hpre
 refine AP (q:=let Z2:=DC.sl 40 [.sl 39 [.int,.int]] (AW ls);let Z1:=(([]:List (List Dat))=AG (evR lx ly hx hy ls));∃ i1:(List (List V2)),[DA.one Z2]=Cd.args i1/\Cd.pre i1/\(ifB ((!(!(BZ i1)))) (ifB ((decide (lx≥hx))) Z1 (∃ i2:Int×Int×Int×Int×(List (List V2)),[DA.agg [cI lx,cI ly,cI hx,cI hy],DA.one Z2]=Dy.args i2/\Dy.pre i2/\(∃ i3:(List Fr),[DA.one (DC.sl 90 z84 (AG (CA [] (evF (Fr.ofInt i2.1) (Fr.ofInt i2.2.2.1) (cA i2.2.2.2.2 i2.2.2.2.2.length++cE (edA i2.2.2.2.2) i2.2.1 i2.2.2.2.1 (edA i2.2.2.2.2).length)++[Fr.ofInt i2.1,Fr.ofInt i2.2.2.1]))))]=Et.args i3/\Et.pre i3/\((AG i3=AG (evR lx ly hx hy ls)))))) Z1)) (by kernel_rfl) ?_
 conv=>zeta
 delta ifB
 have hal:=BG ls
 refine ⟨ls,by
  rfl,by
  show ls.length<=9223372036854775807
  first|exact hpre.1|omega,?_⟩
 refine And.symm ⟨λ c4=>?_,λ c4=>?_⟩
 ·try simp only [nrm] at c4
  have hE:evR lx ly hx hy ls=[]:=NV (λ h=>by rw [h.1] at c4;cases c4)
  rw [hE];rfl
 try simp only [nrm] at c4
 refine ⟨λ c5=>?_,λ c5=>?_⟩
 ·try simp only [nrm] at c5
  have hE:evR lx ly hx hy ls=[]:=NV (λ h=>absurd h.2 (by omega))
  rw [hE];rfl
 try simp only [nrm] at c5
 have har:NR ls:=⟨c4,hpre.1,hpre.2.1⟩
 have hab:=(NS har (lo:=Fr.ofInt lx) (hi:=Fr.ofInt hx) (ly:=ly) (hy:=hy) (Nat.le_refl _) 0).2
 rw [AH] at hab
 have hpl:=JD (evF (Fr.ofInt lx) (Fr.ofInt hx) (cA ls ls.length++cE (edA ls) ly hy (edA ls).length)++[Fr.ofInt lx,Fr.ofInt hx]) []
 rw [List.length_append] at hpl
 simp only [List.length_cons,List.length_nil] at hpl
 refine ⟨(lx,ly,hx,hy,ls),by
  rfl,by
  try dsimp only [Dy]
  exact ⟨har,hpre.2.2⟩,?_⟩
 refine ⟨(CA [] (evF (Fr.ofInt lx) (Fr.ofInt hx) (cA ls ls.length++cE (edA ls) ly hy (edA ls).length)++[Fr.ofInt lx,Fr.ofInt hx])),by
  rfl,by
  show (CA [] (evF (Fr.ofInt lx) (Fr.ofInt hx) (cA ls ls.length++cE (edA ls) ly hy (edA ls).length)++[Fr.ofInt lx,Fr.ofInt hx])).length<=2000000000000
  first|exact hpre.1|omega,?_⟩
 rw [VJ c4 c5 hpre.2.2.1 hpre.2.2.2.2.1]
end Go.Proofs.YtmedodfenejimaaGreat
