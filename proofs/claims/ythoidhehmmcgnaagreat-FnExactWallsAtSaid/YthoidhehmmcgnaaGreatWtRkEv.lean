import Derived.Test.YthoidhehmmcgnaaGreatWtRkEs
namespace Go.Proofs.YthoidhehmmcgnaaGreat
set_option maxRecDepth 100000
set_option linter.unusedVariables false
set_option linter.unusedSimpArgs false
open Go.RowKit
def EN:Con:={ι:=Int×Int×Int×Int×(List (List V2)),pre:=λi=>Pj i.2.2.2.2/\(-9223372036854775808<=i.1/\i.1<=9223372036854775807)/\(-9223372036854775808<=i.2.1/\i.2.1<=9223372036854775807)/\(-9223372036854775808<=i.2.2.1/\i.2.2.1<=9223372036854775807)/\(-9223372036854775808<=i.2.2.2.1/\i.2.2.2.1<=9223372036854775807),args:=λi=>[DA.agg [cI i.1,cI i.2.1,cI i.2.2.1,cI i.2.2.2.1],.one (DC.sl 66 [.sl 36 [.int,.int]] (AN i.2.2.2.2))],res:=λi=>⟨false,[none],[.view 44 [.bool,.sl 3 [.int],.sl 3 [.int]] (AC (CM [] (evF (Fr.ofInt i.1) (Fr.ofInt i.2.2.1) (cA i.2.2.2.2 i.2.2.2.2.length++cE (edA i.2.2.2.2) i.2.1 i.2.2.2.1 (edA i.2.2.2.2).length)++[Fr.ofInt i.1,Fr.ofInt i.2.2.1])))]⟩}
set_option maxHeartbeats 1600000 in
theorem TW:EN.Ok Tryz.prog 64:=by
 refine fok (X:=⟨tt,[(82,AT),(81,AI),(105,Eb),(106,Jh),(107,CX),(108,Cu)],[],97,[(104,⟨Tryz.f104.body.getD .skip,Tryz.f104.ntmps,Tryz.f104.results.toList⟩)]⟩) mixed AG (CTok.cons Ek (CTok.cons D0 (CTok.cons RS (CTok.cons ZR (CTok.cons ZT (CTok.cons Ni (CTok.nil _))))))) (hil:=(InlOk.cons Tryz.func104 (by decide) rfl rfl rfl (InlOk.nil _))) Tryz.func64 (λ(i:Int×Int×Int×Int×(List (List V2)))=>let Z5:=edA i.2.2.2.2;let Z4:=AN i.2.2.2.2;let Z3:=Fr.ofInt i.1;let a0:=L Z3.z.natAbs;let Z7:=decide (Z3.z<0);let Z2:=Af Z5;let Z1:=Fr.ofInt i.2.2.1;let a1:=L Z1.z.natAbs;let Z8:=decide (Z1.z<0);[(15,.mk 11 (Nat) (λx8=>{tm:=[(2,tP 1 0),(5,tP 2 0),(6,tP 5 0),(7,tP 8 0),(8,.one (.one (.clo 104 [2,5,8]))),(49,tX 10),(51,tI (nI x8)),(13,tX 10),(50,tI (nI (Z2.length)))],en:=[(1,.box [kI i.1,kI i.2.1,kI i.2.2.1,kI i.2.2.2.1]),(2,.box [kB Z7,.ext 3,.ext 4]),(5,.box [kB Z8,.ext 6,.ext 7]),(8,.box [.ext 9]),(3,.own 3 [.int] a0),(4,.own 3 [.int] (L Z3.d)),(6,.own 3 [.int] a1),(7,.own 3 [.int] (L Z1.d)),(9,.own 44 z30 (AC (evF Z3 Z1 (cA i.2.2.2.2 i.2.2.2.2.length++cE Z5 i.2.1 i.2.2.2.1 x8)))),(10,.own 87 z86 Z2)]}) (λx8=>x8<=Z5.length) (λx8=>Z5.length-x8) (λx8=>let Z6:=Z2.getD x8 [];[(18,.mk 13 (Nat) (λx9=>{tm:=[(2,tP 1 0),(5,tP 2 0),(6,tP 5 0),(7,tP 8 0),(8,.one (.one (.clo 104 [2,5,8]))),(15,tP 10 0),(49,tX 11),(51,tI (nI x8)),(60,tI (nI x9)),(13,tX 11),(50,tI (nI (Z2.length))),(58,tX 12),(59,tI (nI ((Z2.take x8).length)))],en:=[(1,.box [kI i.1,kI i.2.1,kI i.2.2.1,kI i.2.2.2.1]),(2,.box [kB Z7,.ext 3,.ext 4]),(5,.box [kB Z8,.ext 6,.ext 7]),(8,.box [.ext 9]),(10,.box [kI (((Z6.getD 0 (.int 0))).n),kI (((Z6.getD 1 (.int 0))).n),kI (((Z6.getD 2 (.int 0))).n),kI (((Z6.getD 3 (.int 0))).n),kI (((Z6.getD 4 (.int 0))).n),kB (((Z6.getD 5 (.int 0))).b)]),(3,.own 3 [.int] a0),(4,.own 3 [.int] (L Z3.d)),(6,.own 3 [.int] a1),(7,.own 3 [.int] (L Z1.d)),(9,.own 44 z30 (AC (evF Z3 Z1 (cA i.2.2.2.2 i.2.2.2.2.length++(cE Z5 i.2.1 i.2.2.2.1 x8++cC Z5 x8 x9))))),(11,.own 87 z86 Z2),(12,.view 87 z86 (Z2.take x8) [11])]}) (λx9=>x9<=x8) (λx9=>x8-x9) (λ_=>[]))])),(5,.mk 11 (Nat) (λx1=>{tm:=[(1,tX 1),(2,tP 2 0),(5,tP 3 0),(6,tP 6 0),(7,tP 9 0),(8,.one (.one (.clo 104 [3,6,9]))),(28,tX 1),(29,tI (nI (Z4.length))),(30,tI (nI x1))],en:=[(2,.box [kI i.1,kI i.2.1,kI i.2.2.1,kI i.2.2.2.1]),(3,.box [kB Z7,.ext 4,.ext 5]),(6,.box [kB Z8,.ext 7,.ext 8]),(9,.box [.ext 10]),(1,.view 66 [.sl 36 [.int,.int]] Z4 []),(4,.own 3 [.int] a0),(5,.own 3 [.int] (L Z3.d)),(7,.own 3 [.int] a1),(8,.own 3 [.int] (L Z1.d)),(10,.own 44 z30 (AC (evF Z3 Z1 (cA i.2.2.2.2 x1))))]}) (λx1=>x1<=i.2.2.2.2.length) (λx1=>i.2.2.2.2.length-x1) (λx1=>let a3:=(((Z4.getD x1 []).getD 0 (.int 0))).r;let Z9:=i.2.2.2.2.getD x1 [];[(8,.mk 12 (Nat) (λx2=>{tm:=[(1,tX 1),(2,tP 2 0),(5,tP 3 0),(6,tP 6 0),(7,tP 9 0),(8,.one (.one (.clo 104 [3,6,9]))),(28,tX 1),(29,tI (nI (Z4.length))),(30,tI (nI x1)),(34,tX 11),(35,tI (nI (a3.length))),(36,tI (nI x2))],en:=[(2,.box [kI i.1,kI i.2.1,kI i.2.2.1,kI i.2.2.2.1]),(3,.box [kB Z7,.ext 4,.ext 5]),(6,.box [kB Z8,.ext 7,.ext 8]),(9,.box [.ext 10]),(1,.view 66 [.sl 36 [.int,.int]] Z4 []),(4,.own 3 [.int] a0),(5,.own 3 [.int] (L Z3.d)),(7,.own 3 [.int] a1),(8,.own 3 [.int] (L Z1.d)),(10,.own 44 z30 (AC (evF Z3 Z1 (cA i.2.2.2.2 x1++cV Z9 x2)))),(11,.view 36 [.int,.int] a3 [])]}) (λx2=>x2<=Z9.length) (λx2=>Z9.length-x2) (λ_=>[]))]))]) ?_
 rintro⟨lx,ly,hx,hy,ls⟩ a2;have a2:Pj ls/\(-9223372036854775808<=lx/\lx<=9223372036854775807)/\(-9223372036854775808<=ly/\ly<=9223372036854775807)/\(-9223372036854775808<=hx/\hx<=9223372036854775807)/\(-9223372036854775808<=hy/\hy<=9223372036854775807):=a2
 refine AH (q:=let a8:=AN ls;let a6:=List Dat;let bB:=vI (nI (a8.length));let Z5:=Af (edA ls);let d0:=nI (Z5.length);let a3:=vI d0;let Z4:=Fr.ofInt hx;let bT:=decide (Z4.z<0);let a1:=L Z4.z.natAbs;let Z9:=vB bT;let Z3:=Fr.ofInt lx;let bU:=decide (Z3.z<0);let a0:=L Z3.z.natAbs;let Z8:=vB bU;∃i1:Int,[DA.one (cI lx)]=AT.args i1/\AT.pre i1/\(∃i2:Int,[DA.one (cI hx)]=AT.args i2/\AT.pre i2/\((∃x1:Nat,(x1<=ls.length)/\((rf (104))/\(rf bB)/\(vI (0:Int)=vI (nI x1))/\(rf (vI lx))/\(rf (vI ly))/\(rf (vI hx))/\(rf (vI hy))/\(vB (decide ((Fr.ofInt i1).z<0))=vB bU)/\(vB (decide ((Fr.ofInt i2).z<0))=vB bT)/\(rf a8)/\(L (Fr.ofInt i1).z.natAbs=a0)/\(L (Fr.ofInt i1).d=(L Z3.d))/\(L (Fr.ofInt i2).z.natAbs=a1)/\(L (Fr.ofInt i2).d=(L Z4.d))/\(([]:List a6)=(AC (evF Z3 Z4 (cA ls x1))))))/\∀x1:Nat,let d5:=AC (evF Z3 Z4 (cA ls x1));let bL:=vI (nI x1);let a4:=ls.getD x1 [];let Z7:=(((a8.getD x1 []).getD 0 (.int 0))).r;let bM:=vI (nI (Z7.length));(x1<=ls.length)->(ifB ((decide ((nI x1)<(nI (a8.length))))) ((0<=(nI x1)/\(nI x1)<(a8.length:Int))/\((x1<a8.length)/\((∃x2:Nat,(x2<=a4.length)/\((rf (104))/\(rf bB)/\(rf bL)/\(rf bM)/\(vI (0:Int)=vI (nI x2))/\(rf (vI lx))/\(rf (vI ly))/\(rf (vI hx))/\(rf (vI hy))/\(rf Z8)/\(rf Z9)/\(rf a8)/\(rf a0)/\(rf (L Z3.d))/\(rf a1)/\(rf (L Z4.d))/\(d5=(AC (evF Z3 Z4 (cA ls x1++cV a4 x2))))/\(rf Z7)))/\∀x2:Nat,let bV:=wR ((nI x2)+(1:Int));let bC:=AC (evF Z3 Z4 (cA ls x1++cV a4 x2));(x2<=a4.length)->(ifB ((decide ((nI x2)<(nI (Z7.length))))) ((0<=(nI x2)/\(nI x2)<(Z7.length:Int))/\((x2<Z7.length)/\(∃i3:Int,let b3:=Fr.ofInt i3;[DA.one (cI ((((Z7.getD x2 []).getD 0 (.int 0))).n))]=AT.args i3/\AT.pre i3/\(ifB (true) (∃i4:Fr×Fr,[dF b3,dF Z3]=AI.args i4/\AI.pre i4/\(ifB ((decide ((Fr.cmp i4.1 i4.2)>(0:Int)))) (∃i5:Fr×Fr,[dF b3,dF Z4]=AI.args i5/\AI.pre i5/\(ifB ((decide ((Fr.cmp i5.1 i5.2)<(0:Int)))) ((bC.length+([[Dat.bool (decide (b3.z<0)),Dat.sl (L b3.z.natAbs),Dat.sl (L b3.d)]]:List a6).length<=2199023255552)/\(∃y3:Nat,(y3<=a4.length)/\(a4.length-y3<a4.length-x2)/\((rf (104))/\(rf bB)/\(rf bL)/\(rf bM)/\(vI bV=vI (nI y3))/\(rf (vI lx))/\(rf (vI ly))/\(rf (vI hx))/\(rf (vI hy))/\(rf Z8)/\(rf Z9)/\(rf a8)/\(rf a0)/\(rf (L Z3.d))/\(rf a1)/\(rf (L Z4.d))/\((bC++([[Dat.bool (decide (b3.z<0)),Dat.sl (L b3.z.natAbs),Dat.sl (L b3.d)]]:List a6))=(AC (evF Z3 Z4 (cA ls x1++cV a4 y3))))/\(rf Z7)))) (∃y4:Nat,(y4<=a4.length)/\(a4.length-y4<a4.length-x2)/\((rf (104))/\(rf bB)/\(rf bL)/\(rf bM)/\(vI bV=vI (nI y4))/\(rf (vI lx))/\(rf (vI ly))/\(rf (vI hx))/\(rf (vI hy))/\(rf Z8)/\(rf Z9)/\(rf a8)/\(rf a0)/\(rf (L Z3.d))/\(rf a1)/\(rf (L Z4.d))/\(bC=(AC (evF Z3 Z4 (cA ls x1++cV a4 y4))))/\(rf Z7))))) (∃y5:Nat,(y5<=a4.length)/\(a4.length-y5<a4.length-x2)/\((rf (104))/\(rf bB)/\(rf bL)/\(rf bM)/\(vI bV=vI (nI y5))/\(rf (vI lx))/\(rf (vI ly))/\(rf (vI hx))/\(rf (vI hy))/\(rf Z8)/\(rf Z9)/\(rf a8)/\(rf a0)/\(rf (L Z3.d))/\(rf a1)/\(rf (L Z4.d))/\(bC=(AC (evF Z3 Z4 (cA ls x1++cV a4 y5))))/\(rf Z7))))) (∃y6:Nat,(y6<=a4.length)/\(a4.length-y6<a4.length-x2)/\((rf (104))/\(rf bB)/\(rf bL)/\(rf bM)/\(vI bV=vI (nI y6))/\(rf (vI lx))/\(rf (vI ly))/\(rf (vI hx))/\(rf (vI hy))/\(rf Z8)/\(rf Z9)/\(rf a8)/\(rf a0)/\(rf (L Z3.d))/\(rf a1)/\(rf (L Z4.d))/\(bC=(AC (evF Z3 Z4 (cA ls x1++cV a4 y6))))/\(rf Z7))))))) (∃y7:Nat,(y7<=ls.length)/\(ls.length-y7<ls.length-x1)/\((rf (104))/\(rf bB)/\(vI (wR ((nI x1)+(1:Int)))=vI (nI y7))/\(rf (vI lx))/\(rf (vI ly))/\(rf (vI hx))/\(rf (vI hy))/\(rf Z8)/\(rf Z9)/\(rf a8)/\(rf a0)/\(rf (L Z3.d))/\(rf a1)/\(rf (L Z4.d))/\(bC=(AC (evF Z3 Z4 (cA ls y7)))))))))) (∃i6:(List (List V2)),[DA.one (DC.sl 66 [.sl 36 [.int,.int]] a8)]=Eb.args i6/\Eb.pre i6/\((∃x8:Nat,(x8<=(edA ls).length)/\((rf (104))/\(vI (0:Int)=vI (nI x8))/\(vI (nI ((Af (edA i6)).length))=vI d0)/\(rf (vI lx))/\(rf (vI ly))/\(rf (vI hx))/\(rf (vI hy))/\(rf Z8)/\(rf Z9)/\(rf a0)/\(rf (L Z3.d))/\(rf a1)/\(rf (L Z4.d))/\(d5=(AC (evF Z3 Z4 (cA ls ls.length++cE (edA ls) ly hy x8))))/\(Af (edA i6)=Z5)))/\∀x8:Nat,let bN:=vI (nI x8);let d1:=AC (evF Z3 Z4 (cA ls ls.length++cE (edA ls) ly hy x8));let b1:=Z5.take x8;let bO:=vI (nI (b1.length));let a7:=wR ((nI x8)+(1:Int));let Z2:=Z5.getD x8 [];let a9:=((Z2.getD 5 (.int 0))).b;let aA:=((Z2.getD 4 (.int 0))).n;let aB:=((Z2.getD 3 (.int 0))).n;let aC:=((Z2.getD 2 (.int 0))).n;let aD:=((Z2.getD 1 (.int 0))).n;let aE:=((Z2.getD 0 (.int 0))).n;(x8<=(edA ls).length)->(ifB ((decide ((nI x8)<d0))) ((0<=(nI x8)/\(nI x8)<(Z5.length:Int))/\((x8<Z5.length)/\((Nat.beq 6 6=true)/\((0<=(0:Int))/\(((0:Int)<=(nI x8))/\(((nI x8)<=(Z5.length:Int))/\((∃x9:Nat,(x9<=x8)/\((rf (104))/\(rf bN)/\(vI (0:Int)=vI (nI x9))/\(rf a3)/\(rf bO)/\(rf (vI lx))/\(rf (vI ly))/\(rf (vI hx))/\(rf (vI hy))/\(rf Z8)/\(rf Z9)/\(vI ((Z2.getD 0 (.int 0))).n=vI aE)/\(vI ((Z2.getD 1 (.int 0))).n=vI aD)/\(vI ((Z2.getD 2 (.int 0))).n=vI aC)/\(vI ((Z2.getD 3 (.int 0))).n=vI aB)/\(vI ((Z2.getD 4 (.int 0))).n=vI aA)/\(rf (vB a9))/\(rf a0)/\(rf (L Z3.d))/\(rf a1)/\(rf (L Z4.d))/\(d1=(AC (evF Z3 Z4 (cA ls ls.length++(cE (edA ls) ly hy x8++cC (edA ls) x8 x9)))))/\(rf Z5)/\(rf b1)))/\∀x9:Nat,let bD:=b1.getD x9 [];let bW:=wR ((nI x9)+(1:Int));let Z1:=AC (evF Z3 Z4 (cA ls ls.length++(cE (edA ls) ly hy x8++cC (edA ls) x8 x9)));(x9<=x8)->(ifB ((decide ((nI x9)<(nI (b1.length))))) ((0<=(nI x9)/\(nI x9)<(b1.length:Int))/\((x9<b1.length)/\(∃i7:Edg×Edg,let b4:=FH i7.1 i7.2;[DA.agg [cI aE,cI aD,cI aC,cI aB,cI aA,cB a9],DA.agg [cI (((bD.getD 0 (.int 0))).n),cI (((bD.getD 1 (.int 0))).n),cI (((bD.getD 2 (.int 0))).n),cI (((bD.getD 3 (.int 0))).n),cI (((bD.getD 4 (.int 0))).n),cB (((bD.getD 5 (.int 0))).b)]]=Jh.args i7/\Jh.pre i7/\(ifB ((C4 i7.1 i7.2)) (∃i8:Fr×Fr,[dF b4,dF Z3]=AI.args i8/\AI.pre i8/\(ifB ((decide ((Fr.cmp i8.1 i8.2)>(0:Int)))) (∃i9:Fr×Fr,[dF b4,dF Z4]=AI.args i9/\AI.pre i9/\(ifB ((decide ((Fr.cmp i9.1 i9.2)<(0:Int)))) ((Z1.length+([[Dat.bool (decide (b4.z<0)),Dat.sl (L b4.z.natAbs),Dat.sl (L b4.d)]]:List a6).length<=2199023255552)/\(∃bX:Nat,(bX<=x8)/\(x8-bX<x8-x9)/\((rf (104))/\(rf bN)/\(vI bW=vI (nI bX))/\(rf a3)/\(rf bO)/\(rf (vI lx))/\(rf (vI ly))/\(rf (vI hx))/\(rf (vI hy))/\(rf Z8)/\(rf Z9)/\(rf (vI aE))/\(rf (vI aD))/\(rf (vI aC))/\(rf (vI aB))/\(rf (vI aA))/\(rf (vB a9))/\(rf a0)/\(rf (L Z3.d))/\(rf a1)/\(rf (L Z4.d))/\((Z1++([[Dat.bool (decide (b4.z<0)),Dat.sl (L b4.z.natAbs),Dat.sl (L b4.d)]]:List a6))=(AC (evF Z3 Z4 (cA ls ls.length++(cE (edA ls) ly hy x8++cC (edA ls) x8 bX)))))/\(rf Z5)/\(rf b1)))) (∃bY:Nat,(bY<=x8)/\(x8-bY<x8-x9)/\((rf (104))/\(rf bN)/\(vI bW=vI (nI bY))/\(rf a3)/\(rf bO)/\(rf (vI lx))/\(rf (vI ly))/\(rf (vI hx))/\(rf (vI hy))/\(rf Z8)/\(rf Z9)/\(rf (vI aE))/\(rf (vI aD))/\(rf (vI aC))/\(rf (vI aB))/\(rf (vI aA))/\(rf (vB a9))/\(rf a0)/\(rf (L Z3.d))/\(rf a1)/\(rf (L Z4.d))/\(Z1=(AC (evF Z3 Z4 (cA ls ls.length++(cE (edA ls) ly hy x8++cC (edA ls) x8 bY)))))/\(rf Z5)/\(rf b1))))) (∃bZ:Nat,(bZ<=x8)/\(x8-bZ<x8-x9)/\((rf (104))/\(rf bN)/\(vI bW=vI (nI bZ))/\(rf a3)/\(rf bO)/\(rf (vI lx))/\(rf (vI ly))/\(rf (vI hx))/\(rf (vI hy))/\(rf Z8)/\(rf Z9)/\(rf (vI aE))/\(rf (vI aD))/\(rf (vI aC))/\(rf (vI aB))/\(rf (vI aA))/\(rf (vB a9))/\(rf a0)/\(rf (L Z3.d))/\(rf a1)/\(rf (L Z4.d))/\(Z1=(AC (evF Z3 Z4 (cA ls ls.length++(cE (edA ls) ly hy x8++cC (edA ls) x8 bZ)))))/\(rf Z5)/\(rf b1))))) (∃c0:Nat,(c0<=x8)/\(x8-c0<x8-x9)/\((rf (104))/\(rf bN)/\(vI bW=vI (nI c0))/\(rf a3)/\(rf bO)/\(rf (vI lx))/\(rf (vI ly))/\(rf (vI hx))/\(rf (vI hy))/\(rf Z8)/\(rf Z9)/\(rf (vI aE))/\(rf (vI aD))/\(rf (vI aC))/\(rf (vI aB))/\(rf (vI aA))/\(rf (vB a9))/\(rf a0)/\(rf (L Z3.d))/\(rf a1)/\(rf (L Z4.d))/\(Z1=(AC (evF Z3 Z4 (cA ls ls.length++(cE (edA ls) ly hy x8++cC (edA ls) x8 c0)))))/\(rf Z5)/\(rf b1))))))) (∃bE:Edg×Int,let b5:=CH bE.1 bE.2;let Z6:=Z1++([[Dat.bool (decide (b5.z<0)),Dat.sl (L b5.z.natAbs),Dat.sl (L b5.d)]]:List a6);[DA.agg [cI aE,cI aD,cI aC,cI aB,cI aA,cB a9],DA.one (cI ly)]=CX.args bE/\CX.pre bE/\(ifB ((Bh bE.1 bE.2)) (∃c1:Fr×Fr,[dF b5,dF Z3]=AI.args c1/\AI.pre c1/\(ifB ((decide ((Fr.cmp c1.1 c1.2)>(0:Int)))) (∃c2:Fr×Fr,[dF b5,dF Z4]=AI.args c2/\AI.pre c2/\(ifB ((decide ((Fr.cmp c2.1 c2.2)<(0:Int)))) ((Z1.length+([[Dat.bool (decide (b5.z<0)),Dat.sl (L b5.z.natAbs),Dat.sl (L b5.d)]]:List a6).length<=2199023255552)/\(∃bF:Edg×Int,let b6:=CH bF.1 bF.2;[DA.agg [cI aE,cI aD,cI aC,cI aB,cI aA,cB a9],DA.one (cI hy)]=CX.args bF/\CX.pre bF/\(ifB ((Bh bF.1 bF.2)) (∃c3:Fr×Fr,[dF b6,dF Z3]=AI.args c3/\AI.pre c3/\(ifB ((decide ((Fr.cmp c3.1 c3.2)>(0:Int)))) (∃c4:Fr×Fr,[dF b6,dF Z4]=AI.args c4/\AI.pre c4/\(ifB ((decide ((Fr.cmp c4.1 c4.2)<(0:Int)))) ((Z6.length+([[Dat.bool (decide (b6.z<0)),Dat.sl (L b6.z.natAbs),Dat.sl (L b6.d)]]:List a6).length<=2199023255552)/\(∃c5:Nat,(c5<=(edA ls).length)/\((edA ls).length-c5<(edA ls).length-x8)/\((rf (104))/\(vI a7=vI (nI c5))/\(rf a3)/\(rf (vI lx))/\(rf (vI ly))/\(rf (vI hx))/\(rf (vI hy))/\(rf Z8)/\(rf Z9)/\(rf a0)/\(rf (L Z3.d))/\(rf a1)/\(rf (L Z4.d))/\((Z6++([[Dat.bool (decide (b6.z<0)),Dat.sl (L b6.z.natAbs),Dat.sl (L b6.d)]]:List a6))=(AC (evF Z3 Z4 (cA ls ls.length++cE (edA ls) ly hy c5))))/\(rf Z5)))) (∃c6:Nat,(c6<=(edA ls).length)/\((edA ls).length-c6<(edA ls).length-x8)/\((rf (104))/\(vI a7=vI (nI c6))/\(rf a3)/\(rf (vI lx))/\(rf (vI ly))/\(rf (vI hx))/\(rf (vI hy))/\(rf Z8)/\(rf Z9)/\(rf a0)/\(rf (L Z3.d))/\(rf a1)/\(rf (L Z4.d))/\(Z6=(AC (evF Z3 Z4 (cA ls ls.length++cE (edA ls) ly hy c6))))/\(rf Z5))))) (∃c7:Nat,(c7<=(edA ls).length)/\((edA ls).length-c7<(edA ls).length-x8)/\((rf (104))/\(vI a7=vI (nI c7))/\(rf a3)/\(rf (vI lx))/\(rf (vI ly))/\(rf (vI hx))/\(rf (vI hy))/\(rf Z8)/\(rf Z9)/\(rf a0)/\(rf (L Z3.d))/\(rf a1)/\(rf (L Z4.d))/\(Z6=(AC (evF Z3 Z4 (cA ls ls.length++cE (edA ls) ly hy c7))))/\(rf Z5))))) (∃c8:Nat,(c8<=(edA ls).length)/\((edA ls).length-c8<(edA ls).length-x8)/\((rf (104))/\(vI a7=vI (nI c8))/\(rf a3)/\(rf (vI lx))/\(rf (vI ly))/\(rf (vI hx))/\(rf (vI hy))/\(rf Z8)/\(rf Z9)/\(rf a0)/\(rf (L Z3.d))/\(rf a1)/\(rf (L Z4.d))/\(Z6=(AC (evF Z3 Z4 (cA ls ls.length++cE (edA ls) ly hy c8))))/\(rf Z5)))))) (∃bG:Edg×Int,let b7:=CH bG.1 bG.2;[DA.agg [cI aE,cI aD,cI aC,cI aB,cI aA,cB a9],DA.one (cI hy)]=CX.args bG/\CX.pre bG/\(ifB ((Bh bG.1 bG.2)) (∃c9:Fr×Fr,[dF b7,dF Z3]=AI.args c9/\AI.pre c9/\(ifB ((decide ((Fr.cmp c9.1 c9.2)>(0:Int)))) (∃cD:Fr×Fr,[dF b7,dF Z4]=AI.args cD/\AI.pre cD/\(ifB ((decide ((Fr.cmp cD.1 cD.2)<(0:Int)))) ((Z1.length+([[Dat.bool (decide (b7.z<0)),Dat.sl (L b7.z.natAbs),Dat.sl (L b7.d)]]:List a6).length<=2199023255552)/\(∃cF:Nat,(cF<=(edA ls).length)/\((edA ls).length-cF<(edA ls).length-x8)/\((rf (104))/\(vI a7=vI (nI cF))/\(rf a3)/\(rf (vI lx))/\(rf (vI ly))/\(rf (vI hx))/\(rf (vI hy))/\(rf Z8)/\(rf Z9)/\(rf a0)/\(rf (L Z3.d))/\(rf a1)/\(rf (L Z4.d))/\((Z1++([[Dat.bool (decide (b7.z<0)),Dat.sl (L b7.z.natAbs),Dat.sl (L b7.d)]]:List a6))=(AC (evF Z3 Z4 (cA ls ls.length++cE (edA ls) ly hy cF))))/\(rf Z5)))) (∃cG:Nat,(cG<=(edA ls).length)/\((edA ls).length-cG<(edA ls).length-x8)/\((rf (104))/\(vI a7=vI (nI cG))/\(rf a3)/\(rf (vI lx))/\(rf (vI ly))/\(rf (vI hx))/\(rf (vI hy))/\(rf Z8)/\(rf Z9)/\(rf a0)/\(rf (L Z3.d))/\(rf a1)/\(rf (L Z4.d))/\(Z1=(AC (evF Z3 Z4 (cA ls ls.length++cE (edA ls) ly hy cG))))/\(rf Z5))))) (∃cH:Nat,(cH<=(edA ls).length)/\((edA ls).length-cH<(edA ls).length-x8)/\((rf (104))/\(vI a7=vI (nI cH))/\(rf a3)/\(rf (vI lx))/\(rf (vI ly))/\(rf (vI hx))/\(rf (vI hy))/\(rf Z8)/\(rf Z9)/\(rf a0)/\(rf (L Z3.d))/\(rf a1)/\(rf (L Z4.d))/\(Z1=(AC (evF Z3 Z4 (cA ls ls.length++cE (edA ls) ly hy cH))))/\(rf Z5))))) (∃cJ:Nat,(cJ<=(edA ls).length)/\((edA ls).length-cJ<(edA ls).length-x8)/\((rf (104))/\(vI a7=vI (nI cJ))/\(rf a3)/\(rf (vI lx))/\(rf (vI ly))/\(rf (vI hx))/\(rf (vI hy))/\(rf Z8)/\(rf Z9)/\(rf a0)/\(rf (L Z3.d))/\(rf a1)/\(rf (L Z4.d))/\(Z1=(AC (evF Z3 Z4 (cA ls ls.length++cE (edA ls) ly hy cJ))))/\(rf Z5))))))) (∃bH:Edg×Int,let b8:=CH bH.1 bH.2;[DA.agg [cI aE,cI aD,cI aC,cI aB,cI aA,cB a9],DA.one (cI hy)]=CX.args bH/\CX.pre bH/\(ifB ((Bh bH.1 bH.2)) (∃cK:Fr×Fr,[dF b8,dF Z3]=AI.args cK/\AI.pre cK/\(ifB ((decide ((Fr.cmp cK.1 cK.2)>(0:Int)))) (∃cN:Fr×Fr,[dF b8,dF Z4]=AI.args cN/\AI.pre cN/\(ifB ((decide ((Fr.cmp cN.1 cN.2)<(0:Int)))) ((Z1.length+([[Dat.bool (decide (b8.z<0)),Dat.sl (L b8.z.natAbs),Dat.sl (L b8.d)]]:List a6).length<=2199023255552)/\(∃cO:Nat,(cO<=(edA ls).length)/\((edA ls).length-cO<(edA ls).length-x8)/\((rf (104))/\(vI a7=vI (nI cO))/\(rf a3)/\(rf (vI lx))/\(rf (vI ly))/\(rf (vI hx))/\(rf (vI hy))/\(rf Z8)/\(rf Z9)/\(rf a0)/\(rf (L Z3.d))/\(rf a1)/\(rf (L Z4.d))/\((Z1++([[Dat.bool (decide (b8.z<0)),Dat.sl (L b8.z.natAbs),Dat.sl (L b8.d)]]:List a6))=(AC (evF Z3 Z4 (cA ls ls.length++cE (edA ls) ly hy cO))))/\(rf Z5)))) (∃cP:Nat,(cP<=(edA ls).length)/\((edA ls).length-cP<(edA ls).length-x8)/\((rf (104))/\(vI a7=vI (nI cP))/\(rf a3)/\(rf (vI lx))/\(rf (vI ly))/\(rf (vI hx))/\(rf (vI hy))/\(rf Z8)/\(rf Z9)/\(rf a0)/\(rf (L Z3.d))/\(rf a1)/\(rf (L Z4.d))/\(Z1=(AC (evF Z3 Z4 (cA ls ls.length++cE (edA ls) ly hy cP))))/\(rf Z5))))) (∃cQ:Nat,(cQ<=(edA ls).length)/\((edA ls).length-cQ<(edA ls).length-x8)/\((rf (104))/\(vI a7=vI (nI cQ))/\(rf a3)/\(rf (vI lx))/\(rf (vI ly))/\(rf (vI hx))/\(rf (vI hy))/\(rf Z8)/\(rf Z9)/\(rf a0)/\(rf (L Z3.d))/\(rf a1)/\(rf (L Z4.d))/\(Z1=(AC (evF Z3 Z4 (cA ls ls.length++cE (edA ls) ly hy cQ))))/\(rf Z5))))) (∃cR:Nat,(cR<=(edA ls).length)/\((edA ls).length-cR<(edA ls).length-x8)/\((rf (104))/\(vI a7=vI (nI cR))/\(rf a3)/\(rf (vI lx))/\(rf (vI ly))/\(rf (vI hx))/\(rf (vI hy))/\(rf Z8)/\(rf Z9)/\(rf a0)/\(rf (L Z3.d))/\(rf a1)/\(rf (L Z4.d))/\(Z1=(AC (evF Z3 Z4 (cA ls ls.length++cE (edA ls) ly hy cR))))/\(rf Z5))))))) (∃bI:Edg×Int,let b9:=CH bI.1 bI.2;[DA.agg [cI aE,cI aD,cI aC,cI aB,cI aA,cB a9],DA.one (cI hy)]=CX.args bI/\CX.pre bI/\(ifB ((Bh bI.1 bI.2)) (∃cT:Fr×Fr,[dF b9,dF Z3]=AI.args cT/\AI.pre cT/\(ifB ((decide ((Fr.cmp cT.1 cT.2)>(0:Int)))) (∃cU:Fr×Fr,[dF b9,dF Z4]=AI.args cU/\AI.pre cU/\(ifB ((decide ((Fr.cmp cU.1 cU.2)<(0:Int)))) ((Z1.length+([[Dat.bool (decide (b9.z<0)),Dat.sl (L b9.z.natAbs),Dat.sl (L b9.d)]]:List a6).length<=2199023255552)/\(∃cW:Nat,(cW<=(edA ls).length)/\((edA ls).length-cW<(edA ls).length-x8)/\((rf (104))/\(vI a7=vI (nI cW))/\(rf a3)/\(rf (vI lx))/\(rf (vI ly))/\(rf (vI hx))/\(rf (vI hy))/\(rf Z8)/\(rf Z9)/\(rf a0)/\(rf (L Z3.d))/\(rf a1)/\(rf (L Z4.d))/\((Z1++([[Dat.bool (decide (b9.z<0)),Dat.sl (L b9.z.natAbs),Dat.sl (L b9.d)]]:List a6))=(AC (evF Z3 Z4 (cA ls ls.length++cE (edA ls) ly hy cW))))/\(rf Z5)))) (∃cX:Nat,(cX<=(edA ls).length)/\((edA ls).length-cX<(edA ls).length-x8)/\((rf (104))/\(vI a7=vI (nI cX))/\(rf a3)/\(rf (vI lx))/\(rf (vI ly))/\(rf (vI hx))/\(rf (vI hy))/\(rf Z8)/\(rf Z9)/\(rf a0)/\(rf (L Z3.d))/\(rf a1)/\(rf (L Z4.d))/\(Z1=(AC (evF Z3 Z4 (cA ls ls.length++cE (edA ls) ly hy cX))))/\(rf Z5))))) (∃cY:Nat,(cY<=(edA ls).length)/\((edA ls).length-cY<(edA ls).length-x8)/\((rf (104))/\(vI a7=vI (nI cY))/\(rf a3)/\(rf (vI lx))/\(rf (vI ly))/\(rf (vI hx))/\(rf (vI hy))/\(rf Z8)/\(rf Z9)/\(rf a0)/\(rf (L Z3.d))/\(rf a1)/\(rf (L Z4.d))/\(Z1=(AC (evF Z3 Z4 (cA ls ls.length++cE (edA ls) ly hy cY))))/\(rf Z5))))) (∃cZ:Nat,(cZ<=(edA ls).length)/\((edA ls).length-cZ<(edA ls).length-x8)/\((rf (104))/\(vI a7=vI (nI cZ))/\(rf a3)/\(rf (vI lx))/\(rf (vI ly))/\(rf (vI hx))/\(rf (vI hy))/\(rf Z8)/\(rf Z9)/\(rf a0)/\(rf (L Z3.d))/\(rf a1)/\(rf (L Z4.d))/\(Z1=(AC (evF Z3 Z4 (cA ls ls.length++cE (edA ls) ly hy cZ))))/\(rf Z5))))))))))))))) ((d1.length+([[Dat.bool bU,Dat.sl a0,Dat.sl (L Z3.d)],[Dat.bool bT,Dat.sl a1,Dat.sl (L Z4.d)]]:List a6).length<=2199023255552)/\(∃d2:(List Fr),[DA.one (DC.sl 44 z30 (d1++([[Dat.bool bU,Dat.sl a0,Dat.sl (L Z3.d)],[Dat.bool bT,Dat.sl a1,Dat.sl (L Z4.d)]]:List a6)))]=Cu.args d2/\Cu.pre d2/\((AC (CM [] d2)=AC (CM [] (evF Z3 Z4 (cA ls ls.length++cE (edA ls) ly hy (edA ls).length)++[Fr.ofInt lx,Fr.ofInt hx]))))))))))))) (by kernel_rfl) ?_
 conv=>zeta
 delta ifB vB vI wR nI;have hal:=A8 ls;have hed:=Us a2.1;have hb0:=a2.1.2.1;have d7:=LQ (a2.2.1);have d8:=LQ (a2.2.2.2.1)
 refine⟨lx,by
  rfl,by
  exact a2.2.1,?_⟩
 refine⟨hx,by
  rfl,by
  exact a2.2.2.2.1,?_⟩
 refine⟨⟨0,by omega,?_⟩,?_⟩;refine⟨rfl,rfl,?_,rfl,rfl,rfl,rfl,rfl,rfl,rfl,rfl,rfl,rfl,rfl,?_⟩;rfl;rfl;intro (k:Nat) bP;have bP:k<=ls.length:=bP;refine⟨λd3=>?_,λd3=>?_⟩;simp only[nrm]at d3;have bJ:k<ls.length:=by omega
 have hP:=Cp a2.1.1 bJ;have h16:=(Aw hP).2.2;have hV:=(Aw hP).1;refine ao (by omega) λo25=>?_;refine ao (by omega) λo26=>?_;refine⟨⟨0,by omega,?_⟩,?_⟩;refine⟨rfl,rfl,rfl,rfl,?_,rfl,rfl,rfl,rfl,rfl,rfl,rfl,rfl,rfl,rfl,rfl,?_,rfl⟩;rfl;unfold cV;rw[List.take_zero];simp;intro (n:Nat) bA;have bA:n<=(ls.getD k []).length:=bA;refine And.symm ⟨λbQ=>?_,λbQ=>?_⟩;simp only[nrm]at bQ;rw[BR bJ,A9]at bQ;have a5:n=(ls.getD k []).length:=by omega
 refine⟨k+1,by
  trivial,by
  omega,?_⟩
 refine⟨rfl,rfl,?_,rfl,rfl,rfl,rfl,rfl,rfl,rfl,rfl,rfl,rfl,rfl,?_⟩;exact AU (AB (by omega) (by omega));rw[Ur a5];simp only[nrm]at bQ;rw[BR bJ,A9]at bQ;have hn:n<(ls.getD k []).length:=by omega
 have hvb:=CW (FU hV hn);refine ao (by rw[BR bJ,A9];omega) λo48=>?_;refine ao (by omega) λo49=>?_
 refine⟨((ls.getD k []).getD n (0,0)).1,by
  rw[BR bJ,BL hn];rfl,by
  exact⟨by omega,by omega⟩,?_⟩
 refine And.symm ⟨λd4=>?_,λd4=>?_⟩;cases d4;simp only[nrm]at d4
 refine⟨((Fr.ofInt (((ls.getD k []).getD n (0,0)).1)),(Fr.ofInt lx)),by
  rfl,by
  trivial,?_⟩
 refine And.symm ⟨λbR=>?_,λbR=>?_⟩;simp only[nrm]at bR;have q:=Iy (hi:=Fr.ofInt hx) (b:=true) bR
 refine⟨n+1,by
  trivial,by
  omega,?_⟩
 refine⟨rfl,rfl,rfl,rfl,?_,rfl,rfl,rfl,rfl,rfl,rfl,rfl,rfl,rfl,rfl,rfl,?_,rfl⟩;exact AU (AB (by omega) (by omega));exact Jk (Ln hn _) q;simp only[nrm]at bR
 refine⟨((Fr.ofInt (((ls.getD k []).getD n (0,0)).1)),(Fr.ofInt hx)),by
  rfl,by
  trivial,?_⟩
 refine And.symm ⟨λbS=>?_,λbS=>?_⟩;simp only[nrm]at bS;have q:=Iz (lo:=Fr.ofInt lx) (b:=true) bS
 refine⟨n+1,by
  trivial,by
  omega,?_⟩
 refine⟨rfl,rfl,rfl,rfl,?_,rfl,rfl,rfl,rfl,rfl,rfl,rfl,rfl,rfl,rfl,rfl,?_,rfl⟩;exact AU (AB (by omega) (by omega));exact Jk (Ln hn _) q;simp only[nrm]at bS;have q:=NH (b:=true) rfl bR bS;refine ao (by have:=ABA a2.1 (lo:=Fr.ofInt lx) (hi:=Fr.ofInt hx) (n:=n) bJ;simp only[List.length_cons,List.length_nil];omega) λo62=>?_
 refine⟨n+1,by
  trivial,by
  omega,?_⟩
 refine⟨rfl,rfl,rfl,rfl,?_,rfl,rfl,rfl,rfl,rfl,rfl,rfl,rfl,rfl,rfl,rfl,?_,rfl⟩;exact AU (AB (by omega) (by omega));exact KY (Ln hn _) q;simp only[nrm]at d3;have d9:k=ls.length:=by omega
 refine⟨ls,by
  rfl,by
  exact⟨a2.1.1,a2.1.2.1⟩,?_⟩
 refine⟨⟨0,by omega,?_⟩,?_⟩;refine⟨rfl,?_,rfl,rfl,rfl,rfl,rfl,rfl,rfl,rfl,rfl,rfl,rfl,?_,rfl⟩;rfl;rw[d9];simp[cE];intro (i:Nat) aF;have aF:i<=(edA ls).length:=aF;refine And.symm ⟨λaG=>?_,λaG=>?_⟩;simp only[nrm]at aG;rw[BA]at aG;have d6:i=(edA ls).length:=by omega
 have b2:=Pk a2.1 (lo:=Fr.ofInt lx) (hi:=Fr.ofInt hx) (ly:=ly) (hy:=hy) (show i<=(edA ls).length by omega) 0;refine ao (by have:=b2.2;simp only[List.length_append,List.length_cons,List.length_nil];omega) λo695=>?_
 refine⟨(evF (Fr.ofInt lx) (Fr.ofInt hx) (cA ls ls.length++cE (edA ls) ly hy (edA ls).length)++[Fr.ofInt lx,Fr.ofInt hx]),by
  rw[d6];show[DA.one (DC.sl 44 _ (AC _++AC [_,_]))]=_;rw[← Jj];rfl,by
  try dsimp only[Cu]
  exact⟨YG _ d7 d8,by have:=b2.2;rw[Ao]at this;rw[List.length_append,← d6];simp only[List.length_cons,List.length_nil];omega⟩,?_⟩
 exact rfl;simp only[nrm]at aG;rw[BA]at aG;have hil:i<(edA ls).length:=by omega
 have bK:=Ph a2.1.1 hil;have b2:=λn=>Pk a2.1 (lo:=Fr.ofInt lx) (hi:=Fr.ofInt hx) (ly:=ly) (hy:=hy) (Nat.le_of_lt hil) n;refine ao (by rw[BA];omega) λo186=>?_;refine ao (by omega) λo187=>?_;refine ao (by rfl) λo188=>?_;refine ao (by omega) λo189=>?_;refine ao (by omega) λo190=>?_;refine ao (by omega) λo191=>?_;refine⟨⟨0,by omega,?_⟩,?_⟩;refine⟨rfl,rfl,?_,rfl,rfl,rfl,rfl,rfl,rfl,rfl,rfl,?_,?_,?_,?_,?_,rfl,rfl,rfl,rfl,rfl,?_,rfl,rfl⟩;rfl;rfl;rfl;rfl;rfl;rfl;unfold cC;simp;intro (n:Nat) aH;have aH:n<=i:=aH;refine⟨λaI=>?_,λaI=>?_⟩;simp only[nrm]at aI;rw[Cq,BA,List.length_take]at aI;have hn:n<i:=by omega
 have dC:n<((edA ls).take i).length:=by rw[List.length_take];omega
 have dD:(((edA ls).take i).getD n noE).ok=true:=by rw[Up hn];exact Ph a2.1.1 (by omega)
 refine ao (by rw[Cq,BA,List.length_take];omega) λo219=>?_;refine ao (by omega) λo220=>?_
 refine⟨(((edA ls).getD i noE),(((edA ls).take i).getD n noE)),by
  rw[Bz hil,Cq,Bz dC];rfl,by
  exact⟨bK,dD⟩,?_⟩
 refine And.symm ⟨λaJ=>?_,λaJ=>?_⟩;simp only[nrm]at aJ;have q:=Oe (lo:=Fr.ofInt lx) (hi:=Fr.ofInt hx) (x:=FH ((edA ls).getD i noE) (((edA ls).take i).getD n noE)) aJ
 refine⟨n+1,by
  trivial,by
  omega,?_⟩
 refine⟨rfl,rfl,?_,rfl,rfl,rfl,rfl,rfl,rfl,rfl,rfl,rfl,rfl,rfl,rfl,rfl,rfl,rfl,rfl,rfl,rfl,?_,rfl,rfl⟩;exact AU (AB (by omega) (by omega));exact Jk (IU hn (Nat.le_of_lt hil) _ _) q;simp only[nrm]at aJ
 refine⟨((FH ((edA ls).getD i noE) (((edA ls).take i).getD n noE)),(Fr.ofInt lx)),by
  rfl,by
  trivial,?_⟩
 refine And.symm ⟨λaK=>?_,λaK=>?_⟩;simp only[nrm]at aK;have q:=Iy (hi:=Fr.ofInt hx) (b:=C4 ((edA ls).getD i noE) (((edA ls).take i).getD n noE)) aK
 refine⟨n+1,by
  trivial,by
  omega,?_⟩
 refine⟨rfl,rfl,?_,rfl,rfl,rfl,rfl,rfl,rfl,rfl,rfl,rfl,rfl,rfl,rfl,rfl,rfl,rfl,rfl,rfl,rfl,?_,rfl,rfl⟩;exact AU (AB (by omega) (by omega));exact Jk (IU hn (Nat.le_of_lt hil) _ _) q;simp only[nrm]at aK
 refine⟨((FH ((edA ls).getD i noE) (((edA ls).take i).getD n noE)),(Fr.ofInt hx)),by
  rfl,by
  trivial,?_⟩
 refine And.symm ⟨λaL=>?_,λaL=>?_⟩;simp only[nrm]at aL;have q:=Iz (lo:=Fr.ofInt lx) (b:=C4 ((edA ls).getD i noE) (((edA ls).take i).getD n noE)) aL
 refine⟨n+1,by
  trivial,by
  omega,?_⟩
 refine⟨rfl,rfl,?_,rfl,rfl,rfl,rfl,rfl,rfl,rfl,rfl,rfl,rfl,rfl,rfl,rfl,rfl,rfl,rfl,rfl,rfl,?_,rfl,rfl⟩;exact AU (AB (by omega) (by omega));exact Jk (IU hn (Nat.le_of_lt hil) _ _) q;simp only[nrm]at aL;have q:=NH aJ aK aL;refine ao (by have:=(b2 n).1;simp only[List.length_append,List.length_cons,List.length_nil];omega) λo233=>?_
 refine⟨n+1,by
  trivial,by
  omega,?_⟩
 refine⟨rfl,rfl,?_,rfl,rfl,rfl,rfl,rfl,rfl,rfl,rfl,rfl,rfl,rfl,rfl,rfl,rfl,rfl,rfl,rfl,rfl,?_,rfl,rfl⟩;exact AU (AB (by omega) (by omega));exact KY (IU hn (Nat.le_of_lt hil) _ _) q;simp only[nrm]at aI;rw[Cq,BA,List.length_take]at aI;have a5:n=i:=by omega
 refine⟨(((edA ls).getD i noE),ly),by
  rw[Bz hil];rfl,by
  exact⟨bK,by omega,by omega⟩,?_⟩
 refine And.symm ⟨λaM=>?_,λaM=>?_⟩;simp only[nrm]at aM;have q1:=Oe (lo:=Fr.ofInt lx) (hi:=Fr.ofInt hx) (x:=CH ((edA ls).getD i noE) ly) aM
 refine⟨(((edA ls).getD i noE),hy),by
  rw[Bz hil];rfl,by
  exact⟨bK,by omega,by omega⟩,?_⟩
 refine And.symm ⟨λaN=>?_,λaN=>?_⟩;simp only[nrm]at aN;have q2:=Oe (lo:=Fr.ofInt lx) (hi:=Fr.ofInt hx) (x:=CH ((edA ls).getD i noE) hy) aN
 refine⟨i+1,by
  trivial,by
  omega,?_⟩
 refine⟨rfl,?_,rfl,rfl,rfl,rfl,rfl,rfl,rfl,rfl,rfl,rfl,rfl,?_,rfl⟩;exact AU (AB (by omega) (by omega));exact Jl (CC a5 _) q1 q2;simp only[nrm]at aN
 refine⟨((CH ((edA ls).getD i noE) hy),(Fr.ofInt lx)),by
  rfl,by
  trivial,?_⟩
 refine And.symm ⟨λaO=>?_,λaO=>?_⟩;simp only[nrm]at aO;have q2:=Iy (hi:=Fr.ofInt hx) (b:=Bh ((edA ls).getD i noE) hy) aO
 refine⟨i+1,by
  trivial,by
  omega,?_⟩
 refine⟨rfl,?_,rfl,rfl,rfl,rfl,rfl,rfl,rfl,rfl,rfl,rfl,rfl,?_,rfl⟩;exact AU (AB (by omega) (by omega));exact Jl (CC a5 _) q1 q2;simp only[nrm]at aO
 refine⟨((CH ((edA ls).getD i noE) hy),(Fr.ofInt hx)),by
  rfl,by
  trivial,?_⟩
 refine And.symm ⟨λaP=>?_,λaP=>?_⟩;simp only[nrm]at aP;have q2:=Iz (lo:=Fr.ofInt lx) (b:=Bh ((edA ls).getD i noE) hy) aP
 refine⟨i+1,by
  trivial,by
  omega,?_⟩
 refine⟨rfl,?_,rfl,rfl,rfl,rfl,rfl,rfl,rfl,rfl,rfl,rfl,rfl,?_,rfl⟩;exact AU (AB (by omega) (by omega));exact Jl (CC a5 _) q1 q2;simp only[nrm]at aP;have q2:=NH aN aO aP;refine ao (by have:=(b2 n).1;simp only[List.length_append,List.length_cons,List.length_nil];omega) λo622=>?_
 refine⟨i+1,by
  trivial,by
  omega,?_⟩
 refine⟨rfl,?_,rfl,rfl,rfl,rfl,rfl,rfl,rfl,rfl,rfl,rfl,rfl,?_,rfl⟩;exact AU (AB (by omega) (by omega));exact YF (CC a5 _) q1 q2;simp only[nrm]at aM
 refine⟨((CH ((edA ls).getD i noE) ly),(Fr.ofInt lx)),by
  rfl,by
  trivial,?_⟩
 refine And.symm ⟨λaQ=>?_,λaQ=>?_⟩;simp only[nrm]at aQ;have q1:=Iy (hi:=Fr.ofInt hx) (b:=Bh ((edA ls).getD i noE) ly) aQ
 refine⟨(((edA ls).getD i noE),hy),by
  rw[Bz hil];rfl,by
  exact⟨bK,by omega,by omega⟩,?_⟩
 refine And.symm ⟨λaR=>?_,λaR=>?_⟩;simp only[nrm]at aR;have q2:=Oe (lo:=Fr.ofInt lx) (hi:=Fr.ofInt hx) (x:=CH ((edA ls).getD i noE) hy) aR
 refine⟨i+1,by
  trivial,by
  omega,?_⟩
 refine⟨rfl,?_,rfl,rfl,rfl,rfl,rfl,rfl,rfl,rfl,rfl,rfl,rfl,?_,rfl⟩;exact AU (AB (by omega) (by omega));exact Jl (CC a5 _) q1 q2;simp only[nrm]at aR
 refine⟨((CH ((edA ls).getD i noE) hy),(Fr.ofInt lx)),by
  rfl,by
  trivial,?_⟩
 refine And.symm ⟨λaS=>?_,λaS=>?_⟩;simp only[nrm]at aS;have q2:=Iy (hi:=Fr.ofInt hx) (b:=Bh ((edA ls).getD i noE) hy) aS
 refine⟨i+1,by
  trivial,by
  omega,?_⟩
 refine⟨rfl,?_,rfl,rfl,rfl,rfl,rfl,rfl,rfl,rfl,rfl,rfl,rfl,?_,rfl⟩;exact AU (AB (by omega) (by omega));exact Jl (CC a5 _) q1 q2;simp only[nrm]at aS
 refine⟨((CH ((edA ls).getD i noE) hy),(Fr.ofInt hx)),by
  rfl,by
  trivial,?_⟩
 refine And.symm ⟨λaT=>?_,λaT=>?_⟩;simp only[nrm]at aT;have q2:=Iz (lo:=Fr.ofInt lx) (b:=Bh ((edA ls).getD i noE) hy) aT
 refine⟨i+1,by
  trivial,by
  omega,?_⟩
 refine⟨rfl,?_,rfl,rfl,rfl,rfl,rfl,rfl,rfl,rfl,rfl,rfl,rfl,?_,rfl⟩;exact AU (AB (by omega) (by omega));exact Jl (CC a5 _) q1 q2;simp only[nrm]at aT;have q2:=NH aR aS aT;refine ao (by have:=(b2 n).1;simp only[List.length_append,List.length_cons,List.length_nil];omega) λo537=>?_
 refine⟨i+1,by
  trivial,by
  omega,?_⟩
 refine⟨rfl,?_,rfl,rfl,rfl,rfl,rfl,rfl,rfl,rfl,rfl,rfl,rfl,?_,rfl⟩;exact AU (AB (by omega) (by omega));exact YF (CC a5 _) q1 q2;simp only[nrm]at aQ
 refine⟨((CH ((edA ls).getD i noE) ly),(Fr.ofInt hx)),by
  rfl,by
  trivial,?_⟩
 refine And.symm ⟨λaU=>?_,λaU=>?_⟩;simp only[nrm]at aU;have q1:=Iz (lo:=Fr.ofInt lx) (b:=Bh ((edA ls).getD i noE) ly) aU
 refine⟨(((edA ls).getD i noE),hy),by
  rw[Bz hil];rfl,by
  exact⟨bK,by omega,by omega⟩,?_⟩
 refine And.symm ⟨λaV=>?_,λaV=>?_⟩;simp only[nrm]at aV;have q2:=Oe (lo:=Fr.ofInt lx) (hi:=Fr.ofInt hx) (x:=CH ((edA ls).getD i noE) hy) aV
 refine⟨i+1,by
  trivial,by
  omega,?_⟩
 refine⟨rfl,?_,rfl,rfl,rfl,rfl,rfl,rfl,rfl,rfl,rfl,rfl,rfl,?_,rfl⟩;exact AU (AB (by omega) (by omega));exact Jl (CC a5 _) q1 q2;simp only[nrm]at aV
 refine⟨((CH ((edA ls).getD i noE) hy),(Fr.ofInt lx)),by
  rfl,by
  trivial,?_⟩
 refine And.symm ⟨λaW=>?_,λaW=>?_⟩;simp only[nrm]at aW;have q2:=Iy (hi:=Fr.ofInt hx) (b:=Bh ((edA ls).getD i noE) hy) aW
 refine⟨i+1,by
  trivial,by
  omega,?_⟩
 refine⟨rfl,?_,rfl,rfl,rfl,rfl,rfl,rfl,rfl,rfl,rfl,rfl,rfl,?_,rfl⟩;exact AU (AB (by omega) (by omega));exact Jl (CC a5 _) q1 q2;simp only[nrm]at aW
 refine⟨((CH ((edA ls).getD i noE) hy),(Fr.ofInt hx)),by
  rfl,by
  trivial,?_⟩
 refine And.symm ⟨λaX=>?_,λaX=>?_⟩;simp only[nrm]at aX;have q2:=Iz (lo:=Fr.ofInt lx) (b:=Bh ((edA ls).getD i noE) hy) aX
 refine⟨i+1,by
  trivial,by
  omega,?_⟩
 refine⟨rfl,?_,rfl,rfl,rfl,rfl,rfl,rfl,rfl,rfl,rfl,rfl,rfl,?_,rfl⟩;exact AU (AB (by omega) (by omega));exact Jl (CC a5 _) q1 q2;simp only[nrm]at aX;have q2:=NH aV aW aX;refine ao (by have:=(b2 n).1;simp only[List.length_append,List.length_cons,List.length_nil];omega) λo452=>?_
 refine⟨i+1,by
  trivial,by
  omega,?_⟩
 refine⟨rfl,?_,rfl,rfl,rfl,rfl,rfl,rfl,rfl,rfl,rfl,rfl,rfl,?_,rfl⟩;exact AU (AB (by omega) (by omega));exact YF (CC a5 _) q1 q2;simp only[nrm]at aU;have q1:=NH aM aQ aU;refine ao (by have:=(b2 n).1;simp only[List.length_append,List.length_cons,List.length_nil];omega) λo354=>?_
 refine⟨(((edA ls).getD i noE),hy),by
  rw[Bz hil];rfl,by
  exact⟨bK,by omega,by omega⟩,?_⟩
 refine And.symm ⟨λaY=>?_,λaY=>?_⟩;simp only[nrm]at aY;have q2:=Oe (lo:=Fr.ofInt lx) (hi:=Fr.ofInt hx) (x:=CH ((edA ls).getD i noE) hy) aY
 refine⟨i+1,by
  trivial,by
  omega,?_⟩
 refine⟨rfl,?_,rfl,rfl,rfl,rfl,rfl,rfl,rfl,rfl,rfl,rfl,rfl,?_,rfl⟩;exact AU (AB (by omega) (by omega));exact YE (CC a5 _) q1 q2;simp only[nrm]at aY
 refine⟨((CH ((edA ls).getD i noE) hy),(Fr.ofInt lx)),by
  rfl,by
  trivial,?_⟩
 refine And.symm ⟨λaZ=>?_,λaZ=>?_⟩;simp only[nrm]at aZ;have q2:=Iy (hi:=Fr.ofInt hx) (b:=Bh ((edA ls).getD i noE) hy) aZ
 refine⟨i+1,by
  trivial,by
  omega,?_⟩
 refine⟨rfl,?_,rfl,rfl,rfl,rfl,rfl,rfl,rfl,rfl,rfl,rfl,rfl,?_,rfl⟩;exact AU (AB (by omega) (by omega));exact YE (CC a5 _) q1 q2;simp only[nrm]at aZ
 refine⟨((CH ((edA ls).getD i noE) hy),(Fr.ofInt hx)),by
  rfl,by
  trivial,?_⟩
 refine And.symm ⟨λb0=>?_,λb0=>?_⟩;simp only[nrm]at b0;have q2:=Iz (lo:=Fr.ofInt lx) (b:=Bh ((edA ls).getD i noE) hy) b0
 refine⟨i+1,by
  trivial,by
  omega,?_⟩
 refine⟨rfl,?_,rfl,rfl,rfl,rfl,rfl,rfl,rfl,rfl,rfl,rfl,rfl,?_,rfl⟩;exact AU (AB (by omega) (by omega));exact YE (CC a5 _) q1 q2;simp only[nrm]at b0;have q2:=NH aY aZ b0;refine ao (by have:=(b2 n).1;simp only[List.length_append,List.length_cons,List.length_nil];omega) λo367=>?_
 refine⟨i+1,by
  trivial,by
  omega,?_⟩
 refine⟨rfl,?_,rfl,rfl,rfl,rfl,rfl,rfl,rfl,rfl,rfl,rfl,rfl,?_,rfl⟩;exact AU (AB (by omega) (by omega));exact ABw (CC a5 _) q1 q2
def CV:Con:={ι:=(List Fr)×Fr,pre:=λi=>i.1.length<=2000000000000,args:=λi=>[.one (DC.sl 44 z30 (AC i.1)),dF i.2],res:=λi=>⟨false,[none],[.view 44 [.bool,.sl 3 [.int],.sl 3 [.int]] (AC (Ct i.1 i.2))]⟩}
theorem Oh:CV.Ok Tryz.prog 56:=by
 refine fok (X:=⟨tt,[(55,AR),(76,AL)],[],51,[]⟩) mixed AG (CTok.cons D6 (CTok.cons FA (CTok.nil _))) Tryz.func56 (λ(i:(List Fr)×Fr)=>[(2,.mk 5 (Nat) (λx1=>{tm:=[(0,tX 1),(3,tP 2 0),(5,tI (nI x1))],en:=[(2,.box [kB (decide (i.2.z<0)),.ext 3,.ext 4]),(1,.view 44 z30 (AC i.1) []),(3,eV (L i.2.z.natAbs)),(4,eV (L i.2.d))]}) (λx1=>x1<=i.1.length/\∀j,j<x1->Fr.cmp (i.1.getD j Fr.none) i.2<0) (λx1=>i.1.length-x1) (λ_=>[]))]) ?_;rintro⟨l,r⟩ a2;have a2:l.length<=2000000000000:=a2
 refine AH (q:=let a1:=Ct l r;let Z6:=Nat.beq 3 3=true;let Z3:=List Dat;let Z1:=((AC l).length:Int);(∃x1:Nat,(x1<=l.length/\∀j,j<x1->Fr.cmp (l.getD j Fr.none) r<0)/\((vI (0:Int)=vI (nI x1))/\(rf (vB (decide (r.z<0))))/\(rf (AC l))/\(rf (L r.z.natAbs))/\(rf (L r.d))))/\∀x1:Nat,let a6:=x1<(AC l).length;let a3:=(0:Int)<=(nI x1);let a7:=(decide ((nI x1)<(nI ((AC l).length))));let Z7:=(nI x1)<=Z1;let Z5:=(AC l).getD x1 [];let a8:=((Z5.getD 2 (.int 0))).r;let a9:=((Z5.getD 1 (.int 0))).r;let aA:=((Z5.getD 0 (.int 0))).b;let Z4:=(AC l).take x1;let Z2:=((AC l).take (Z1.toNat)).drop x1;(x1<=l.length/\∀j,j<x1->Fr.cmp (l.getD j Fr.none) r<0)->(ifB a7 ((0<=(nI x1)/\(nI x1)<Z1)/\(a6/\(∃i1:Fr×Fr,[DA.agg [cB aA,cS a9,cS a8],dF r]=AR.args i1/\AR.pre i1/\(ifB ((decide ((Fr.cmp i1.1 i1.2)<(0:Int)))) (∃y2:Nat,(y2<=l.length/\∀j,j<y2->Fr.cmp (l.getD j Fr.none) r<0)/\(l.length-y2<l.length-x1)/\((vI (wR ((nI x1)+(1:Int)))=vI (nI y2))/\(rf (vB (decide (r.z<0))))/\(rf (AC l))/\(rf (L r.z.natAbs))/\(rf (L r.d)))) (ifB a7 ((0<=(nI x1)/\(nI x1)<Z1)/\(a6/\(∃i2:Fr×Fr,[DA.agg [cB aA,cS a9,cS a8],dF r]=AR.args i2/\AR.pre i2/\(ifB (((Fr.cmp i2.1 i2.2) == (0:Int))) (((AC l)=AC a1)) (Z6/\((0<=(0:Int))/\(a3/\(Z7/\((([]:List Z3).length+Z4.length<=2199023255552)/\(∃i3:Bool×(List Z3)×(List Z3),let Z8:=(([]:List Z3)++Z4)++([[Dat.bool i3.1,Dat.sl i3.2.1,Dat.sl i3.2.2]]:List Z3);[dF r]=AL.args i3/\AL.pre i3/\(((([]:List Z3)++Z4).length+([[Dat.bool i3.1,Dat.sl i3.2.1,Dat.sl i3.2.2]]:List Z3).length<=2199023255552)/\(Z6/\((0<=(nI x1))/\(Z7/\((Z1<=Z1)/\((Z8.length+Z2.length<=2199023255552)/\(((Z8++Z2)=AC a1)))))))))))))))))) (Z6/\((0<=(0:Int))/\(a3/\(Z7/\((([]:List Z3).length+Z4.length<=2199023255552)/\(∃i4:Bool×(List Z3)×(List Z3),let Z9:=(([]:List Z3)++Z4)++([[Dat.bool i4.1,Dat.sl i4.2.1,Dat.sl i4.2.2]]:List Z3);[dF r]=AL.args i4/\AL.pre i4/\(((([]:List Z3)++Z4).length+([[Dat.bool i4.1,Dat.sl i4.2.1,Dat.sl i4.2.2]]:List Z3).length<=2199023255552)/\(Z6/\((0<=(nI x1))/\(Z7/\((Z1<=Z1)/\((Z9.length+Z2.length<=2199023255552)/\(((Z9++Z2)=AC a1))))))))))))))))))) (ifB a7 ((0<=(nI x1)/\(nI x1)<Z1)/\(a6/\(∃i5:Fr×Fr,[DA.agg [cB aA,cS a9,cS a8],dF r]=AR.args i5/\AR.pre i5/\(ifB (((Fr.cmp i5.1 i5.2) == (0:Int))) (((AC l)=AC a1)) (Z6/\((0<=(0:Int))/\(a3/\(Z7/\((([]:List Z3).length+Z4.length<=2199023255552)/\(∃i6:Bool×(List Z3)×(List Z3),let aD:=(([]:List Z3)++Z4)++([[Dat.bool i6.1,Dat.sl i6.2.1,Dat.sl i6.2.2]]:List Z3);[dF r]=AL.args i6/\AL.pre i6/\(((([]:List Z3)++Z4).length+([[Dat.bool i6.1,Dat.sl i6.2.1,Dat.sl i6.2.2]]:List Z3).length<=2199023255552)/\(Z6/\((0<=(nI x1))/\(Z7/\((Z1<=Z1)/\((aD.length+Z2.length<=2199023255552)/\(((aD++Z2)=AC a1)))))))))))))))))) (Z6/\((0<=(0:Int))/\(a3/\(Z7/\((([]:List Z3).length+Z4.length<=2199023255552)/\(∃i7:Bool×(List Z3)×(List Z3),let aE:=(([]:List Z3)++Z4)++([[Dat.bool i7.1,Dat.sl i7.2.1,Dat.sl i7.2.2]]:List Z3);[dF r]=AL.args i7/\AL.pre i7/\(((([]:List Z3)++Z4).length+([[Dat.bool i7.1,Dat.sl i7.2.1,Dat.sl i7.2.2]]:List Z3).length<=2199023255552)/\(Z6/\((0<=(nI x1))/\(Z7/\((Z1<=Z1)/\((aE.length+Z2.length<=2199023255552)/\(((aE++Z2)=AC a1))))))))))))))))) (by kernel_rfl) ?_
 conv=>zeta
 delta ifB vB vI wR nI;have hfl:=Ao l;have h1:=r.nlz;have h2:=r.nld;have hz:=AJ r.z.natAbs;have hd:=AJ r.d;refine⟨⟨0,by exact⟨Nat.zero_le _,λj hj=>absurd hj (Nat.not_lt_zero j)⟩,?_⟩,?_⟩;refine⟨?_,rfl,rfl,rfl,rfl⟩;rfl;intro (k:Nat) a0;have a0:k<=l.length/\∀j,j<k->Fr.cmp (l.getD j Fr.none) r<0:=a0;refine And.symm ⟨λc8=>?_,λc8=>?_⟩;simp only[nrm]at c8;have hE:Ct l r=l.take k++r::l.drop k:=NK a0.1 a0.2 (λh=>absurd h (by omega));refine⟨λaB=>?_,λaB=>?_⟩;simp only[nrm]at aB;exfalso;omega;simp only[nrm]at aB;refine ao (by rfl) λo84=>?_;refine ao (by omega) λo85=>?_;refine ao (by omega) λo86=>?_;refine ao (by omega) λo87=>?_;refine ao (by simp only[List.length_append,List.length_take,List.length_drop,List.length_cons,List.length_nil];omega) λo88=>?_
 refine⟨(decide (r.z<0),(L r.z.natAbs),(L r.d)),by
  rfl,by
  show(L r.z.natAbs).length<=1073741824/\(L r.d).length<=1073741824;exact⟨by omega,by omega⟩,?_⟩
 refine ao (by simp only[List.length_append,List.length_take,List.length_drop,List.length_cons,List.length_nil];omega) λo92=>?_;refine ao (by rfl) λo93=>?_;refine ao (by omega) λo94=>?_;refine ao (by omega) λo95=>?_;refine ao (by omega) λo96=>?_;refine ao (by simp only[List.length_append,List.length_take,List.length_drop,List.length_cons,List.length_nil];omega) λo97=>?_;rw[hE,Int.toNat_natCast,List.take_length];exact Og l r k;simp only[nrm]at c8;have hk:k<l.length:=by omega
 refine ao (by omega) λo9=>?_;refine ao (by omega) λo10=>?_
 refine⟨((l.getD k Fr.none),r),by
  rw[B0 hk];rfl,by
  trivial,?_⟩
 refine⟨λa4=>?_,λa4=>?_⟩;simp only[nrm]at a4
 refine⟨k+1,by
  exact⟨by omega,JQ a0.2 a4⟩,by
  omega,?_⟩
 refine⟨?_,rfl,rfl,rfl,rfl⟩;exact AU (AB (by omega) (by omega));simp only[nrm]at a4;refine And.symm ⟨λaC=>?_,λaC=>?_⟩;simp only[nrm]at aC;exfalso;omega;simp only[nrm]at aC;refine ao (by omega) λo24=>?_;refine ao (by omega) λo25=>?_
 refine⟨((l.getD k Fr.none),r),by
  rw[B0 hk];rfl,by
  trivial,?_⟩
 refine⟨λa5=>?_,λa5=>?_⟩;simp only[nrm]at a5;have hE:Ct l r=l:=Of hk a0.2 a5;rw[hE];simp only[nrm]at a5;have hE:Ct l r=l.take k++r::l.drop k:=NK a0.1 a0.2 (λ_=>by omega);refine ao (by rfl) λo31=>?_;refine ao (by omega) λo32=>?_;refine ao (by omega) λo33=>?_;refine ao (by omega) λo34=>?_;refine ao (by simp only[List.length_append,List.length_take,List.length_drop,List.length_cons,List.length_nil];omega) λo35=>?_
 refine⟨(decide (r.z<0),(L r.z.natAbs),(L r.d)),by
  rfl,by
  show(L r.z.natAbs).length<=1073741824/\(L r.d).length<=1073741824;exact⟨by omega,by omega⟩,?_⟩
 refine ao (by simp only[List.length_append,List.length_take,List.length_drop,List.length_cons,List.length_nil];omega) λo39=>?_;refine ao (by rfl) λo40=>?_;refine ao (by omega) λo41=>?_;refine ao (by omega) λo42=>?_;refine ao (by omega) λo43=>?_;refine ao (by simp only[List.length_append,List.length_take,List.length_drop,List.length_cons,List.length_nil];omega) λo44=>?_;rw[hE,Int.toNat_natCast,List.take_length];exact Og l r k
def cM(e:Edg)(ly hy:Int)(m:Nat):List Cnd:=(cL e ly++cL e hy).take m
theorem ABx{cs:List Cnd}{n:Nat}(h:cs.length<=n):(AC (okF cs)).length<=n:=by rw[Ao];exact Nat.le_trans (Lo cs) h
theorem AAN{ls:List (List V2)}(h:Pj ls){ly hy:Int}{i:Nat}(hi' : i<=(edA ls).length)(n m:Nat):(cA ls ls.length++(cE (edA ls) ly hy i++(cC (edA ls) i n++cM ((edA ls).getD i noE) ly hy m))).length<=1200000000000/\(cA ls ls.length++cE (edA ls) ly hy i).length<=1200000000000:=by
 have h2:=NI ls ls.length;have h3:=TO (edA ls) i n;have h4:=TP (edA ls) ly hy i hi';have h5:=Us h;have h6:=h.2.2;have h7:=Nat.mul_le_mul (show i<=1048576 by omega) (show(edA ls).length+2<=1048578 by omega);have h8:(cM ((edA ls).getD i noE) ly hy m).length<=2:=by unfold cM cL;rw[List.length_take];simp only[List.length_append,List.length_cons,List.length_nil];omega
 simp only[List.length_append];constructor <;> omega
theorem ABE{ls:List (List V2)}{k n:Nat}(hv:ER ls ls.length<=1048576)(hk:k<ls.length):(cA ls k++cV (ls.getD k []) n).length<=1048576:=by have h2:=NI ls k;have h3:=TN (ls.getD k []) n;have h4:=Pg ls (k+1) (ls.length-(k+1));rw[show k+1+(ls.length-(k+1))=ls.length by omega]at h4;have h5:ER ls (k+1)=ER ls k+(ls.getD k []).length:=rfl;rw[List.length_append];omega
theorem Uu{e:Edg}{ly hy:Int}{m:Nat}(h:m<2)(A B C:List Cnd):A++(B++(C++cM e ly hy (m+1)))=(A++(B++(C++cM e ly hy m)))++[(CH e ((([[Dat.int ly],[Dat.int hy]].getD m []).getD 0 (.int 0)).n),Bh e ((([[Dat.int ly],[Dat.int hy]].getD m []).getD 0 (.int 0)).n))]:=by
 match m,h with| 0,_=>simp[cM,cL,Dat.n]| 1,_=>simp[cM,cL,Dat.n]
theorem Zd{es:List Edg}{ly hy:Int}{i m:Nat}(h:m=2)(A:List Cnd):A++(cE es ly hy i++(cC es i i++cM (es.getD i noE) ly hy m))=A++cE es ly hy (i+1):=by subst h;simp[cM,cL,cE]
theorem Ze(e:Edg)(ly hy:Int)(A B C:List Cnd):A++(B++(C++cM e ly hy 0))=A++(B++C):=by simp[cM]
theorem ABy{ly hy:Int}{m:Nat}(h1:-9223372036854775808<=ly/\ly<=9223372036854775807)(h2:-9223372036854775808<=hy/\hy<=9223372036854775807)(h:m<2):-9223372036854775808<=(([[Dat.int ly],[Dat.int hy]].getD m []).getD 0 (.int 0)).n/\(([[Dat.int ly],[Dat.int hy]].getD m []).getD 0 (.int 0)).n<=9223372036854775807:=by
 match m,h with| 0,_=>exact h1| 1,_=>exact h2
def EF:Con:={ι:=Int×Int×Int×Int×(List (List V2)),pre:=λi=>i.2.2.2.2.length<=1048576/\ER i.2.2.2.2 i.2.2.2.2.length<=1048576/\(-9223372036854775808<=i.1/\i.1<=9223372036854775807)/\(-9223372036854775808<=i.2.1/\i.2.1<=9223372036854775807)/\(-9223372036854775808<=i.2.2.1/\i.2.2.1<=9223372036854775807)/\(-9223372036854775808<=i.2.2.2.1/\i.2.2.2.1<=9223372036854775807),args:=λi=>[DA.agg [cI i.1,cI i.2.1,cI i.2.2.1,cI i.2.2.2.1],.one (DC.sl 66 [.sl 36 [.int,.int]] (AN i.2.2.2.2))],res:=λi=>⟨false,[none],[.view 44 [.bool,.sl 3 [.int],.sl 3 [.int]] (AC (evR i.1 i.2.1 i.2.2.1 i.2.2.2.1 i.2.2.2.2))]⟩}
set_option maxHeartbeats 1600000 in
theorem Pp:EF.Ok Tryz.prog 27:=by
 refine fok (X:=⟨tt,[(50,Co),(51,AE),(52,Ec),(53,Ji),(54,Hp),(55,AR),(56,CV)],[121],143,[]⟩) mixed AG (CTok.cons M9 (CTok.cons Bq (CTok.cons RU (CTok.cons ZS (CTok.cons ZU (CTok.cons D6 (CTok.cons Oh (CTok.nil _)))))))) Tryz.func27 (λ(i:Int×Int×Int×Int×(List (List V2)))=>let Z9:=Fr.ofInt i.1;let Z6:=Fr.ofInt i.2.2.1;let Z4:=AN i.2.2.2.2;let Z1:=edA i.2.2.2.2;let Z5:=Af Z1;let a3:=nI (Z5.length);let Z2:=okF (cA i.2.2.2.2 i.2.2.2.2.length++cE Z1 i.2.1 i.2.2.2.1 Z1.length);[(38,.mk 9 (Nat) (λa0=>{tm:=[(21,tP 1 0),(22,tP 4 0),(122,tX 7),(123,tI (nI ((AC Z2).length))),(124,tI (nI a0)),(23,tX 8)],en:=[(1,.box [kB (decide (Z9.z<0)),.ext 2,.ext 3]),(4,.box [kB (decide (Z6.z<0)),.ext 5,.ext 6]),(2,.own 3 [.int] (L Z9.z.natAbs)),(3,.own 3 [.int] (L Z9.d)),(5,.own 3 [.int] (L Z6.z.natAbs)),(6,.own 3 [.int] (L Z6.d)),(7,.own 44 z30 (AC Z2)),(8,.view 44 z30 (AC (Dq Z9 Z6 Z2 a0)) [2,3,5,6,7])]}) (λa0=>a0<=Z2.length) (λa0=>Z2.length-a0) (λ_=>[])),(17,.mk 4 (Nat) (λx5=>{tm:=[(2,tP 1 0),(59,tX 2),(61,tI (nI x5)),(10,tX 2),(60,tI a3),(5,tX 3)],en:=[(1,.box [kI i.1,kI i.2.1,kI i.2.2.1,kI i.2.2.2.1]),(2,.own 87 z86 Z5),(3,.own 44 z30 (AC (okF (cA i.2.2.2.2 i.2.2.2.2.length++cE Z1 i.2.1 i.2.2.2.1 x5))))]}) (λx5=>x5<=Z1.length) (λx5=>Z1.length-x5) (λx5=>let Z3:=Z5.getD x5 [];let aS:=((Z3.getD 5 (.int 0))).b;let a4:=((Z3.getD 4 (.int 0))).n;let a5:=((Z3.getD 3 (.int 0))).n;let a6:=((Z3.getD 2 (.int 0))).n;let a7:=((Z3.getD 1 (.int 0))).n;let a8:=((Z3.getD 0 (.int 0))).n;[(20,.mk 6 (Nat) (λx6=>{tm:=[(2,tP 1 0),(12,tP 2 0),(59,tX 3),(61,tI (nI x5)),(70,tI (nI x6)),(10,tX 3),(60,tI a3),(68,tX 4),(69,tI (nI ((Z5.take x5).length))),(5,tX 5)],en:=[(1,.box [kI i.1,kI i.2.1,kI i.2.2.1,kI i.2.2.2.1]),(2,.box [kI a8,kI a7,kI a6,kI a5,kI a4,kB aS]),(3,.own 87 z86 Z5),(4,.view 87 z86 (Z5.take x5) [3]),(5,.own 44 z30 (AC (okF (cA i.2.2.2.2 i.2.2.2.2.length++(cE Z1 i.2.1 i.2.2.2.1 x5++cC Z1 x5 x6)))))]}) (λx6=>x6<=x5) (λx6=>x5-x6) (λ_=>[])),(27,.mk 6 (Nat) (λx9=>{tm:=[(2,tP 1 0),(12,tP 2 0),(59,tX 3),(61,tI (nI x5)),(92,tX 4),(93,tI (nI (([[Dat.int i.2.1],[Dat.int i.2.2.2.1]]:List (List Dat)).length))),(94,tI (nI x9)),(10,tX 3),(60,tI a3),(5,tX 5)],en:=[(1,.box [kI i.1,kI i.2.1,kI i.2.2.1,kI i.2.2.2.1]),(2,.box [kI a8,kI a7,kI a6,kI a5,kI a4,kB aS]),(3,.own 87 z86 Z5),(4,.own 3 [.int] ([[Dat.int i.2.1],[Dat.int i.2.2.2.1]]:List (List Dat))),(5,.own 44 z30 (AC (okF (cA i.2.2.2.2 i.2.2.2.2.length++(cE Z1 i.2.1 i.2.2.2.1 x5++(cC Z1 x5 x5++cM (Z1.getD x5 noE) i.2.1 i.2.2.2.1 x9))))))]}) (λx9=>x9<=2) (λx9=>2-x9) (λ_=>[]))])),(3,.mk 4 (Nat) (λx1=>{tm:=[(1,tX 1),(2,tP 2 0),(27,tX 1),(28,tI (nI (Z4.length))),(29,tI (nI x1)),(5,tX 3)],en:=[(2,.box [kI i.1,kI i.2.1,kI i.2.2.1,kI i.2.2.2.1]),(1,.view 66 [.sl 36 [.int,.int]] Z4 []),(3,.own 44 z30 (AC (okF (cA i.2.2.2.2 x1))))]}) (λx1=>x1<=i.2.2.2.2.length/\∀j,j<x1->AV (i.2.2.2.2.getD j [])=true) (λx1=>i.2.2.2.2.length-x1) (λx1=>let Z8:=(((Z4.getD x1 []).getD 0 (.int 0))).r;let Z7:=i.2.2.2.2.getD x1 [];[(8,.mk 5 (Nat) (λx2=>{tm:=[(1,tX 1),(2,tP 2 0),(27,tX 1),(28,tI (nI (Z4.length))),(29,tI (nI x1)),(36,tX 3),(37,tI (nI (Z8.length))),(38,tI (nI x2)),(5,tX 4)],en:=[(2,.box [kI i.1,kI i.2.1,kI i.2.2.1,kI i.2.2.2.1]),(1,.view 66 [.sl 36 [.int,.int]] Z4 []),(3,.view 36 [.int,.int] Z8 []),(4,.own 44 z30 (AC (okF (cA i.2.2.2.2 x1++cV Z7 x2))))]}) (λx2=>x2<=Z7.length) (λx2=>Z7.length-x2) (λ_=>[]))]))]) ?_
 rintro⟨lx,ly,hx,hy,ls⟩ a1;have a1:ls.length<=1048576/\ER ls ls.length<=1048576/\(-9223372036854775808<=lx/\lx<=9223372036854775807)/\(-9223372036854775808<=ly/\ly<=9223372036854775807)/\(-9223372036854775808<=hx/\hx<=9223372036854775807)/\(-9223372036854775808<=hy/\hy<=9223372036854775807):=a1
 refine AH (q:=let aG:=AN ls;let b3:=vI (nI (aG.length));let a2:=List Dat;let bV:=(([]:List a2)=AC (evR lx ly hx hy ls));let Z9:=nI (([[Dat.int ly],[Dat.int hy]]:List a2).length);let Z8:=Fr.ofInt hx;let b4:=L Z8.z.natAbs;let b5:=decide (Z8.z<0);let Z7:=Fr.ofInt lx;let b6:=L Z7.z.natAbs;let b7:=decide (Z7.z<0);let Z3:=Af (edA ls);let bI:=nI (Z3.length);let aN:=vI bI;let Z1:=okF (cA ls ls.length++cE (edA ls) ly hy (edA ls).length);let b0:=nI ((AC Z1).length);(∃x1:Nat,(x1<=ls.length/\∀j,j<x1->AV (ls.getD j [])=true)/\((rf b3)/\(vI (0:Int)=vI (nI x1))/\(rf (vI lx))/\(rf (vI ly))/\(rf (vI hx))/\(rf (vI hy))/\(rf aG)/\(([]:List a2)=(AC (okF (cA ls x1))))))/\∀x1:Nat,let bW:=AC (okF (cA ls x1));let aJ:=ls.getD x1 [];let Z4:=(((aG.getD x1 []).getD 0 (.int 0))).r;let bJ:=nI (Z4.length);(x1<=ls.length/\∀j,j<x1->AV (ls.getD j [])=true)->(ifB ((decide ((nI x1)<(nI (aG.length))))) ((0<=(nI x1)/\(nI x1)<(aG.length:Int))/\((x1<aG.length)/\(∃i1:(List V2),[DA.one (DC.sl 36 [.int,.int] Z4)]=Co.args i1/\Co.pre i1/\(ifB ((!(AV i1))) bV ((∃x2:Nat,(x2<=aJ.length)/\((rf b3)/\(rf (vI (nI x1)))/\(rf (vI bJ))/\(vI (0:Int)=vI (nI x2))/\(rf (vI lx))/\(rf (vI ly))/\(rf (vI hx))/\(rf (vI hy))/\(rf aG)/\(rf Z4)/\(bW=(AC (okF (cA ls x1++cV aJ x2))))))/\∀x2:Nat,let bK:=AC (okF (cA ls x1++cV aJ x2));(x2<=aJ.length)->(ifB ((decide ((nI x2)<bJ))) ((0<=(nI x2)/\(nI x2)<(Z4.length:Int))/\((x2<Z4.length)/\(∃i2:Int,let aT:=Fr.ofInt i2;[DA.one (cI ((((Z4.getD x2 []).getD 0 (.int 0))).n))]=AE.args i2/\AE.pre i2/\((bK.length+([[Dat.bool (decide (aT.z<0)),Dat.sl (L aT.z.natAbs),Dat.sl (L aT.d)]]:List a2).length<=2199023255552)/\(∃y3:Nat,(y3<=aJ.length)/\(aJ.length-y3<aJ.length-x2)/\((rf b3)/\(rf (vI (nI x1)))/\(rf (vI bJ))/\(vI (wR ((nI x2)+(1:Int)))=vI (nI y3))/\(rf (vI lx))/\(rf (vI ly))/\(rf (vI hx))/\(rf (vI hy))/\(rf aG)/\(rf Z4)/\((bK++([[Dat.bool (decide (aT.z<0)),Dat.sl (L aT.z.natAbs),Dat.sl (L aT.d)]]:List a2))=(AC (okF (cA ls x1++cV aJ y3)))))))))) (∃y4:Nat,(y4<=ls.length/\∀j,j<y4->AV (ls.getD j [])=true)/\(ls.length-y4<ls.length-x1)/\((rf b3)/\(vI (wR ((nI x1)+(1:Int)))=vI (nI y4))/\(rf (vI lx))/\(rf (vI ly))/\(rf (vI hx))/\(rf (vI hy))/\(rf aG)/\(bK=(AC (okF (cA ls y4)))))))))))) (ifB ((decide (lx>=hx))) bV (∃i3:(List (List V2)),[DA.one (DC.sl 66 [.sl 36 [.int,.int]] aG)]=Ec.args i3/\Ec.pre i3/\((∃x5:Nat,(x5<=(edA ls).length)/\((vI (0:Int)=vI (nI x5))/\(vI (nI ((Af (edA i3)).length))=vI bI)/\(rf (vI lx))/\(rf (vI ly))/\(rf (vI hx))/\(rf (vI hy))/\(Af (edA i3)=Z3)/\(bW=(AC (okF (cA ls ls.length++cE (edA ls) ly hy x5))))))/\∀x5:Nat,let aU:=vI (nI x5);let b8:=(edA ls).getD x5 noE;let bL:=AC (okF (cA ls ls.length++cE (edA ls) ly hy x5));let aO:=Z3.take x5;let b9:=nI (aO.length);let Z2:=Z3.getD x5 [];let a4:=((Z2.getD 5 (.int 0))).b;let a5:=((Z2.getD 4 (.int 0))).n;let a6:=((Z2.getD 3 (.int 0))).n;let a7:=((Z2.getD 2 (.int 0))).n;let a8:=((Z2.getD 1 (.int 0))).n;let a3:=((Z2.getD 0 (.int 0))).n;(x5<=(edA ls).length)->(ifB ((decide ((nI x5)<bI))) ((0<=(nI x5)/\(nI x5)<(Z3.length:Int))/\((x5<Z3.length)/\((Nat.beq 6 6=true)/\((0<=(0:Int))/\(((0:Int)<=(nI x5))/\(((nI x5)<=(Z3.length:Int))/\((∃x6:Nat,(x6<=x5)/\((rf aU)/\(vI (0:Int)=vI (nI x6))/\(rf aN)/\(rf (vI b9))/\(rf (vI lx))/\(rf (vI ly))/\(rf (vI hx))/\(rf (vI hy))/\(vI ((Z2.getD 0 (.int 0))).n=vI a3)/\(vI ((Z2.getD 1 (.int 0))).n=vI a8)/\(vI ((Z2.getD 2 (.int 0))).n=vI a7)/\(vI ((Z2.getD 3 (.int 0))).n=vI a6)/\(vI ((Z2.getD 4 (.int 0))).n=vI a5)/\(rf (vB a4))/\(rf Z3)/\(rf aO)/\(bL=(AC (okF (cA ls ls.length++(cE (edA ls) ly hy x5++cC (edA ls) x5 x6)))))))/\∀x6:Nat,let bX:=wR ((nI x6)+(1:Int));let aV:=aO.getD x6 [];let Z6:=AC (okF (cA ls ls.length++(cE (edA ls) ly hy x5++cC (edA ls) x5 x6)));(x6<=x5)->(ifB ((decide ((nI x6)<b9))) ((0<=(nI x6)/\(nI x6)<(aO.length:Int))/\((x6<aO.length)/\(∃i4:Edg×Edg,let aW:=FH i4.1 i4.2;[DA.agg [cI a3,cI a8,cI a7,cI a6,cI a5,cB a4],DA.agg [cI (((aV.getD 0 (.int 0))).n),cI (((aV.getD 1 (.int 0))).n),cI (((aV.getD 2 (.int 0))).n),cI (((aV.getD 3 (.int 0))).n),cI (((aV.getD 4 (.int 0))).n),cB (((aV.getD 5 (.int 0))).b)]]=Ji.args i4/\Ji.pre i4/\(ifB ((C4 i4.1 i4.2)) ((Z6.length+([[Dat.bool (decide (aW.z<0)),Dat.sl (L aW.z.natAbs),Dat.sl (L aW.d)]]:List a2).length<=2199023255552)/\(∃y7:Nat,(y7<=x5)/\(x5-y7<x5-x6)/\((rf aU)/\(vI bX=vI (nI y7))/\(rf aN)/\(rf (vI b9))/\(rf (vI lx))/\(rf (vI ly))/\(rf (vI hx))/\(rf (vI hy))/\(rf (vI a3))/\(rf (vI a8))/\(rf (vI a7))/\(rf (vI a6))/\(rf (vI a5))/\(rf (vB a4))/\(rf Z3)/\(rf aO)/\((Z6++([[Dat.bool (decide (aW.z<0)),Dat.sl (L aW.z.natAbs),Dat.sl (L aW.d)]]:List a2))=(AC (okF (cA ls ls.length++(cE (edA ls) ly hy x5++cC (edA ls) x5 y7)))))))) (∃y8:Nat,(y8<=x5)/\(x5-y8<x5-x6)/\((rf aU)/\(vI bX=vI (nI y8))/\(rf aN)/\(rf (vI b9))/\(rf (vI lx))/\(rf (vI ly))/\(rf (vI hx))/\(rf (vI hy))/\(rf (vI a3))/\(rf (vI a8))/\(rf (vI a7))/\(rf (vI a6))/\(rf (vI a5))/\(rf (vB a4))/\(rf Z3)/\(rf aO)/\(Z6=(AC (okF (cA ls ls.length++(cE (edA ls) ly hy x5++cC (edA ls) x5 y8))))))))))) ((∃x9:Nat,(x9<=2)/\((rf aU)/\(rf (vI Z9))/\(vI (0:Int)=vI (nI x9))/\(rf aN)/\(rf (vI lx))/\(rf (vI ly))/\(rf (vI hx))/\(rf (vI hy))/\(rf (vI a3))/\(rf (vI a8))/\(rf (vI a7))/\(rf (vI a6))/\(rf (vI a5))/\(rf (vB a4))/\(rf Z3)/\(rf ([[Dat.int ly],[Dat.int hy]]:List a2))/\(Z6=(AC (okF (cA ls ls.length++(cE (edA ls) ly hy x5++(cC (edA ls) x5 x5++cM b8 ly hy x9))))))))/\∀x9:Nat,let bY:=wR ((nI x9)+(1:Int));let Z5:=AC (okF (cA ls ls.length++(cE (edA ls) ly hy x5++(cC (edA ls) x5 x5++cM b8 ly hy x9))));(x9<=2)->(ifB ((decide ((nI x9)<Z9))) ((0<=(nI x9)/\(nI x9)<(([[Dat.int ly],[Dat.int hy]]:List a2).length:Int))/\((x9<([[Dat.int ly],[Dat.int hy]]:List a2).length)/\(∃i5:Edg×Int,let aX:=CH i5.1 i5.2;[DA.agg [cI a3,cI a8,cI a7,cI a6,cI a5,cB a4],DA.one (cI ((((([[Dat.int ly],[Dat.int hy]]:List a2).getD x9 []).getD 0 (.int 0))).n))]=Hp.args i5/\Hp.pre i5/\(ifB ((Bh i5.1 i5.2)) ((Z5.length+([[Dat.bool (decide (aX.z<0)),Dat.sl (L aX.z.natAbs),Dat.sl (L aX.d)]]:List a2).length<=2199023255552)/\(∃bA:Nat,(bA<=2)/\(2-bA<2-x9)/\((rf aU)/\(rf (vI Z9))/\(vI bY=vI (nI bA))/\(rf aN)/\(rf (vI lx))/\(rf (vI ly))/\(rf (vI hx))/\(rf (vI hy))/\(rf (vI a3))/\(rf (vI a8))/\(rf (vI a7))/\(rf (vI a6))/\(rf (vI a5))/\(rf (vB a4))/\(rf Z3)/\(rf ([[Dat.int ly],[Dat.int hy]]:List a2))/\((Z5++([[Dat.bool (decide (aX.z<0)),Dat.sl (L aX.z.natAbs),Dat.sl (L aX.d)]]:List a2))=(AC (okF (cA ls ls.length++(cE (edA ls) ly hy x5++(cC (edA ls) x5 x5++cM b8 ly hy bA))))))))) (∃bB:Nat,(bB<=2)/\(2-bB<2-x9)/\((rf aU)/\(rf (vI Z9))/\(vI bY=vI (nI bB))/\(rf aN)/\(rf (vI lx))/\(rf (vI ly))/\(rf (vI hx))/\(rf (vI hy))/\(rf (vI a3))/\(rf (vI a8))/\(rf (vI a7))/\(rf (vI a6))/\(rf (vI a5))/\(rf (vB a4))/\(rf Z3)/\(rf ([[Dat.int ly],[Dat.int hy]]:List a2))/\(Z5=(AC (okF (cA ls ls.length++(cE (edA ls) ly hy x5++(cC (edA ls) x5 x5++cM b8 ly hy bB)))))))))))) (∃bC:Nat,(bC<=(edA ls).length)/\((edA ls).length-bC<(edA ls).length-x5)/\((vI (wR ((nI x5)+(1:Int)))=vI (nI bC))/\(rf aN)/\(rf (vI lx))/\(rf (vI ly))/\(rf (vI hx))/\(rf (vI hy))/\(rf Z3)/\(Z5=(AC (okF (cA ls ls.length++cE (edA ls) ly hy bC)))))))))))))))) (∃i6:Int,let aY:=Fr.ofInt i6;[DA.one (cI lx)]=AE.args i6/\AE.pre i6/\(∃i7:Int,let aZ:=Fr.ofInt i7;[DA.one (cI hx)]=AE.args i7/\AE.pre i7/\((∃a0:Nat,(a0<=Z1.length)/\((vI (nI (bL.length))=vI b0)/\(vI (0:Int)=vI (nI a0))/\(vB (decide (aY.z<0))=vB b7)/\(vB (decide (aZ.z<0))=vB b5)/\(L aY.z.natAbs=b6)/\(L aY.d=(L Z7.d))/\(L aZ.z.natAbs=b4)/\(L aZ.d=(L Z8.d))/\(bL=(AC Z1))/\(([[Dat.bool (decide (aY.z<0)),Dat.sl (L aY.z.natAbs),Dat.sl (L aY.d)],[Dat.bool (decide (aZ.z<0)),Dat.sl (L aZ.z.natAbs),Dat.sl (L aZ.d)]]:List a2)=(AC (Dq Z7 Z8 Z1 a0)))))/\∀a0:Nat,let bM:=wR ((nI a0)+(1:Int));let bD:=AC (Dq Z7 Z8 Z1 a0);let aS:=(AC Z1).getD a0 [];let bN:=((aS.getD 2 (.int 0))).r;let bO:=((aS.getD 1 (.int 0))).r;let bP:=((aS.getD 0 (.int 0))).b;(a0<=Z1.length)->(ifB ((decide ((nI a0)<b0))) ((0<=(nI a0)/\(nI a0)<((AC Z1).length:Int))/\((a0<(AC Z1).length)/\(∃i8:Fr×Fr,[DA.agg [cB bP,cS bO,cS bN],dF Z7]=AR.args i8/\AR.pre i8/\(ifB ((decide ((Fr.cmp i8.1 i8.2)>(0:Int)))) (∃i9:Fr×Fr,[DA.agg [cB bP,cS bO,cS bN],dF Z8]=AR.args i9/\AR.pre i9/\(ifB ((decide ((Fr.cmp i9.1 i9.2)<(0:Int)))) (∃bE:(List Fr)×Fr,[DA.one (DC.sl 44 z30 bD),DA.agg [cB bP,cS bO,cS bN]]=CV.args bE/\CV.pre bE/\(∃bF:Nat,(bF<=Z1.length)/\(Z1.length-bF<Z1.length-a0)/\((rf (vI b0))/\(vI bM=vI (nI bF))/\(rf (vB b7))/\(rf (vB b5))/\(rf b6)/\(rf (L Z7.d))/\(rf b4)/\(rf (L Z8.d))/\(rf (AC Z1))/\(AC (Ct bE.1 bE.2)=(AC (Dq Z7 Z8 Z1 bF)))))) (∃bG:Nat,(bG<=Z1.length)/\(Z1.length-bG<Z1.length-a0)/\((rf (vI b0))/\(vI bM=vI (nI bG))/\(rf (vB b7))/\(rf (vB b5))/\(rf b6)/\(rf (L Z7.d))/\(rf b4)/\(rf (L Z8.d))/\(rf (AC Z1))/\(bD=(AC (Dq Z7 Z8 Z1 bG))))))) (∃bH:Nat,(bH<=Z1.length)/\(Z1.length-bH<Z1.length-a0)/\((rf (vI b0))/\(vI bM=vI (nI bH))/\(rf (vB b7))/\(rf (vB b5))/\(rf b6)/\(rf (L Z7.d))/\(rf b4)/\(rf (L Z8.d))/\(rf (AC Z1))/\(bD=(AC (Dq Z7 Z8 Z1 bH))))))))) ((bD=AC (evR lx ly hx hy ls))))))))))))) (by kernel_rfl) ?_
 conv=>zeta
 delta ifB vB vI wR nI;have hal:=A8 ls;have hb0:=a1.1;refine⟨⟨0,by exact⟨Nat.zero_le _,λj hj=>absurd hj (Nat.not_lt_zero j)⟩,?_⟩,?_⟩;refine⟨rfl,?_,rfl,rfl,rfl,rfl,rfl,?_⟩;rfl;rfl;intro (k:Nat) aH;have aH:k<=ls.length/\∀j,j<k->AV (ls.getD j [])=true:=aH;refine⟨λbQ=>?_,λbQ=>?_⟩;simp only[nrm]at bQ;have aP:k<ls.length:=by omega
 refine ao (by omega) λo12=>?_;refine ao (by omega) λo13=>?_
 refine⟨(ls.getD k []),by
  rw[BR aP];rfl,by
  trivial,?_⟩
 refine⟨λaQ=>?_,λaQ=>?_⟩;simp only[nrm]at aQ;have hE:evR lx ly hx hy ls=[]:=NN (λh=>by rw[YI aP aQ]at h;cases h.1);rw[hE];rfl;simp only[nrm]at aQ;have hV:=(Aw aQ).1;have h16:=(Aw aQ).2.2;refine⟨⟨0,by omega,?_⟩,?_⟩;refine⟨rfl,rfl,rfl,?_,rfl,rfl,rfl,rfl,rfl,rfl,?_⟩;rfl;unfold cV;rw[List.take_zero];simp;intro (n:Nat) aK;have aK:n<=(ls.getD k []).length:=aK;refine And.symm ⟨λb1=>?_,λb1=>?_⟩;simp only[nrm]at b1;rw[BR aP,A9]at b1;have bR:n=(ls.getD k []).length:=by omega
 refine⟨k+1,by
  exact⟨by omega,JQ aH.2 aQ⟩,by
  omega,?_⟩
 refine⟨rfl,?_,rfl,rfl,rfl,rfl,rfl,?_⟩;exact AU (AB (by omega) (by omega));rw[Ur bR];simp only[nrm]at b1;rw[BR aP,A9]at b1;have hn:n<(ls.getD k []).length:=by omega
 have hvb:=CW (FU hV hn);refine ao (by rw[BR aP,A9];omega) λo33=>?_;refine ao (by omega) λo34=>?_
 refine⟨((ls.getD k []).getD n (0,0)).1,by
  rw[BR aP,BL hn];rfl,by
  exact⟨by omega,by omega⟩,?_⟩
 refine ao (by have:=ABx (ABE a1.2.1 aP (n:=n));simp only[List.length_cons,List.length_nil];omega) λo38=>?_
 refine⟨n+1,by
  trivial,by
  omega,?_⟩
 refine⟨rfl,rfl,rfl,?_,rfl,rfl,rfl,rfl,rfl,rfl,?_⟩;exact AU (AB (by omega) (by omega));exact TQ (Ln hn _) rfl;simp only[nrm]at bQ;have c2:k=ls.length:=by omega
 have hPB:=YJ (λj hj=>aH.2 j (by omega));have bS:Pj ls:=⟨hPB,a1.1,a1.2.1⟩;have hed:=Us bS;refine⟨λbT=>?_,λbT=>?_⟩;simp only[nrm]at bT;have hE:evR lx ly hx hy ls=[]:=NN (λh=>absurd h.2 (by omega));rw[hE];rfl;simp only[nrm]at bT
 refine⟨ls,by
  rfl,by
  trivial,?_⟩
 refine⟨⟨0,by omega,?_⟩,?_⟩;refine⟨?_,rfl,rfl,rfl,rfl,rfl,rfl,?_⟩;rfl;rw[c2];simp[cE];intro (i:Nat) aL;have aL:i<=(edA ls).length:=aL;refine And.symm ⟨λb2=>?_,λb2=>?_⟩;simp only[nrm]at b2;rw[BA]at b2;have bZ:i=(edA ls).length:=by omega
 have hab:=Nat.le_trans (Lo _) (AAN bS (ly:=ly) (hy:=hy) (Nat.le_refl _) 0 0).2
 refine⟨lx,by
  rfl,by
  exact⟨by omega,by omega⟩,?_⟩
 refine⟨hx,by
  rfl,by
  exact⟨by omega,by omega⟩,?_⟩
 refine⟨⟨0,by omega,?_⟩,?_⟩;refine⟨?_,?_,rfl,rfl,rfl,rfl,rfl,rfl,?_,?_⟩;rw[bZ];rfl;rw[bZ];unfold Dq;rw[List.take_zero];rfl;intro (q:Nat) a9;have a9:q<=(okF (cA ls ls.length++cE (edA ls) ly hy (edA ls).length)).length:=a9;refine And.symm ⟨λaA=>?_,λaA=>?_⟩;simp only[nrm]at aA;rw[Ao]at aA;have c3:q=(okF (cA ls ls.length++cE (edA ls) ly hy (edA ls).length)).length:=by omega
 rw[ZX hPB (by omega),c3];simp only[nrm]at aA;rw[Ao]at aA;have hq:q<(okF (cA ls ls.length++cE (edA ls) ly hy (edA ls).length)).length:=by omega
 refine ao (by rw[Ao];omega) λo250=>?_;refine ao (by omega) λo251=>?_
 refine⟨(((okF (cA ls ls.length++cE (edA ls) ly hy (edA ls).length)).getD q Fr.none),Fr.ofInt lx),by
  rw[B0 hq];rfl,by
  trivial,?_⟩
 refine And.symm ⟨λaR=>?_,λaR=>?_⟩;simp only[nrm]at aR;have hI:inP (Fr.ofInt lx) (Fr.ofInt hx) ((okF (cA ls ls.length++cE (edA ls) ly hy (edA ls).length)).getD q Fr.none)=false:=by unfold inP;rw[decide_eq_false (by omega)];rfl
 refine⟨q+1,by
  trivial,by
  omega,?_⟩
 refine⟨rfl,?_,rfl,rfl,rfl,rfl,rfl,rfl,rfl,?_⟩;exact AU (AB (by omega) (by omega));rw[RV hq hI];simp only[nrm]at aR
 refine⟨(((okF (cA ls ls.length++cE (edA ls) ly hy (edA ls).length)).getD q Fr.none),Fr.ofInt hx),by
  rw[B0 hq];rfl,by
  trivial,?_⟩
 refine And.symm ⟨λaI=>?_,λaI=>?_⟩;simp only[nrm]at aI;have hI:inP (Fr.ofInt lx) (Fr.ofInt hx) ((okF (cA ls ls.length++cE (edA ls) ly hy (edA ls).length)).getD q Fr.none)=false:=by unfold inP;rw[decide_eq_false (show ¬Fr.cmp ((okF (cA ls ls.length++cE (edA ls) ly hy (edA ls).length)).getD q Fr.none) (Fr.ofInt hx)<0 by omega)];simp
 refine⟨q+1,by
  trivial,by
  omega,?_⟩
 refine⟨rfl,?_,rfl,rfl,rfl,rfl,rfl,rfl,rfl,?_⟩;exact AU (AB (by omega) (by omega));rw[RV hq hI];simp only[nrm]at aI;have hI:inP (Fr.ofInt lx) (Fr.ofInt hx) ((okF (cA ls ls.length++cE (edA ls) ly hy (edA ls).length)).getD q Fr.none)=true:=by unfold inP;rw[decide_eq_true (by omega),decide_eq_true aI];rfl
 refine⟨(Dq (Fr.ofInt lx) (Fr.ofInt hx) (okF (cA ls ls.length++cE (edA ls) ly hy (edA ls).length)) q,((okF (cA ls ls.length++cE (edA ls) ly hy (edA ls).length)).getD q Fr.none)),by
  rw[B0 hq];rfl,by
  show(Dq (Fr.ofInt lx) (Fr.ofInt hx) (okF (cA ls ls.length++cE (edA ls) ly hy (edA ls).length)) q).length<=2000000000000;have:=WN (Fr.ofInt lx) (Fr.ofInt hx) (okF (cA ls ls.length++cE (edA ls) ly hy (edA ls).length)) q;omega,?_⟩
 refine⟨q+1,by
  trivial,by
  omega,?_⟩
 refine⟨rfl,?_,rfl,rfl,rfl,rfl,rfl,rfl,rfl,?_⟩;exact AU (AB (by omega) (by omega));rw[WM hq hI];simp only[nrm]at b2;rw[BA]at b2;have hil:i<(edA ls).length:=by omega
 have c0:=Ph hPB hil;have c1:=λn m=>AAN bS (ly:=ly) (hy:=hy) (Nat.le_of_lt hil) n m;refine ao (by rw[BA];omega) λo80=>?_;refine ao (by omega) λo81=>?_;refine ao (by rfl) λo82=>?_;refine ao (by omega) λo83=>?_;refine ao (by omega) λo84=>?_;refine ao (by omega) λo85=>?_;refine⟨⟨0,by omega,?_⟩,?_⟩;refine⟨rfl,?_,rfl,rfl,rfl,rfl,rfl,rfl,?_,?_,?_,?_,?_,rfl,rfl,rfl,?_⟩;rfl;rfl;rfl;rfl;rfl;rfl;unfold cC;simp;intro (n:Nat) aM;have aM:n<=i:=aM;refine⟨λaB=>?_,λaB=>?_⟩;simp only[nrm]at aB;rw[Cq,BA,List.length_take]at aB;have hn:n<i:=by omega
 have c4:n<((edA ls).take i).length:=by rw[List.length_take];omega
 have c5:(((edA ls).take i).getD n noE).ok=true:=by rw[Up hn];exact Ph hPB (by omega)
 refine ao (by rw[Cq,BA,List.length_take];omega) λo106=>?_;refine ao (by omega) λo107=>?_
 refine⟨(((edA ls).getD i noE),(((edA ls).take i).getD n noE)),by
  rw[Bz hil,Cq,Bz c4];rfl,by
  exact⟨c0,c5⟩,?_⟩
 refine And.symm ⟨λaC=>?_,λaC=>?_⟩;simp only[nrm]at aC
 refine⟨n+1,by
  trivial,by
  omega,?_⟩
 refine⟨rfl,?_,rfl,rfl,rfl,rfl,rfl,rfl,rfl,rfl,rfl,rfl,rfl,rfl,rfl,rfl,?_⟩;exact AU (AB (by omega) (by omega));exact AAM (IU hn (Nat.le_of_lt hil) _ _) aC;simp only[nrm]at aC;refine ao (by rw[Ao];refine Nat.le_trans (Nat.add_le_add_right (Lo _) _) ?_;have bU:=(c1 n 0).1;simp only[List.length_append,List.length_cons,List.length_nil]at bU ⊢;omega) λo112=>?_
 refine⟨n+1,by
  trivial,by
  omega,?_⟩
 refine⟨rfl,?_,rfl,rfl,rfl,rfl,rfl,rfl,rfl,rfl,rfl,rfl,rfl,rfl,rfl,rfl,?_⟩;exact AU (AB (by omega) (by omega));exact TQ (IU hn (Nat.le_of_lt hil) _ _) aC;simp only[nrm]at aB;rw[Cq,BA,List.length_take]at aB;have bR:n=i:=by omega
 refine⟨⟨0,by trivial,?_⟩,?_⟩;refine⟨rfl,rfl,?_,rfl,rfl,rfl,rfl,rfl,rfl,rfl,rfl,rfl,rfl,rfl,rfl,rfl,?_⟩;rfl;rw[Ze,bR];intro (m:Nat) aD;have aD:m<=2:=aD;refine And.symm ⟨λaE=>?_,λaE=>?_⟩;simp only[nrm]at aE;have hm2:m=2:=by simp only[List.length_cons,List.length_nil]at aE;omega
 refine⟨i+1,by
  trivial,by
  omega,?_⟩
 refine⟨?_,rfl,rfl,rfl,rfl,rfl,rfl,?_⟩;exact AU (AB (by omega) (by omega));rw[Zd hm2];simp only[nrm]at aE;have hm2:m<2:=by simp only[List.length_cons,List.length_nil]at aE;omega
 refine ao (by omega) λo173=>?_;refine ao (by omega) λo174=>?_
 refine⟨(((edA ls).getD i noE),(([[Dat.int ly],[Dat.int hy]].getD m []).getD 0 (.int 0)).n),by
  rw[Bz hil];rfl,by
  try dsimp only[Hp]
  exact⟨c0,ABy a1.2.2.2.1 a1.2.2.2.2.2 hm2⟩,?_⟩
 refine And.symm ⟨λaF=>?_,λaF=>?_⟩;simp only[nrm]at aF
 refine⟨m+1,by
  trivial,by
  omega,?_⟩
 refine⟨rfl,rfl,?_,rfl,rfl,rfl,rfl,rfl,rfl,rfl,rfl,rfl,rfl,rfl,rfl,rfl,?_⟩;exact AU (AB (by omega) (by omega));exact AAM (Uu hm2 _ _ _) aF;simp only[nrm]at aF;refine ao (by rw[Ao];refine Nat.le_trans (Nat.add_le_add_right (Lo _) _) ?_;have bU:=(c1 i m).1;simp only[List.length_append,List.length_cons,List.length_nil]at bU ⊢;omega) λo179=>?_
 refine⟨m+1,by
  trivial,by
  omega,?_⟩
 refine⟨rfl,rfl,?_,rfl,rfl,rfl,rfl,rfl,rfl,rfl,rfl,rfl,rfl,rfl,rfl,rfl,?_⟩;exact AU (AB (by omega) (by omega));exact TQ (Uu hm2 _ _ _) aF
theorem WQ{l:List Fr}{k:Nat}(h:k<l.length):AC (l.take k)++[frD (l.getD k Fr.none)]=AC (l.take (k+1)):=by rw[List.take_add_one,List.getElem?_eq_getElem h,Jj];simp[AC,List.getD,h]
def FZ:Con:={ι:=(List Fr),pre:=λi=>i.length<=2000000000000,args:=λi=>[.one (DC.sl 44 z30 (AC i))],res:=λi=>⟨false,[none],[.own 44 [.bool,.sl 3 [.int],.sl 3 [.int]] (AC i)]⟩}
theorem TX:FZ.Ok Tryz.prog 63:=by
 refine fok (X:=⟨tt,[(71,A6)],[],20,[]⟩) mixed AG (CTok.cons OU (CTok.nil _)) Tryz.func63 (λ(i:(List Fr))=>[(3,.mk 3 (Nat) (λx1=>{tm:=[(7,tX 1),(8,tI (nI ((AC i).length))),(9,tI (nI x1)),(3,tX 2)],en:=[(1,.view 44 z30 (AC i) []),(2,.own 44 z30 (AC (i.take x1)))]}) (λx1=>x1<=i.length) (λx1=>i.length-x1) (λ_=>[]))]) ?_;intro (l:List Fr) a0;have a0:l.length<=2000000000000:=a0;refine AH (q:=let Z4:=List Dat;let Z1:=nI ((AC l).length);(∃x1:Nat,(x1<=l.length)/\((rf (vI Z1))/\(vI (0:Int)=vI (nI x1))/\(rf (AC l))/\(([]:List Z4)=(AC (l.take x1)))))/\∀x1:Nat,let Z3:=AC (l.take x1);let Z2:=(AC l).getD x1 [];(x1<=l.length)->(ifB ((decide ((nI x1)<Z1))) ((0<=(nI x1)/\(nI x1)<((AC l).length:Int))/\((x1<(AC l).length)/\(∃i1:Bool×(List Z4)×(List Z4),[DA.agg [cB (((Z2.getD 0 (.int 0))).b),cS (((Z2.getD 1 (.int 0))).r),cS (((Z2.getD 2 (.int 0))).r)]]=A6.args i1/\A6.pre i1/\((Z3.length+([[Dat.bool i1.1,Dat.sl i1.2.1,Dat.sl i1.2.2]]:List Z4).length<=2199023255552)/\(∃y2:Nat,(y2<=l.length)/\(l.length-y2<l.length-x1)/\((rf (vI Z1))/\(vI (wR ((nI x1)+(1:Int)))=vI (nI y2))/\(rf (AC l))/\((Z3++([[Dat.bool i1.1,Dat.sl i1.2.1,Dat.sl i1.2.2]]:List Z4))=(AC (l.take y2))))))))) ((Z3=AC l)))) (by kernel_rfl) ?_;conv=>zeta
 delta ifB vI wR nI;have hfl:=Ao l;refine⟨⟨0,by omega,?_⟩,?_⟩;refine⟨rfl,?_,rfl,?_⟩;rfl;rfl;intro (k:Nat) a1;have a1:k<=l.length:=a1;refine And.symm ⟨λc7=>?_,λc7=>?_⟩;simp only[nrm]at c7;rw[List.take_of_length_le (by omega)];simp only[nrm]at c7;have hk:k<l.length:=by omega
 have h1:=(l.getD k Fr.none).nlz;have h2:=(l.getD k Fr.none).nld;have htl:=Ao (l.take k);have htk:=List.length_take (i:=k) (l:=l);refine ao (by omega) λo8=>?_;refine ao (by omega) λo9=>?_
 refine⟨(decide ((l.getD k Fr.none).z<0),L (l.getD k Fr.none).z.natAbs,L (l.getD k Fr.none).d),by
  rw[B0 hk];rfl,by
  exact⟨by rw[AJ];omega,by rw[AJ];omega⟩,?_⟩
 refine ao (by simp only[List.length_cons,List.length_nil];omega) λo13=>?_
 refine⟨k+1,by
  trivial,by
  omega,?_⟩
 refine⟨rfl,?_,rfl,?_⟩;exact AU (AB (by omega) (by omega));exact WQ hk
def EG:Con:={ι:=Int×Int×Int×Int×(List (List V2)),pre:=λi=>i.2.2.2.2.length<=1048576/\ER i.2.2.2.2 i.2.2.2.2.length<=1048576/\(-9223372036854775808<=i.1/\i.1<=9223372036854775807)/\(-9223372036854775808<=i.2.1/\i.2.1<=9223372036854775807)/\(-9223372036854775808<=i.2.2.1/\i.2.2.1<=9223372036854775807)/\(-9223372036854775808<=i.2.2.2.1/\i.2.2.2.1<=9223372036854775807),args:=λi=>[DA.agg [cI i.1,cI i.2.1,cI i.2.2.1,cI i.2.2.2.1],.one (DC.sl 66 [.sl 36 [.int,.int]] (AN i.2.2.2.2))],res:=λi=>⟨false,[none],[.own 44 [.bool,.sl 3 [.int],.sl 3 [.int]] (AC (evR i.1 i.2.1 i.2.2.1 i.2.2.2.1 i.2.2.2.2))]⟩}
theorem Pr:EG.Ok Tryz.prog 34:=by
 refine fok (X:=⟨tt,[(62,Cr),(64,EN),(63,FZ)],[],21,[]⟩) mixed AG (CTok.cons NG (CTok.cons TW (CTok.cons TX (CTok.nil _)))) Tryz.func34 (λ_=>[]) ?_;rintro⟨lx,ly,hx,hy,ls⟩ a0;have a0:ls.length<=1048576/\ER ls ls.length<=1048576/\(-9223372036854775808<=lx/\lx<=9223372036854775807)/\(-9223372036854775808<=ly/\ly<=9223372036854775807)/\(-9223372036854775808<=hx/\hx<=9223372036854775807)/\(-9223372036854775808<=hy/\hy<=9223372036854775807):=a0;refine AH (q:=let Z2:=DC.sl 66 [.sl 36 [.int,.int]] (AN ls);let Z1:=(([]:List (List Dat))=AC (evR lx ly hx hy ls));∃i1:(List (List V2)),[DA.one Z2]=Cr.args i1/\Cr.pre i1/\(ifB ((!(!(A0 i1)))) (ifB ((decide (lx>=hx))) Z1 (∃i2:Int×Int×Int×Int×(List (List V2)),[DA.agg [cI lx,cI ly,cI hx,cI hy],DA.one Z2]=EN.args i2/\EN.pre i2/\(∃i3:(List Fr),[DA.one (DC.sl 44 z30 (AC (CM [] (evF (Fr.ofInt i2.1) (Fr.ofInt i2.2.2.1) (cA i2.2.2.2.2 i2.2.2.2.2.length++cE (edA i2.2.2.2.2) i2.2.1 i2.2.2.2.1 (edA i2.2.2.2.2).length)++[Fr.ofInt i2.1,Fr.ofInt i2.2.2.1]))))]=FZ.args i3/\FZ.pre i3/\((AC i3=AC (evR lx ly hx hy ls)))))) Z1)) (by kernel_rfl) ?_;conv=>zeta
 delta ifB;have hal:=A8 ls
 refine⟨ls,by
  rfl,by
  show ls.length<=9223372036854775807;omega,?_⟩
 refine And.symm ⟨λc4=>?_,λc4=>?_⟩;simp only[nrm]at c4;have hE:evR lx ly hx hy ls=[]:=NN (λh=>by rw[h.1]at c4;cases c4);rw[hE];rfl;simp only[nrm]at c4;refine⟨λc5=>?_,λc5=>?_⟩;simp only[nrm]at c5;have hE:evR lx ly hx hy ls=[]:=NN (λh=>absurd h.2 (by omega));rw[hE];rfl;simp only[nrm]at c5;have a1:Pj ls:=⟨c4,a0.1,a0.2.1⟩;have a3:=(Pk a1 (lo:=Fr.ofInt lx) (hi:=Fr.ofInt hx) (ly:=ly) (hy:=hy) (Nat.le_refl _) 0).2;rw[Ao]at a3;have a2:=Ka (evF (Fr.ofInt lx) (Fr.ofInt hx) (cA ls ls.length++cE (edA ls) ly hy (edA ls).length)++[Fr.ofInt lx,Fr.ofInt hx]) [];rw[List.length_append]at a2;simp only[List.length_cons,List.length_nil]at a2
 refine⟨(lx,ly,hx,hy,ls),by
  rfl,by
  try dsimp only[EN]
  exact⟨a1,a0.2.2⟩,?_⟩
 refine⟨(CM [] (evF (Fr.ofInt lx) (Fr.ofInt hx) (cA ls ls.length++cE (edA ls) ly hy (edA ls).length)++[Fr.ofInt lx,Fr.ofInt hx])),by
  rfl,by
  show(CM [] (evF (Fr.ofInt lx) (Fr.ofInt hx) (cA ls ls.length++cE (edA ls) ly hy (edA ls).length)++[Fr.ofInt lx,Fr.ofInt hx])).length<=2000000000000;omega,?_⟩
 rw[ZY c4 c5 a0.2.2.1 a0.2.2.2.2.1]
end Go.Proofs.YthoidhehmmcgnaaGreat
