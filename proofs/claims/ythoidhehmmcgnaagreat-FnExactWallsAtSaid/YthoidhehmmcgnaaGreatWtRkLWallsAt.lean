import Derived.Test.YthoidhehmmcgnaaGreatWtRkB
import Derived.Test.YthoidhehmmcgnaaGreatWtMrk
import Derived.Test.YthoidhehmmcgnaaGreatWtTyB
import Derived.Test.YthoidhehmmcgnaaGreatWtRkSt
namespace Go.Proofs.YthoidhehmmcgnaaGreat
set_option maxRecDepth 100000
set_option linter.unusedVariables false
set_option linter.unusedSimpArgs false
open Go.RowKit
def Ag:Con:={ι:=(List (List Dat))×Int,pre:=λi=>Dat.has (.sl 3 [.int]) (.sl i.1)/\0<=i.2/\i.2+(AA i.1:Int)<=4611686018427387904,args:=λi=>[.one (cS i.1),.one (cI i.2)],mu:=[0],new:=λi=>[Ac i.2 i.1],res:=λi=>⟨false,[none],[rcI (i.2+(AA i.1:Int))]⟩}
theorem Ht:Ag.Ok Tryz.prog 44:=by
 refine fok (X:=⟨tt,[],[],19,[]⟩) mixed AG (CTok.nil _) Tryz.func44 (λ(i:(List (List Dat))×Int)=>[(2,.mk 2 (Nat×Int) (λx1=>{tm:=[(0,tX 1),(1,tI x1.2),(5,tI (nI x1.1))],en:=[(1,.mu 3 [.int] (BE i.2 x1.1 i.1) 0)]}) (λx1=>x1.1<=i.1.length/\x1.2=i.2+(AA (i.1.take x1.1):Int)) (λx1=>i.1.length-x1.1) (λ_=>[]))]) ?_;rintro⟨l,k⟩ a2;have a2:Dat.has (.sl 3 [.int]) (.sl l)/\0<=k/\k+(AA l:Int)<=4611686018427387904:=a2;refine AH (q:=(∃x1:Nat×Int,(x1.1<=l.length/\x1.2=k+(AA (l.take x1.1):Int))/\((vI k=vI x1.2)/\(vI (0:Int)=vI (nI x1.1))/\(l=(BE k x1.1 l))))/\∀x1:Nat×Int,let Z1:=BE k x1.1 l;(x1.1<=l.length/\x1.2=k+(AA (l.take x1.1):Int))->(ifB ((decide ((nI x1.1)<(nI (Z1.length))))) ((0<=(nI x1.1)/\(nI x1.1)<(Z1.length:Int))/\((x1.1<Z1.length)/\(∀R1:List (List Dat),R1=Fh Z1 x1.1 0 (Dat.int x1.2)->(∃y2:Nat×Int,(y2.1<=l.length/\y2.2=k+(AA (l.take y2.1):Int))/\(l.length-y2.1<l.length-x1.1)/\((vI (wR (x1.2+(1:Int)))=vI y2.2)/\(vI (wR ((nI x1.1)+(1:Int)))=vI (nI y2.1))/\(R1=(BE k y2.1 l))))))) ((vI x1.2=vI (k+(AA l:Int)))/\(Z1=(Ac k l))))) (by kernel_rfl) ?_;conv=>zeta
 delta ifB vI wR nI;obtain⟨hh,h0,h1⟩:=a2;have hl:=GR hh;have hh2:=Dl hh;refine⟨⟨(0,k),by exact⟨Nat.zero_le _,by simp[AA]⟩,?_⟩,?_⟩;refine⟨rfl,?_,?_⟩;rfl;rfl;rintro⟨j,m⟩ a0;have a0:j<=l.length/\m=k+(AA (l.take j):Int):=a0;have a3:=Bj k j l;refine And.symm ⟨λc6=>?_,λc6=>?_⟩;simp only[nrm]at c6;rw[a3]at c6;refine⟨?_,?_⟩;exact AU (Id (by omega) a0.2);exact G3 a0.1 (by omega);simp only[nrm]at c6;rw[a3]at c6;have hj:j<l.length:=by omega
 have a1:=hh2 j hj;have a4:=GM hj a0.2;have h0m:0<=m:=by have:=Ki a0.2;omega
 have a5:m+(Aj (l.getD j []):Int)<=4611686018427387904:=by omega
 have e:=Ju (k:=k) (m:=m) hj;have hk:=(Ib m (l.getD j [])).symm;have hL:=a3;refine ao (by exact ixI hL hj) λo7=>?_;refine ao (by exact ixL hL hj) λo8=>?_;intro R1 hR1;have e:=mk_int hj a1 (c:=0) rfl e hk hR1;have hk:=P3 a1 (c:=0) rfl hk h0m a5;have hL:=mkL e
 refine⟨(j+1,m+(Aj (l.getD j []):Int)),by
  exact⟨hj,a4.1⟩,by
  exact Or hj,?_⟩
 refine⟨?_,?_,?_⟩;exact AU (Ot a1 (by decide) hk);exact AU (Kh hl hj);exact P4 hj a1 (by decide) e a0.2
def Ds:Con:={ι:=(List (List Dat))×Int,pre:=λi=>Dat.has (.sl 36 [.int,.int]) (.sl i.1)/\0<=i.2/\i.2+(AA i.1:Int)<=4611686018427387904,args:=λi=>[.one (DC.sl 36 [.int,.int] i.1),.one (cI i.2)],mu:=[0],new:=λi=>[Ac i.2 i.1],res:=λi=>⟨false,[none],[rcI (i.2+(AA i.1:Int))]⟩}
theorem Rz:Ds.Ok Tryz.prog 42:=by
 refine fok (X:=⟨tt,[],[],27,[]⟩) mixed AG (CTok.nil _) Tryz.func42 (λ(i:(List (List Dat))×Int)=>[(2,.mk 2 (Nat×Int) (λx1=>{tm:=[(0,tX 1),(1,tI x1.2),(5,tI (nI x1.1))],en:=[(1,.mu 36 [.int,.int] (BE i.2 x1.1 i.1) 0)]}) (λx1=>x1.1<=i.1.length/\x1.2=i.2+(AA (i.1.take x1.1):Int)) (λx1=>i.1.length-x1.1) (λ_=>[]))]) ?_;rintro⟨l,k⟩ a2;have a2:Dat.has (.sl 36 [.int,.int]) (.sl l)/\0<=k/\k+(AA l:Int)<=4611686018427387904:=a2;refine AH (q:=(∃x1:Nat×Int,(x1.1<=l.length/\x1.2=k+(AA (l.take x1.1):Int))/\((vI k=vI x1.2)/\(vI (0:Int)=vI (nI x1.1))/\(l=(BE k x1.1 l))))/\∀x1:Nat×Int,let Z1:=BE k x1.1 l;(x1.1<=l.length/\x1.2=k+(AA (l.take x1.1):Int))->(ifB ((decide ((nI x1.1)<(nI (Z1.length))))) ((0<=(nI x1.1)/\(nI x1.1)<(Z1.length:Int))/\((x1.1<Z1.length)/\((x1.1<Z1.length)/\(∀R1:List (List Dat),R1=Fh Z1 x1.1 0 (Dat.int x1.2)->((0<=(nI x1.1)/\(nI x1.1)<(R1.length:Int))/\((x1.1<R1.length)/\((x1.1<R1.length)/\(∀R2:List (List Dat),R2=Fh R1 x1.1 1 (Dat.int (wR (x1.2+(1:Int))))->(∃y2:Nat×Int,(y2.1<=l.length/\y2.2=k+(AA (l.take y2.1):Int))/\(l.length-y2.1<l.length-x1.1)/\((vI (wR ((wR (x1.2+(1:Int)))+(1:Int)))=vI y2.2)/\(vI (wR ((nI x1.1)+(1:Int)))=vI (nI y2.1))/\(R2=(BE k y2.1 l)))))))))))) ((vI x1.2=vI (k+(AA l:Int)))/\(Z1=(Ac k l))))) (by kernel_rfl) ?_;conv=>zeta
 delta ifB vI wR nI;obtain⟨hh,h0,h1⟩:=a2;have hl:=GR hh;have hh2:=Dl hh;refine⟨⟨(0,k),by exact⟨Nat.zero_le _,by simp[AA]⟩,?_⟩,?_⟩;refine⟨rfl,?_,?_⟩;rfl;rfl;rintro⟨j,m⟩ a0;have a0:j<=l.length/\m=k+(AA (l.take j):Int):=a0;have a3:=Bj k j l;refine And.symm ⟨λc6=>?_,λc6=>?_⟩;simp only[nrm]at c6;rw[a3]at c6;refine⟨?_,?_⟩;exact AU (Id (by omega) a0.2);exact G3 a0.1 (by omega);simp only[nrm]at c6;rw[a3]at c6;have hj:j<l.length:=by omega
 have a1:=hh2 j hj;have a5:=GM hj a0.2;have h0m:0<=m:=by have:=Ki a0.2;omega
 have a4:m+(Aj (l.getD j []):Int)<=4611686018427387904:=by omega
 have e:=Ju (k:=k) (m:=m) hj;have hk:=(Ib m (l.getD j [])).symm;have hL:=a3;refine ao (by exact ixI hL hj) λo7=>?_;refine ao (by exact ixL hL hj) λo8=>?_;refine ao (by exact ixL hL hj) λo9=>?_;intro R1 hR1;have e:=mk_int hj a1 (c:=0) rfl e hk hR1;have hk:=P3 a1 (c:=0) rfl hk h0m a4;have hL:=mkL e;refine ao (by exact ixI hL hj) λo11=>?_;refine ao (by exact ixL hL hj) λo12=>?_;refine ao (by exact ixL hL hj) λo13=>?_;intro R2 hR2;have e:=mk_int hj a1 (c:=1) rfl e hk hR2;have hk:=P3 a1 (c:=1) rfl hk h0m a4;have hL:=mkL e
 refine⟨(j+1,m+(Aj (l.getD j []):Int)),by
  exact⟨hj,a5.1⟩,by
  exact Or hj,?_⟩
 refine⟨?_,?_,?_⟩;exact AU (Ot a1 (by decide) hk);exact AU (Kh hl hj);exact P4 hj a1 (by decide) e a0.2
def EH:Con:={ι:=(List (List Dat))×Int,pre:=λi=>Dat.has (.sl 66 [.sl 36 [.int,.int]]) (.sl i.1)/\0<=i.2/\i.2+(AA i.1:Int)<=4611686018427387904,args:=λi=>[.one (DC.sl 66 [.sl 36 [.int,.int]] i.1),.one (cI i.2)],mu:=[0],new:=λi=>[Ac i.2 i.1],res:=λi=>⟨false,[none],[rcI (i.2+(AA i.1:Int))]⟩}
theorem P7:EH.Ok Tryz.prog 15:=by
 refine fok (X:=⟨tt,[(42,Ds)],[],19,[]⟩) mixed AG (CTok.cons Rz (CTok.nil _)) Tryz.func15 (λ(i:(List (List Dat))×Int)=>[(2,.mk 2 (Nat×Int) (λx1=>{tm:=[(0,tX 1),(1,tI x1.2),(5,tI (nI x1.1))],en:=[(1,.mu 66 [.sl 36 [.int,.int]] (BE i.2 x1.1 i.1) 0)]}) (λx1=>x1.1<=i.1.length/\x1.2=i.2+(AA (i.1.take x1.1):Int)) (λx1=>i.1.length-x1.1) (λ_=>[]))]) ?_;rintro⟨l,k⟩ a2;have a2:Dat.has (.sl 66 [.sl 36 [.int,.int]]) (.sl l)/\0<=k/\k+(AA l:Int)<=4611686018427387904:=a2;refine AH (q:=(∃x1:Nat×Int,(x1.1<=l.length/\x1.2=k+(AA (l.take x1.1):Int))/\((vI k=vI x1.2)/\(vI (0:Int)=vI (nI x1.1))/\(l=(BE k x1.1 l))))/\∀x1:Nat×Int,let Z1:=BE k x1.1 l;let Z2:=(Z1.getD x1.1 []).getD 0 (.int 0);(x1.1<=l.length/\x1.2=k+(AA (l.take x1.1):Int))->(ifB ((decide ((nI x1.1)<(nI (Z1.length))))) ((0<=(nI x1.1)/\(nI x1.1)<(Z1.length:Int))/\((x1.1<Z1.length)/\(∃i1:(List (List Dat))×Int,[DA.one (DC.sl 36 [.int,.int] ((Z2).r)),DA.one (cI x1.2)]=Ds.args i1/\Ds.pre i1/\((x1.1<Z1.length)/\(((Z2).r=Z2.r)/\(∀R1:List (List Dat),R1=Fh Z1 x1.1 0 (.sl (Ac i1.2 i1.1))->(∃y2:Nat×Int,(y2.1<=l.length/\y2.2=k+(AA (l.take y2.1):Int))/\(l.length-y2.1<l.length-x1.1)/\((vI (i1.2+(AA i1.1:Int))=vI y2.2)/\(vI (wR ((nI x1.1)+(1:Int)))=vI (nI y2.1))/\(R1=(BE k y2.1 l)))))))))) ((vI x1.2=vI (k+(AA l:Int)))/\(Z1=(Ac k l))))) (by kernel_rfl) ?_;conv=>zeta
 delta ifB vI wR nI;obtain⟨hh,h0,h1⟩:=a2;have hl:=GR hh;have hh2:=Dl hh;refine⟨⟨(0,k),by exact⟨Nat.zero_le _,by simp[AA]⟩,?_⟩,?_⟩;refine⟨rfl,?_,?_⟩;rfl;rfl;rintro⟨j,m⟩ a0;have a0:j<=l.length/\m=k+(AA (l.take j):Int):=a0;have a3:=Bj k j l;refine And.symm ⟨λc6=>?_,λc6=>?_⟩;simp only[nrm]at c6;rw[a3]at c6;refine⟨?_,?_⟩;exact AU (Id (by omega) a0.2);exact G3 a0.1 (by omega);simp only[nrm]at c6;rw[a3]at c6;have hj:j<l.length:=by omega
 have a1:=hh2 j hj;have a4:=GM hj a0.2;have h0m:0<=m:=by have:=Ki a0.2;omega
 have a5:m+(Aj (l.getD j []):Int)<=4611686018427387904:=by omega
 have e:=Ju (k:=k) (m:=m) hj;have hk:=(Ib m (l.getD j [])).symm;have hL:=a3;refine ao (by exact ixI hL hj) λo7=>?_;refine ao (by exact ixL hL hj) λo8=>?_
 refine⟨((((l.getD j []).getD 0 (.int 0)).r),(cn m (l.getD j []) 0)),by
  exact Tw hj e hk,by
  try dsimp only[Ds]
  exact Kg a1 (c:=0) rfl h0m a5,?_⟩
 refine ao (by exact ixL hL hj) λo12=>?_;refine ao (by rfl) λo13=>?_;intro R1 hR1;have e:=NY hj a1 (c:=0) rfl e hR1;have hk:=Fd (m:=m) a1 (c:=0) rfl;have hL:=mkL e
 refine⟨(j+1,m+(Aj (l.getD j []):Int)),by
  exact⟨hj,a4.1⟩,by
  exact Or hj,?_⟩
 refine⟨?_,?_,?_⟩;exact AU (Ot a1 (by decide) hk);exact AU (Kh hl hj);exact P4 hj a1 (by decide) e a0.2
def C8:Con:={ι:=(List (List Dat))×Int,pre:=λi=>Dat.has (.sl 81 [.bool,.sl 3 [.int],.sl 3 [.int],.bool,.sl 3 [.int],.sl 3 [.int],.bool,.sl 3 [.int],.sl 3 [.int]]) (.sl i.1)/\0<=i.2/\i.2+(AA i.1:Int)<=4611686018427387904,args:=λi=>[.one (DC.sl 81 z80 i.1),.one (cI i.2)],mu:=[0],new:=λi=>[Ac i.2 i.1],res:=λi=>⟨false,[none],[rcI (i.2+(AA i.1:Int))]⟩}
theorem P8:C8.Ok Tryz.prog 22:=by
 refine fok (X:=⟨tt,[(44,Ag)],[],97,[]⟩) mixed AG (CTok.cons Ht (CTok.nil _)) Tryz.func22 (λ(i:(List (List Dat))×Int)=>[(2,.mk 2 (Nat×Int) (λx1=>{tm:=[(0,tX 1),(1,tI x1.2),(5,tI (nI x1.1))],en:=[(1,.mu 81 z80 (BE i.2 x1.1 i.1) 0)]}) (λx1=>x1.1<=i.1.length/\x1.2=i.2+(AA (i.1.take x1.1):Int)) (λx1=>i.1.length-x1.1) (λ_=>[]))]) ?_;rintro⟨l,k⟩ a3;have a3:Dat.has (.sl 81 [.bool,.sl 3 [.int],.sl 3 [.int],.bool,.sl 3 [.int],.sl 3 [.int],.bool,.sl 3 [.int],.sl 3 [.int]]) (.sl l)/\0<=k/\k+(AA l:Int)<=4611686018427387904:=a3
 refine AH (q:=let aC:=(3:Int)≠0;let Z2:=List Dat;(∃x1:Nat×Int,(x1.1<=l.length/\x1.2=k+(AA (l.take x1.1):Int))/\((vI k=vI x1.2)/\(vI (0:Int)=vI (nI x1.1))/\(l=(BE k x1.1 l))))/\∀x1:Nat×Int,let Z1:=BE k x1.1 l;let a6:=x1.1<Z1.length;(x1.1<=l.length/\x1.2=k+(AA (l.take x1.1):Int))->(ifB ((decide ((nI x1.1)<(nI (Z1.length))))) (aC/\((0<=(nI x1.1)/\(nI x1.1)<(Z1.length:Int))/\(a6/\(a6/\(a6/\(a6/\(∀R1:List Z2,let Z9:=x1.1<R1.length;let Z3:=(R1.getD x1.1 []).getD 1 (.int 0);R1=Fh Z1 x1.1 0 (Dat.bool ((Int.tmod x1.2 (3:Int)) == (0:Int)))->((0<=(nI x1.1)/\(nI x1.1)<(R1.length:Int))/\(Z9/\(Z9/\(Z9/\(Z9/\(∃i2:(List Z2)×Int,[DA.one (cS ((Z3).r)),DA.one (cI (wR (x1.2+(1:Int))))]=Ag.args i2/\Ag.pre i2/\(Z9/\(((Z3).r=Z3.r)/\(∀R2:List Z2,let a7:=x1.1<R2.length;let Z4:=(R2.getD x1.1 []).getD 2 (.int 0);R2=Fh R1 x1.1 1 (.sl (Ac i2.2 i2.1))->((0<=(nI x1.1)/\(nI x1.1)<(R2.length:Int))/\(a7/\(a7/\(a7/\(∃i3:(List Z2)×Int,let aE:=i3.2+(AA i3.1:Int);[DA.one (cS ((Z4).r)),DA.one (cI (i2.2+(AA i2.1:Int)))]=Ag.args i3/\Ag.pre i3/\(a7/\(((Z4).r=Z4.r)/\(∀R3:List Z2,let a8:=x1.1<R3.length;R3=Fh R2 x1.1 2 (.sl (Ac i3.2 i3.1))->(aC/\((0<=(nI x1.1)/\(nI x1.1)<(R3.length:Int))/\(a8/\(a8/\(a8/\(a8/\(∀R4:List Z2,let a4:=x1.1<R4.length;let Z5:=(R4.getD x1.1 []).getD 4 (.int 0);R4=Fh R3 x1.1 3 (Dat.bool ((Int.tmod aE (3:Int)) == (0:Int)))->((0<=(nI x1.1)/\(nI x1.1)<(R4.length:Int))/\(a4/\(a4/\(a4/\(a4/\(∃i5:(List Z2)×Int,[DA.one (cS ((Z5).r)),DA.one (cI (wR (aE+(1:Int))))]=Ag.args i5/\Ag.pre i5/\(a4/\(((Z5).r=Z5.r)/\(∀R5:List Z2,let a9:=x1.1<R5.length;let Z6:=(R5.getD x1.1 []).getD 5 (.int 0);R5=Fh R4 x1.1 4 (.sl (Ac i5.2 i5.1))->((0<=(nI x1.1)/\(nI x1.1)<(R5.length:Int))/\(a9/\(a9/\(a9/\(∃i6:(List Z2)×Int,let aF:=i6.2+(AA i6.1:Int);[DA.one (cS ((Z6).r)),DA.one (cI (i5.2+(AA i5.1:Int)))]=Ag.args i6/\Ag.pre i6/\(a9/\(((Z6).r=Z6.r)/\(∀R6:List Z2,let aA:=x1.1<R6.length;R6=Fh R5 x1.1 5 (.sl (Ac i6.2 i6.1))->(aC/\((0<=(nI x1.1)/\(nI x1.1)<(R6.length:Int))/\(aA/\(aA/\(aA/\(aA/\(∀R7:List Z2,let a5:=x1.1<R7.length;let Z7:=(R7.getD x1.1 []).getD 7 (.int 0);R7=Fh R6 x1.1 6 (Dat.bool ((Int.tmod aF (3:Int)) == (0:Int)))->((0<=(nI x1.1)/\(nI x1.1)<(R7.length:Int))/\(a5/\(a5/\(a5/\(a5/\(∃i8:(List Z2)×Int,[DA.one (cS ((Z7).r)),DA.one (cI (wR (aF+(1:Int))))]=Ag.args i8/\Ag.pre i8/\(a5/\(((Z7).r=Z7.r)/\(∀R8:List Z2,let aB:=x1.1<R8.length;let Z8:=(R8.getD x1.1 []).getD 8 (.int 0);R8=Fh R7 x1.1 7 (.sl (Ac i8.2 i8.1))->((0<=(nI x1.1)/\(nI x1.1)<(R8.length:Int))/\(aB/\(aB/\(aB/\(∃i9:(List Z2)×Int,[DA.one (cS ((Z8).r)),DA.one (cI (i8.2+(AA i8.1:Int)))]=Ag.args i9/\Ag.pre i9/\(aB/\(((Z8).r=Z8.r)/\(∀R9:List Z2,R9=Fh R8 x1.1 8 (.sl (Ac i9.2 i9.1))->(∃y2:Nat×Int,(y2.1<=l.length/\y2.2=k+(AA (l.take y2.1):Int))/\(l.length-y2.1<l.length-x1.1)/\((vI (i9.2+(AA i9.1:Int))=vI y2.2)/\(vI (wR ((nI x1.1)+(1:Int)))=vI (nI y2.1))/\(R9=(BE k y2.1 l)))))))))))))))))))))))))))))))))))))))))))))))))))))))))))))))))))))))))))) ((vI x1.2=vI (k+(AA l:Int)))/\(Z1=(Ac k l))))) (by kernel_rfl) ?_
 conv=>zeta
 delta ifB vI wR nI;obtain⟨hh,h0,h1⟩:=a3;have hl:=GR hh;have hh2:=Dl hh;refine⟨⟨(0,k),by exact⟨Nat.zero_le _,by simp[AA]⟩,?_⟩,?_⟩;refine⟨rfl,?_,?_⟩;rfl;rfl;rintro⟨j,m⟩ a1;have a1:j<=l.length/\m=k+(AA (l.take j):Int):=a1;have aD:=Bj k j l;refine And.symm ⟨λc6=>?_,λc6=>?_⟩;simp only[nrm]at c6;rw[aD]at c6;refine⟨?_,?_⟩;exact AU (Id (by omega) a1.2);exact G3 a1.1 (by omega);simp only[nrm]at c6;rw[aD]at c6;have hj:j<l.length:=by omega
 have a0:=hh2 j hj;have aG:=GM hj a1.2;have h0m:0<=m:=by have:=Ki a1.2;omega
 have a2:m+(Aj (l.getD j []):Int)<=4611686018427387904:=by omega
 have e:=Ju (k:=k) (m:=m) hj;have hk:=(Ib m (l.getD j [])).symm;have hL:=aD;refine ao (by omega) λo7=>?_;refine ao (by exact ixI hL hj) λo8=>?_;refine ao (by exact ixL hL hj) λo9=>?_;refine ao (by exact ixL hL hj) λo10=>?_;refine ao (by exact ixL hL hj) λo11=>?_;refine ao (by exact ixL hL hj) λo12=>?_;intro R1 hR1;have e:=mk_bool hj a0 (c:=0) rfl e hk h0m hR1;have hk:=Ic a0 (c:=0) rfl hk h0m a2;have hL:=mkL e;refine ao (by exact ixI hL hj) λo14=>?_;refine ao (by exact ixL hL hj) λo15=>?_;refine ao (by exact ixL hL hj) λo16=>?_;refine ao (by exact ixL hL hj) λo17=>?_;refine ao (by exact ixL hL hj) λo18=>?_
 refine⟨((((l.getD j []).getD 1 (.int 0)).r),(cn m (l.getD j []) 1)),by
  exact Tw hj e hk,by
  exact Kg a0 (c:=1) rfl h0m a2,?_⟩
 refine ao (by exact ixL hL hj) λo22=>?_;refine ao (by rfl) λo23=>?_;intro R2 hR2;have e:=NY hj a0 (c:=1) rfl e hR2;have hk:=Fd (m:=m) a0 (c:=1) rfl;have hL:=mkL e;refine ao (by exact ixI hL hj) λo25=>?_;refine ao (by exact ixL hL hj) λo26=>?_;refine ao (by exact ixL hL hj) λo27=>?_;refine ao (by exact ixL hL hj) λo28=>?_
 refine⟨((((l.getD j []).getD 2 (.int 0)).r),(cn m (l.getD j []) 2)),by
  exact Tw hj e hk,by
  exact Kg a0 (c:=2) rfl h0m a2,?_⟩
 refine ao (by exact ixL hL hj) λo32=>?_;refine ao (by rfl) λo33=>?_;intro R3 hR3;have e:=NY hj a0 (c:=2) rfl e hR3;have hk:=Fd (m:=m) a0 (c:=2) rfl;have hL:=mkL e;refine ao (by omega) λo35=>?_;refine ao (by exact ixI hL hj) λo36=>?_;refine ao (by exact ixL hL hj) λo37=>?_;refine ao (by exact ixL hL hj) λo38=>?_;refine ao (by exact ixL hL hj) λo39=>?_;refine ao (by exact ixL hL hj) λo40=>?_;intro R4 hR4;have e:=mk_bool hj a0 (c:=3) rfl e hk h0m hR4;have hk:=Ic a0 (c:=3) rfl hk h0m a2;have hL:=mkL e;refine ao (by exact ixI hL hj) λo42=>?_;refine ao (by exact ixL hL hj) λo43=>?_;refine ao (by exact ixL hL hj) λo44=>?_;refine ao (by exact ixL hL hj) λo45=>?_;refine ao (by exact ixL hL hj) λo46=>?_
 refine⟨((((l.getD j []).getD 4 (.int 0)).r),(cn m (l.getD j []) 4)),by
  exact Tw hj e hk,by
  exact Kg a0 (c:=4) rfl h0m a2,?_⟩
 refine ao (by exact ixL hL hj) λo50=>?_;refine ao (by rfl) λo51=>?_;intro R5 hR5;have e:=NY hj a0 (c:=4) rfl e hR5;have hk:=Fd (m:=m) a0 (c:=4) rfl;have hL:=mkL e;refine ao (by exact ixI hL hj) λo53=>?_;refine ao (by exact ixL hL hj) λo54=>?_;refine ao (by exact ixL hL hj) λo55=>?_;refine ao (by exact ixL hL hj) λo56=>?_
 refine⟨((((l.getD j []).getD 5 (.int 0)).r),(cn m (l.getD j []) 5)),by
  exact Tw hj e hk,by
  exact Kg a0 (c:=5) rfl h0m a2,?_⟩
 refine ao (by exact ixL hL hj) λo60=>?_;refine ao (by rfl) λo61=>?_;intro R6 hR6;have e:=NY hj a0 (c:=5) rfl e hR6;have hk:=Fd (m:=m) a0 (c:=5) rfl;have hL:=mkL e;refine ao (by omega) λo63=>?_;refine ao (by exact ixI hL hj) λo64=>?_;refine ao (by exact ixL hL hj) λo65=>?_;refine ao (by exact ixL hL hj) λo66=>?_;refine ao (by exact ixL hL hj) λo67=>?_;refine ao (by exact ixL hL hj) λo68=>?_;intro R7 hR7;have e:=mk_bool hj a0 (c:=6) rfl e hk h0m hR7;have hk:=Ic a0 (c:=6) rfl hk h0m a2;have hL:=mkL e;refine ao (by exact ixI hL hj) λo70=>?_;refine ao (by exact ixL hL hj) λo71=>?_;refine ao (by exact ixL hL hj) λo72=>?_;refine ao (by exact ixL hL hj) λo73=>?_;refine ao (by exact ixL hL hj) λo74=>?_
 refine⟨((((l.getD j []).getD 7 (.int 0)).r),(cn m (l.getD j []) 7)),by
  exact Tw hj e hk,by
  exact Kg a0 (c:=7) rfl h0m a2,?_⟩
 refine ao (by exact ixL hL hj) λo78=>?_;refine ao (by rfl) λo79=>?_;intro R8 hR8;have e:=NY hj a0 (c:=7) rfl e hR8;have hk:=Fd (m:=m) a0 (c:=7) rfl;have hL:=mkL e;refine ao (by exact ixI hL hj) λo81=>?_;refine ao (by exact ixL hL hj) λo82=>?_;refine ao (by exact ixL hL hj) λo83=>?_;refine ao (by exact ixL hL hj) λo84=>?_
 refine⟨((((l.getD j []).getD 8 (.int 0)).r),(cn m (l.getD j []) 8)),by
  exact Tw hj e hk,by
  exact Kg a0 (c:=8) rfl h0m a2,?_⟩
 refine ao (by exact ixL hL hj) λo88=>?_;refine ao (by rfl) λo89=>?_;intro R9 hR9;have e:=NY hj a0 (c:=8) rfl e hR9;have hk:=Fd (m:=m) a0 (c:=8) rfl;have hL:=mkL e
 refine⟨(j+1,m+(Aj (l.getD j []):Int)),by
  exact⟨hj,aG.1⟩,by
  exact Or hj,?_⟩
 refine⟨?_,?_,?_⟩;exact AU (Ot a0 (by decide) hk);exact AU (Kh hl hj);exact P4 hj a0 (by decide) e a1.2
def Az:Con:={ι:=(List (List Dat))×Int,pre:=λi=>Dat.has (.sl 3 [.int]) (.sl i.1)/\0<=i.2/\i.2+(AA i.1:Int)<=4611686018427387904,args:=λi=>[.one (cS (Ac i.2 i.1)),.one (cI i.2)],res:=λi=>⟨false,[none],[rcI (i.2+(AA i.1:Int))]⟩}
theorem R0:Az.Ok Tryz.prog 45:=by
 refine fok (X:=⟨tt,[],[],21,[]⟩) mixed AG (CTok.nil _) Tryz.func45 (λ(i:(List (List Dat))×Int)=>[(2,.mk 2 (Nat×Int) (λx1=>{tm:=[(0,tX 1),(1,tI x1.2),(5,tI (nI x1.1))],en:=[(1,eV (Ac i.2 i.1))]}) (λx1=>x1.1<=i.1.length/\x1.2=i.2+(AA (i.1.take x1.1):Int)) (λx1=>i.1.length-x1.1) (λ_=>[]))]) ?_;rintro⟨l,k⟩ a1;have a1:Dat.has (.sl 3 [.int]) (.sl l)/\0<=k/\k+(AA l:Int)<=4611686018427387904:=a1;refine AH (q:=let Z1:=Ac k l;(∃x1:Nat×Int,(x1.1<=l.length/\x1.2=k+(AA (l.take x1.1):Int))/\((vI k=vI x1.2)/\(vI (0:Int)=vI (nI x1.1))/\(rf Z1)))/\∀x1:Nat×Int,(x1.1<=l.length/\x1.2=k+(AA (l.take x1.1):Int))->(ifB ((decide ((nI x1.1)<(nI (Z1.length))))) ((0<=(nI x1.1)/\(nI x1.1)<(Z1.length:Int))/\((x1.1<Z1.length)/\(ifB (((((Z1.getD x1.1 []).getD 0 (.int 0))).n != x1.2)) ((vI (-1:Int)=vI (k+(AA l:Int)))) (∃y2:Nat×Int,(y2.1<=l.length/\y2.2=k+(AA (l.take y2.1):Int))/\(l.length-y2.1<l.length-x1.1)/\((vI (wR (x1.2+(1:Int)))=vI y2.2)/\(vI (wR ((nI x1.1)+(1:Int)))=vI (nI y2.1))/\(rf Z1)))))) ((vI x1.2=vI (k+(AA l:Int)))))) (by kernel_rfl) ?_;conv=>zeta
 delta ifB vI wR nI;obtain⟨hh,h0,h1⟩:=a1;have hl:=GR hh;have hh2:=Dl hh;have a3:=CZ k l;refine⟨⟨(0,k),by exact⟨Nat.zero_le _,by simp[AA]⟩,?_⟩,?_⟩;refine⟨rfl,?_,rfl⟩;rfl;rintro⟨j,m⟩ a0;have a0:j<=l.length/\m=k+(AA (l.take j):Int):=a0;refine And.symm ⟨λc6=>?_,λc6=>?_⟩;simp only[nrm]at c6;rw[a3]at c6;exact AU (Id (by omega) a0.2);simp only[nrm]at c6;rw[a3]at c6;have hj:j<l.length:=by omega
 have a2:=hh2 j hj;have a4:=GM hj a0.2;have h0m:0<=m:=by have:=Ki a0.2;omega
 have a5:m+(Aj (l.getD j []):Int)<=4611686018427387904:=by omega
 have hk:=(Ib m (l.getD j [])).symm;refine ao (by exact ixI a3 hj) λo7=>?_;refine ao (by exact ixL a3 hj) λo8=>?_;refine⟨λc9=>?_,λc9=>?_⟩;simp only[nrm]at c9;exact absurd (ABQ hj a0.2 a2 (c:=0) rfl hk) c9;simp only[nrm]at c9;have hk:=P3 a2 (c:=0) rfl hk h0m a5
 refine⟨(j+1,m+(Aj (l.getD j []):Int)),by
  exact⟨hj,a4.1⟩,by
  exact Or hj,?_⟩
 refine⟨?_,?_,rfl⟩;exact AU (Ot a2 (by decide) hk);exact AU (Kh hl hj)
def Bm:Con:={ι:=(List (List Dat))×Int,pre:=λi=>Dat.has (.sl 81 [.bool,.sl 3 [.int],.sl 3 [.int],.bool,.sl 3 [.int],.sl 3 [.int],.bool,.sl 3 [.int],.sl 3 [.int]]) (.sl i.1)/\0<=i.2/\i.2+(AA i.1:Int)<=4611686018427387904,args:=λi=>[.one (DC.sl 81 z80 (Ac i.2 i.1)),.one (cI i.2)],res:=λi=>⟨false,[none],[rcI (i.2+(AA i.1:Int))]⟩}
theorem P9:Bm.Ok Tryz.prog 23:=by
 refine fok (X:=⟨tt,[(45,Az)],[],115,[]⟩) mixed AG (CTok.cons R0 (CTok.nil _)) Tryz.func23 (λ(i:(List (List Dat))×Int)=>[(2,.mk 2 (Nat×Int) (λx1=>{tm:=[(0,tX 1),(1,tI x1.2),(5,tI (nI x1.1))],en:=[(1,.view 81 z80 (Ac i.2 i.1) [])]}) (λx1=>x1.1<=i.1.length/\x1.2=i.2+(AA (i.1.take x1.1):Int)) (λx1=>i.1.length-x1.1) (λ_=>[]))]) ?_;rintro⟨l,k⟩ a4
 have a4:Dat.has (.sl 81 [.bool,.sl 3 [.int],.sl 3 [.int],.bool,.sl 3 [.int],.sl 3 [.int],.bool,.sl 3 [.int],.sl 3 [.int]]) (.sl l)/\0<=k/\k+(AA l:Int)<=4611686018427387904:=a4;refine AH (q:=let Z9:=(3:Int)≠0;let Z8:=Ac k l;let Z5:=List (List Dat);let Z3:=(Z8.length:Int);let Z2:=(vI (-1:Int)=vI (k+(AA l:Int)));(∃x1:Nat×Int,(x1.1<=l.length/\x1.2=k+(AA (l.take x1.1):Int))/\((vI k=vI x1.2)/\(vI (0:Int)=vI (nI x1.1))/\(rf Z8)))/\∀x1:Nat×Int,let Z4:=Z8.getD x1.1 [];let Z1:=x1.1<Z8.length;(x1.1<=l.length/\x1.2=k+(AA (l.take x1.1):Int))->(ifB ((decide ((nI x1.1)<(nI (Z8.length))))) ((0<=(nI x1.1)/\(nI x1.1)<Z3)/\(Z1/\(Z1/\(Z1/\(Z1/\(Z9/\(ifB (((((Z4.getD 0 (.int 0))).b) != ((Int.tmod x1.2 (3:Int)) == (0:Int)))) Z2 ((0<=(nI x1.1)/\(nI x1.1)<Z3)/\(Z1/\(Z1/\(Z1/\(Z1/\(∃i1:Z5×Int,let aE:=i1.2+(AA i1.1:Int);[DA.one (cS (((Z4.getD 1 (.int 0))).r)),DA.one (cI (wR (x1.2+(1:Int))))]=Az.args i1/\Az.pre i1/\(ifB ((decide (aE<(0:Int)))) Z2 ((0<=(nI x1.1)/\(nI x1.1)<Z3)/\(Z1/\(Z1/\(Z1/\(∃i2:Z5×Int,let Z6:=i2.2+(AA i2.1:Int);[DA.one (cS (((Z4.getD 2 (.int 0))).r)),DA.one (cI aE)]=Az.args i2/\Az.pre i2/\(ifB ((decide (Z6<(0:Int)))) Z2 ((0<=(nI x1.1)/\(nI x1.1)<Z3)/\(Z1/\(Z1/\(Z1/\(Z1/\(Z9/\(ifB (((((Z4.getD 3 (.int 0))).b) != ((Int.tmod Z6 (3:Int)) == (0:Int)))) Z2 ((0<=(nI x1.1)/\(nI x1.1)<Z3)/\(Z1/\(Z1/\(Z1/\(Z1/\(∃i3:Z5×Int,let aF:=i3.2+(AA i3.1:Int);[DA.one (cS (((Z4.getD 4 (.int 0))).r)),DA.one (cI (wR (Z6+(1:Int))))]=Az.args i3/\Az.pre i3/\(ifB ((decide (aF<(0:Int)))) Z2 ((0<=(nI x1.1)/\(nI x1.1)<Z3)/\(Z1/\(Z1/\(Z1/\(∃i4:Z5×Int,let Z7:=i4.2+(AA i4.1:Int);[DA.one (cS (((Z4.getD 5 (.int 0))).r)),DA.one (cI aF)]=Az.args i4/\Az.pre i4/\(ifB ((decide (Z7<(0:Int)))) Z2 ((0<=(nI x1.1)/\(nI x1.1)<Z3)/\(Z1/\(Z1/\(Z1/\(Z1/\(Z9/\(ifB (((((Z4.getD 6 (.int 0))).b) != ((Int.tmod Z7 (3:Int)) == (0:Int)))) Z2 ((0<=(nI x1.1)/\(nI x1.1)<Z3)/\(Z1/\(Z1/\(Z1/\(Z1/\(∃i5:Z5×Int,let aG:=i5.2+(AA i5.1:Int);[DA.one (cS (((Z4.getD 7 (.int 0))).r)),DA.one (cI (wR (Z7+(1:Int))))]=Az.args i5/\Az.pre i5/\(ifB ((decide (aG<(0:Int)))) Z2 ((0<=(nI x1.1)/\(nI x1.1)<Z3)/\(Z1/\(Z1/\(Z1/\(∃i6:Z5×Int,let aH:=i6.2+(AA i6.1:Int);[DA.one (cS (((Z4.getD 8 (.int 0))).r)),DA.one (cI aG)]=Az.args i6/\Az.pre i6/\(ifB ((decide (aH<(0:Int)))) Z2 (∃y2:Nat×Int,(y2.1<=l.length/\y2.2=k+(AA (l.take y2.1):Int))/\(l.length-y2.1<l.length-x1.1)/\((vI aH=vI y2.2)/\(vI (wR ((nI x1.1)+(1:Int)))=vI (nI y2.1))/\(rf Z8))))))))))))))))))))))))))))))))))))))))))))))))))))))))))))))) ((vI x1.2=vI (k+(AA l:Int)))))) (by kernel_rfl) ?_;conv=>zeta
 delta ifB vI wR nI;obtain⟨hh,h0,h1⟩:=a4;have hl:=GR hh;have hh2:=Dl hh;have a1:=CZ k l;refine⟨⟨(0,k),by exact⟨Nat.zero_le _,by simp[AA]⟩,?_⟩,?_⟩;refine⟨rfl,?_,rfl⟩;rfl;rintro⟨j,m⟩ a2;have a2:j<=l.length/\m=k+(AA (l.take j):Int):=a2;refine And.symm ⟨λc6=>?_,λc6=>?_⟩;simp only[nrm]at c6;rw[a1]at c6;exact AU (Id (by omega) a2.2);simp only[nrm]at c6;rw[a1]at c6;have hj:j<l.length:=by omega
 have a0:=hh2 j hj;have aI:=GM hj a2.2;have h0m:0<=m:=by have:=Ki a2.2;omega
 have a3:m+(Aj (l.getD j []):Int)<=4611686018427387904:=by omega
 have hk:=(Ib m (l.getD j [])).symm;refine ao (by exact ixI a1 hj) λo7=>?_;refine ao (by exact ixL a1 hj) λo8=>?_;refine ao (by exact ixL a1 hj) λo9=>?_;refine ao (by exact ixL a1 hj) λo10=>?_;refine ao (by exact ixL a1 hj) λo11=>?_;refine ao (by omega) λo12=>?_;refine⟨λa5=>?_,λa5=>?_⟩;simp only[nrm]at a5;exact absurd (P6 hj a2.2 a0 (c:=0) rfl hk h0m) a5;simp only[nrm]at a5;have hk:=Ic a0 (c:=0) rfl hk h0m a3;refine ao (by exact ixI a1 hj) λo15=>?_;refine ao (by exact ixL a1 hj) λo16=>?_;refine ao (by exact ixL a1 hj) λo17=>?_;refine ao (by exact ixL a1 hj) λo18=>?_;refine ao (by exact ixL a1 hj) λo19=>?_
 refine⟨((((l.getD j []).getD 1 (.int 0)).r),(cn m (l.getD j []) 1)),by
  exact Ou hj a2.2 a0 (c:=1) rfl hk,by
  exact Kg a0 (c:=1) rfl h0m a3,?_⟩
 refine⟨λa8=>?_,λa8=>?_⟩;simp only[nrm]at a8;exfalso;have:=G6 m (l.getD j []) 1;omega;simp only[nrm]at a8;have hk:=Fd (m:=m) a0 (c:=1) rfl;refine ao (by exact ixI a1 hj) λo25=>?_;refine ao (by exact ixL a1 hj) λo26=>?_;refine ao (by exact ixL a1 hj) λo27=>?_;refine ao (by exact ixL a1 hj) λo28=>?_
 refine⟨((((l.getD j []).getD 2 (.int 0)).r),(cn m (l.getD j []) 2)),by
  exact Ou hj a2.2 a0 (c:=2) rfl hk,by
  exact Kg a0 (c:=2) rfl h0m a3,?_⟩
 refine⟨λa9=>?_,λa9=>?_⟩;simp only[nrm]at a9;exfalso;have:=G6 m (l.getD j []) 2;omega;simp only[nrm]at a9;have hk:=Fd (m:=m) a0 (c:=2) rfl;refine ao (by exact ixI a1 hj) λo34=>?_;refine ao (by exact ixL a1 hj) λo35=>?_;refine ao (by exact ixL a1 hj) λo36=>?_;refine ao (by exact ixL a1 hj) λo37=>?_;refine ao (by exact ixL a1 hj) λo38=>?_;refine ao (by omega) λo39=>?_;refine⟨λa6=>?_,λa6=>?_⟩;simp only[nrm]at a6;exact absurd (P6 hj a2.2 a0 (c:=3) rfl hk h0m) a6;simp only[nrm]at a6;have hk:=Ic a0 (c:=3) rfl hk h0m a3;refine ao (by exact ixI a1 hj) λo42=>?_;refine ao (by exact ixL a1 hj) λo43=>?_;refine ao (by exact ixL a1 hj) λo44=>?_;refine ao (by exact ixL a1 hj) λo45=>?_;refine ao (by exact ixL a1 hj) λo46=>?_
 refine⟨((((l.getD j []).getD 4 (.int 0)).r),(cn m (l.getD j []) 4)),by
  exact Ou hj a2.2 a0 (c:=4) rfl hk,by
  exact Kg a0 (c:=4) rfl h0m a3,?_⟩
 refine⟨λaA=>?_,λaA=>?_⟩;simp only[nrm]at aA;exfalso;have:=G6 m (l.getD j []) 4;omega;simp only[nrm]at aA;have hk:=Fd (m:=m) a0 (c:=4) rfl;refine ao (by exact ixI a1 hj) λo52=>?_;refine ao (by exact ixL a1 hj) λo53=>?_;refine ao (by exact ixL a1 hj) λo54=>?_;refine ao (by exact ixL a1 hj) λo55=>?_
 refine⟨((((l.getD j []).getD 5 (.int 0)).r),(cn m (l.getD j []) 5)),by
  exact Ou hj a2.2 a0 (c:=5) rfl hk,by
  exact Kg a0 (c:=5) rfl h0m a3,?_⟩
 refine⟨λaB=>?_,λaB=>?_⟩;simp only[nrm]at aB;exfalso;have:=G6 m (l.getD j []) 5;omega;simp only[nrm]at aB;have hk:=Fd (m:=m) a0 (c:=5) rfl;refine ao (by exact ixI a1 hj) λo61=>?_;refine ao (by exact ixL a1 hj) λo62=>?_;refine ao (by exact ixL a1 hj) λo63=>?_;refine ao (by exact ixL a1 hj) λo64=>?_;refine ao (by exact ixL a1 hj) λo65=>?_;refine ao (by omega) λo66=>?_;refine⟨λa7=>?_,λa7=>?_⟩;simp only[nrm]at a7;exact absurd (P6 hj a2.2 a0 (c:=6) rfl hk h0m) a7;simp only[nrm]at a7;have hk:=Ic a0 (c:=6) rfl hk h0m a3;refine ao (by exact ixI a1 hj) λo69=>?_;refine ao (by exact ixL a1 hj) λo70=>?_;refine ao (by exact ixL a1 hj) λo71=>?_;refine ao (by exact ixL a1 hj) λo72=>?_;refine ao (by exact ixL a1 hj) λo73=>?_
 refine⟨((((l.getD j []).getD 7 (.int 0)).r),(cn m (l.getD j []) 7)),by
  exact Ou hj a2.2 a0 (c:=7) rfl hk,by
  exact Kg a0 (c:=7) rfl h0m a3,?_⟩
 refine⟨λaC=>?_,λaC=>?_⟩;simp only[nrm]at aC;exfalso;have:=G6 m (l.getD j []) 7;omega;simp only[nrm]at aC;have hk:=Fd (m:=m) a0 (c:=7) rfl;refine ao (by exact ixI a1 hj) λo79=>?_;refine ao (by exact ixL a1 hj) λo80=>?_;refine ao (by exact ixL a1 hj) λo81=>?_;refine ao (by exact ixL a1 hj) λo82=>?_
 refine⟨((((l.getD j []).getD 8 (.int 0)).r),(cn m (l.getD j []) 8)),by
  exact Ou hj a2.2 a0 (c:=8) rfl hk,by
  exact Kg a0 (c:=8) rfl h0m a3,?_⟩
 refine⟨λaD=>?_,λaD=>?_⟩;simp only[nrm]at aD;exfalso;have:=G6 m (l.getD j []) 8;omega;simp only[nrm]at aD;have hk:=Fd (m:=m) a0 (c:=8) rfl
 refine⟨(j+1,m+(Aj (l.getD j []):Int)),by
  exact⟨hj,aI.1⟩,by
  exact Or hj,?_⟩
 refine⟨?_,?_,rfl⟩;exact AU (Ot a0 (by decide) hk);exact AU (Kh hl hj)
def Dt:Con:={ι:=Bool×(List (List Dat))×Int,pre:=λi=>Dat.has (.sl 3 [.int]) (.sl (i.2.1))/\0<=i.2.2/\i.2.2+(AA (i.2.1):Int)<=4611686018427387904,args:=λi=>[DA.agg [cB i.1,cS i.2.1],.one (cI i.2.2)],mu:=[1],new:=λi=>[Ac (i.2.2) (i.2.1)],res:=λi=>⟨false,[none],[rcI (i.2.2+(AA (i.2.1):Int))]⟩}
theorem Nk:Dt.Ok Tryz.prog 43:=by
 refine fok (X:=⟨tt,[(44,Ag)],[],10,[]⟩) mixed AG (CTok.cons Ht (CTok.nil _)) Tryz.func43 (λ_=>[]) ?_;rintro⟨bn,bm,k⟩ a0;have a0:Dat.has (.sl 3 [.int]) (.sl (bm))/\0<=k/\k+(AA (bm):Int)<=4611686018427387904:=a0;refine AH (q:=∃i1:(List (List Dat))×Int,[DA.one (cS bm),DA.one (cI k)]=Ag.args i1/\Ag.pre i1/\(∀R1:List (List Dat),R1=Ac i1.2 i1.1->((vI (i1.2+(AA i1.1:Int))=vI (k+(AA (bm):Int)))/\(R1=(Ac (k) (bm)))))) (by kernel_rfl) ?_;delta vI;obtain⟨p1,h0,h1⟩:=a0
 refine⟨(bm,k),by
  rfl,by
  exact⟨p1,by omega,by omega⟩,?_⟩
 intro R1 hR1;refine⟨rfl,?_⟩;assumption
def EO:Con:={ι:=RatD×Int,pre:=λi=>Dat.has (.sl 3 [.int]) (.sl (i.1.num))/\Dat.has (.sl 3 [.int]) (.sl (i.1.den))/\0<=i.2/\i.2+(AA (i.1.num):Int)+(AA (i.1.den):Int)<=4611686018427387904,args:=λi=>[DA.agg [cB i.1.neg,cS i.1.num,cS i.1.den],.one (cI i.2)],mu:=[1,2],new:=λi=>[Ac (i.2) (i.1.num),Ac (i.2+(AA (i.1.num):Int)) (i.1.den)],res:=λi=>⟨false,[none],[rcI (i.2+(AA (i.1.num):Int)+(AA (i.1.den):Int))]⟩}
theorem Tx:EO.Ok Tryz.prog 16:=by
 refine fok (X:=⟨tt,[(43,Dt),(44,Ag)],[],14,[]⟩) mixed AG (CTok.cons Nk (CTok.cons Ht (CTok.nil _))) Tryz.func16 (λ_=>[]) ?_;rintro⟨x,k⟩ a0;have a0:Dat.has (.sl 3 [.int]) (.sl (x.num))/\Dat.has (.sl 3 [.int]) (.sl (x.den))/\0<=k/\k+(AA (x.num):Int)+(AA (x.den):Int)<=4611686018427387904:=a0;refine AH (q:=∃i1:Bool×(List (List Dat))×Int,[DA.agg [cB x.neg,cS x.num],DA.one (cI k)]=Dt.args i1/\Dt.pre i1/\(∀R1:List (List Dat),R1=Ac (i1.2.2) (i1.2.1)->(∃i2:(List (List Dat))×Int,[DA.one (cS x.den),DA.one (cI (i1.2.2+(AA (i1.2.1):Int)))]=Ag.args i2/\Ag.pre i2/\(∀R2:List (List Dat),R2=Ac i2.2 i2.1->((vI (i2.2+(AA i2.1:Int))=vI (k+(AA (x.num):Int)+(AA (x.den):Int)))/\(R1=(Ac (k) (x.num)))/\(R2=(Ac (k+(AA (x.num):Int)) (x.den)))))))) (by kernel_rfl) ?_;delta vI;obtain⟨p1,p2,h0,h1⟩:=a0
 refine⟨(x.neg,x.num,k),by
  rfl,by
  show Dat.has (.sl 3 [.int]) (.sl (x.num))/\0<=k/\k+(AA (x.num):Int)<=4611686018427387904;exact⟨p1,by omega,by omega⟩,?_⟩
 intro R1 hR1
 refine⟨(x.den,(k+(AA (x.num):Int))),by
  rfl,by
  exact⟨p2,by omega,by omega⟩,?_⟩
 intro R2 hR2;refine⟨?_,?_,?_⟩;rfl;assumption;assumption
theorem Yr(ls:List (List V2)):∀k,k<=ls.length->ER ls k<=Aa (AN (ls.take k))
 | 0,_=>Nat.zero_le _|k+1,h=>by
  have ih:=Yr ls k (by omega);have e:AN (ls.take (k+1))=AN (ls.take k)++AN [ls.getD k []]:=by rw[← Nc];congr 1;rw[List.take_add_one];simp[List.getD,show k<ls.length from h]
  have e2:Aa (AN [ls.getD k []])=(ls.getD k []).length:=by simp[AN,Aa,Ae,Dat.sz,QI,A9]
  rw[e,Fg,e2,ER];omega
theorem QA(r:Fr):hasRow [.bool,.sl 3 [.int],.sl 3 [.int]] (frD r):=⟨trivial,BP 3 (by have:=r.nlz;omega),BP 3 (by have:=r.nld;omega),trivial⟩
theorem VJ{d:Dat}(h:d.fit):-9223372036854775808<=d.n/\d.n<=9223372036854775807:=by cases d <;> simp_all [Dat.fit,Dat.n]
theorem ABR{r:List Dat}(h:hasRow [.int,.int,.int,.int] r):Ae r=0:=Iw (by decide) h
theorem Zu(x top y:Fr)(bs:List Brd):(wls x top y bs).length<=bs.length+1:=by unfold wls;have h:=IZ x top y bs bs.length;rw[List.length_append];unfold wlO;split <;> simp <;> omega
theorem Zv(ev:List Fr)(n:Bool)(m d:List (List Dat))(ly hy:Int)(ls:List (List V2)):(wlR ev n m d ly hy ls).length<=ls.length+1:=by unfold wlR;split;have h1:=Zu (slA ev n m d) (Fr.ofInt hy) (Fr.ofInt ly) (bsS ls (slA ev n m d));have h2:=U8 ls (slA ev n m d);omega;simp
theorem I1:∀{ts us:List Ty}{a b:List Dat},hasRow ts a->hasRow us b->hasRow (ts++us) (a++b)
 | [],us,a,b,h1,h2=>by rw[hasRow.nil h1];exact h2|t::ts,us,[],b,h1,h2=>by simp[hasRow]at h1|t::ts,us,d::a,b,h1,h2=>⟨h1.1,I1 h1.2 h2⟩
theorem Ys(c:Wl):hasRow [.bool,.sl 3 [.int],.sl 3 [.int],.bool,.sl 3 [.int],.sl 3 [.int],.bool,.sl 3 [.int],.sl 3 [.int]] (wlD c):=I1 (QA c.x) (I1 (QA c.lo) (QA c.hi))
theorem Zw{l:List Wl}(h:l.length<=2000000000000):Dat.has (.sl 81 [.bool,.sl 3 [.int],.sl 3 [.int],.bool,.sl 3 [.int],.sl 3 [.int],.bool,.sl 3 [.int],.sl 3 [.int]]) (.sl (Bs l)):=⟨by rw[FB];omega,λk hk=>by
 rw[FB]at hk;have e:(Bs l).getD k []=wlD l[k]:=by simp[Bs,List.getD,hk]
 rw[e];exact Ys _⟩
theorem Kj:∀(a b:List Dat),Ae (a++b)=Ae a+Ae b
 | [],b=>by simp[Ae]|d::a,b=>by rw[List.cons_append,Ae,Ae,Kj a b];omega
theorem Tz(a:Fr):Ae (frD a)<=48:=by have z1:Aa (L a.z.natAbs)=0:=JW (by decide) (BP 3 (by have:=a.nlz;omega));have z2:Aa (L a.d)=0:=JW (by decide) (BP 3 (by have:=a.nld;omega));have l1:=AJ a.z.natAbs;have l2:=AJ a.d;have n1:=a.nlz;have n2:=a.nld;simp only[frD,Ae,Dat.sz];omega
theorem VK:∀l:List Wl,AA (Bs l)<=l.length*1305
 | []=>Nat.zero_le _|c::l=>by
  have ih:=VK l;have h1:=IG _ _ (Ys c);have e1:Hj [.bool,.sl 3 [.int],.sl 3 [.int],.bool,.sl 3 [.int],.sl 3 [.int],.bool,.sl 3 [.int],.sl 3 [.int]]=9:=by simp[Hj,Ty.K]
  have e2:Ae (wlD c)<=144:=by have q1:=Tz c.x;have q2:=Tz c.lo;have q3:=Tz c.hi;show Ae (frD c.x++(frD c.lo++frD c.hi))<=144;rw[Kj,Kj];omega
  rw[e1]at h1;show Aj (wlD c)+AA (Bs l)<=_;rw[List.length_cons,Nat.add_mul];omega
theorem ABS{x:RatD}(h:hasRow [.bool,.sl 3 [.int],.sl 3 [.int]] [.bool x.neg,.sl x.num,.sl x.den])(hs:Ae [.bool x.neg,.sl x.num,.sl x.den]<=1048576):DZ x.num x.den/\((AA x.num:Int)<=2000000000/\(AA x.den:Int)<=2000000000):=by have h1:=h.2.1;have h2:=h.2.2.1;simp only[Ae,Dat.sz]at hs;exact⟨⟨⟨by omega,h1⟩,by omega,h2⟩,Fl h1 (by omega) (by simp[Hj,Ty.K]),Fl h2 (by omega) (by simp[Hj,Ty.K])⟩
def FE:Con:={ι:=(List Dat)×(List (List V2))×RatD,pre:=λi=>hasRow [.int,.int,.int,.int] i.1/\fitRow i.1/\Dat.has (.sl 59 [.sl 23 [.int,.int]]) (.sl (AN i.2.1))/\hasRow [.bool,.sl 3 [.int],.sl 3 [.int]] [.bool i.2.2.neg,.sl i.2.2.num,.sl i.2.2.den],args:=λi=>[w24 i.1,.one (DC.sl 59 [.sl 23 [.int,.int]] (AN i.2.1)),DA.agg [cB i.2.2.neg,cS i.2.2.num,cS i.2.2.den]],res:=λi=>⟨false,[none],[rcB true]⟩}
set_option maxHeartbeats 4000000 in
theorem Nl:FE.Ok Tryz.prog 4:=by
 refine fok (X:=⟨tt,[(5,Fc),(6,GL),(8,Da),(9,Bl),(10,Cc),(19,Dr),(20,B4),(21,Ba),(13,Fb),(14,CG),(15,EH),(16,EO),(22,C8),(23,Bm)],[],100,[]⟩) mixed AG (CTok.cons Ts (CTok.cons Yl (CTok.cons Yo (CTok.cons Tq (CTok.cons Ym (CTok.cons Rt (CTok.cons Rs (CTok.cons Tt (CTok.cons Tp (CTok.cons Rx (CTok.cons P7 (CTok.cons Tx (CTok.cons P8 (CTok.cons P9 (CTok.nil _))))))))))))))) Tryz.func4 (λ_=>[]) ?_;rintro⟨r,ls,x⟩ a3;have a3:hasRow [.int,.int,.int,.int] r/\fitRow r/\Dat.has (.sl 59 [.sl 23 [.int,.int]]) (.sl (AN ls))/\hasRow [.bool,.sl 3 [.int],.sl 3 [.int]] [.bool x.neg,.sl x.num,.sl x.den]:=a3
 refine AH (q:=let aF:=List (List V2);let aB:=cI (1:Int);let Z8:=(vB true=vB true);let Z5:=DC.sl 59 [.sl 23 [.int,.int]] (AN ls);let Z4:=(vB false=vB true);let Z3:=List (List Dat);∃i1:Z3×Int,let Z7:=szR (i1.1.length+Aa i1.1) i1.2;[DA.one Z5,DA.one (cI (1048576:Int))]=Fc.args i1/\Fc.pre i1/\(ifB ((decide (Z7<(0:Int)))) Z8 (∃i2:RatD×Int,[DA.agg [cB x.neg,cS x.num,cS x.den],DA.one (cI Z7)]=GL.args i2/\GL.pre i2/\(ifB ((decide ((szR (Ae [.bool i2.1.neg,.sl i2.1.num,.sl i2.1.den]) i2.2)<(0:Int)))) Z8 (∃i3:(List Dat),[w24 r]=Da.args i3/\Da.pre i3/\(∃i4:Z3,[DA.one Z5]=Bl.args i4/\Bl.pre i4/\(∃i5:RatD,[DA.agg [cB x.neg,cS x.num,cS x.den]]=Cc.args i5/\Cc.pre i5/\(∃i6:Int×Int×Int×Int×aF×Bool×Z3×Z3,let Z2:=DC.sl 81 z80 (Bs (wlR (evR i6.1 i6.2.1 i6.2.2.1 i6.2.2.2.1 i6.2.2.2.2.1) i6.2.2.2.2.2.1 i6.2.2.2.2.2.2.1 i6.2.2.2.2.2.2.2 i6.2.1 i6.2.2.2.1 i6.2.2.2.2.1));[w24 i3,DA.one (DC.sl 66 [.sl 36 [.int,.int]] i4),DA.agg [cB i5.neg,cS i5.num,cS i5.den]]=Dr.args i6/\Dr.pre i6/\(∃i7:Z3,let Z6:=DC.sl 66 [.sl 36 [.int,.int]] i7;[DA.one Z5]=Bl.args i7/\Bl.pre i7/\(∃i8:RatD,[DA.agg [cB x.neg,cS x.num,cS x.den]]=Cc.args i8/\Cc.pre i8/\(∃i9:(List Dat),[w24 r]=Da.args i9/\Da.pre i9/\(∃a0:Int×Int×Int×Int×aF×Bool×Z3×Z3,let Z1:=DC.sl 81 z80 (Bs (wlR (evR a0.1 a0.2.1 a0.2.2.1 a0.2.2.2.1 a0.2.2.2.2.1) a0.2.2.2.2.2.1 a0.2.2.2.2.2.2.1 a0.2.2.2.2.2.2.2 a0.2.1 a0.2.2.2.1 a0.2.2.2.2.1));[w24 i9,DA.one Z6,DA.agg [cB i8.neg,cS i8.num,cS i8.den]]=B4.args a0/\B4.pre a0/\(∃aQ:Z3,[DA.one Z1,DA.one Z2]=Ba.args aQ/\Ba.pre aQ/\(ifB ((!true)) Z4 (∃aG:Z3,[DA.one Z5]=Bl.args aG/\Bl.pre aG/\(∃aR:Z3,[DA.one Z6,DA.one (DC.sl 66 [.sl 36 [.int,.int]] aG)]=Fb.args aR/\Fb.pre aR/\(ifB ((!true)) Z4 (∃a5:RatD,[DA.agg [cB x.neg,cS x.num,cS x.den]]=Cc.args a5/\Cc.pre a5/\(∃aS:RatD,[DA.agg [cB i8.neg,cS i8.num,cS i8.den],DA.agg [cB a5.neg,cS a5.num,cS a5.den]]=CG.args aS/\CG.pre aS/\(ifB ((!true)) Z4 (∃aC:Z3×Int,[DA.one Z6,DA.one aB]=EH.args aC/\EH.pre aC/\(∃a6:RatD×Int,[DA.agg [cB i8.neg,cS i8.num,cS i8.den],DA.one (cI (aC.2+(AA aC.1:Int)))]=EO.args a6/\EO.pre a6/\(ifB ((!(decide ((a6.2+(AA (a6.1.num):Int)+(AA (a6.1.den):Int))<(0:Int))))) (∃aT:Z3,[DA.one Z1,DA.one Z2]=Ba.args aT/\Ba.pre aT/\(ifB ((!true)) Z4 (∃a4:Z3×Int,let aU:=a4.2+(AA a4.1:Int);let Z9:=DC.sl 81 z80 (Ac a4.2 a4.1);[DA.one Z1,DA.one aB]=C8.args a4/\C8.pre a4/\(∃aD:Z3×Int,let aV:=aD.2+(AA aD.1:Int);[DA.one Z9,DA.one aB]=Bm.args aD/\Bm.pre aD/\(ifB ((decide (aV<(0:Int)))) Z4 (ifB ((aV != aU)) Z4 (∃aH:(List Dat),[w24 r]=Da.args aH/\Da.pre aH/\(∃aI:Z3,[DA.one Z5]=Bl.args aI/\Bl.pre aI/\(∃a7:RatD,[DA.agg [cB x.neg,cS x.num,cS x.den]]=Cc.args a7/\Cc.pre a7/\(∃a1:Int×Int×Int×Int×aF×Bool×Z3×Z3,[w24 aH,DA.one (DC.sl 66 [.sl 36 [.int,.int]] aI),DA.agg [cB a7.neg,cS a7.num,cS a7.den]]=B4.args a1/\B4.pre a1/\(∃aW:Z3,[DA.one (DC.sl 81 z80 (Bs (wlR (evR a1.1 a1.2.1 a1.2.2.1 a1.2.2.2.1 a1.2.2.2.2.1) a1.2.2.2.2.2.1 a1.2.2.2.2.2.2.1 a1.2.2.2.2.2.2.2 a1.2.1 a1.2.2.2.1 a1.2.2.2.2.1))),DA.one Z2]=Ba.args aW/\Ba.pre aW/\(ifB ((!true)) Z4 (∃aE:Z3×Int,let aX:=aE.2+(AA aE.1:Int);[DA.one Z9,DA.one aB]=Bm.args aE/\Bm.pre aE/\(ifB ((decide (aX<(0:Int)))) Z4 (ifB ((aX != aU)) Z4 Z8))))))))))))))) Z4))))))))))))))))))))))) (by kernel_rfl) ?_
 conv=>zeta
 delta w24 ifB vB;obtain⟨hb,hf,ha,hx⟩:=a3;have f0:=VJ (F4 (k:=0) hf);have f1:=VJ (F4 (k:=1) hf);have f2:=VJ (F4 (k:=2) hf);have f3:=VJ (F4 (k:=3) hf);have hbz:=ABR hb
 refine⟨((AN ls),(1048576:Int)),by
  rfl,by
  exact⟨ha,by omega,by omega⟩,?_⟩
 refine⟨λc4=>?_,λc4=>?_⟩;simp only[nrm]at c4;exact rfl;simp only[nrm]at c4
 refine⟨(x,(szR ((AN ls).length+Aa (AN ls)) (1048576:Int))),by
  rfl,by
  try dsimp only[GL]
  exact⟨hx,by omega,by have:=Sw c4;omega⟩,?_⟩
 refine⟨λc9=>?_,λc9=>?_⟩;simp only[nrm]at c9;exact rfl;simp only[nrm]at c9;have z1:=Sw c4;have z2:=Sw c9;have g3:(AN ls).length+Aa (AN ls)<=1048576:=by omega
 have gx:Ae [.bool x.neg,.sl x.num,.sl x.den]<=1048576:=by omega
 have rx:=ABS hx gx;have g1:ls.length<=1048576:=by rw[A8]at g3;omega
 have g2:ER ls ls.length<=1048576:=by have:=Yr ls ls.length (Nat.le_refl _);rw[List.take_length]at this;omega
 have hcv:(AA (AN ls):Int)<=2000000000:=Fl ha g3 (by simp[Hj,Ty.K]);have hrl:=Zv (evR ((r.getD 0 (.int 0)).n) ((r.getD 1 (.int 0)).n) ((r.getD 2 (.int 0)).n) ((r.getD 3 (.int 0)).n) ls) x.neg x.num x.den ((r.getD 1 (.int 0)).n) ((r.getD 3 (.int 0)).n) ls;have hcl:=FB (wlR (evR ((r.getD 0 (.int 0)).n) ((r.getD 1 (.int 0)).n) ((r.getD 2 (.int 0)).n) ((r.getD 3 (.int 0)).n) ls) x.neg x.num x.den ((r.getD 1 (.int 0)).n) ((r.getD 3 (.int 0)).n) ls);have aJ:=Zw (l:=(wlR (evR ((r.getD 0 (.int 0)).n) ((r.getD 1 (.int 0)).n) ((r.getD 2 (.int 0)).n) ((r.getD 3 (.int 0)).n) ls) x.neg x.num x.den ((r.getD 1 (.int 0)).n) ((r.getD 3 (.int 0)).n) ls)) (by omega);have hoc:=VK (wlR (evR ((r.getD 0 (.int 0)).n) ((r.getD 1 (.int 0)).n) ((r.getD 2 (.int 0)).n) ((r.getD 3 (.int 0)).n) ls) x.neg x.num x.den ((r.getD 1 (.int 0)).n) ((r.getD 3 (.int 0)).n) ls)
 refine⟨r,by
  rfl,by
  exact⟨hb,by omega⟩,?_⟩
 refine⟨(AN ls),by
  rfl,by
  exact g3,?_⟩
 refine⟨x,by
  rfl,by
  exact gx,?_⟩
 refine⟨(((r.getD 0 (.int 0)).n),((r.getD 1 (.int 0)).n),((r.getD 2 (.int 0)).n),((r.getD 3 (.int 0)).n),ls,x.neg,x.num,x.den),by
  rfl,by
  try dsimp only[Dr]
  exact⟨⟨g1,g2,f0,f1,f2,f3⟩,rx.1⟩,?_⟩
 refine⟨(AN ls),by
  rfl,by
  exact g3,?_⟩
 refine⟨x,by
  rfl,by
  exact gx,?_⟩
 refine⟨r,by
  rfl,by
  exact⟨hb,by omega⟩,?_⟩
 refine⟨(((r.getD 0 (.int 0)).n),((r.getD 1 (.int 0)).n),((r.getD 2 (.int 0)).n),((r.getD 3 (.int 0)).n),ls,x.neg,x.num,x.den),by
  rfl,by
  try dsimp only[B4]
  exact⟨⟨g1,g2,f0,f1,f2,f3⟩,rx.1⟩,?_⟩
 refine⟨Bs (wlR (evR ((r.getD 0 (.int 0)).n) ((r.getD 1 (.int 0)).n) ((r.getD 2 (.int 0)).n) ((r.getD 3 (.int 0)).n) ls) x.neg x.num x.den ((r.getD 1 (.int 0)).n) ((r.getD 3 (.int 0)).n) ls),by
  rfl,by
  try dsimp only[Ba]
  (show(Bs (wlR (evR ((r.getD 0 (.int 0)).n) ((r.getD 1 (.int 0)).n) ((r.getD 2 (.int 0)).n) ((r.getD 3 (.int 0)).n) ls) x.neg x.num x.den ((r.getD 1 (.int 0)).n) ((r.getD 3 (.int 0)).n) ls)).length<=_;omega),?_⟩
 refine⟨λaK=>?_,λaK=>?_⟩;simp only[nrm]at aK;contradiction;simp only[nrm]at aK
 refine⟨(AN ls),by
  rfl,by
  exact g3,?_⟩
 refine⟨(AN ls),by
  rfl,by
  trivial,?_⟩
 refine⟨λaL=>?_,λaL=>?_⟩;simp only[nrm]at aL;contradiction;simp only[nrm]at aL
 refine⟨x,by
  rfl,by
  exact gx,?_⟩
 refine⟨x,by
  rfl,by
  trivial,?_⟩
 refine⟨λaM=>?_,λaM=>?_⟩;simp only[nrm]at aM;contradiction;simp only[nrm]at aM
 refine⟨((AN ls),(1:Int)),by
  rfl,by
  show Dat.has (.sl 66 [.sl 36 [.int,.int]]) (.sl (AN ls))/\0<=(1:Int)/\(1:Int)+(AA (AN ls):Int)<=4611686018427387904;exact⟨Xo (by rfl) ha,by omega,by omega⟩,?_⟩
 refine⟨(x,((1:Int)+(AA (AN ls):Int))),by
  rfl,by
  try dsimp only[EO]
  exact⟨rx.1.1.2,rx.1.2.2,by omega,by omega⟩,?_⟩
 refine And.symm ⟨λaN=>?_,λaN=>?_⟩;simp only[nrm]at aN;contradiction;simp only[nrm]at aN
 refine⟨Bs (wlR (evR ((r.getD 0 (.int 0)).n) ((r.getD 1 (.int 0)).n) ((r.getD 2 (.int 0)).n) ((r.getD 3 (.int 0)).n) ls) x.neg x.num x.den ((r.getD 1 (.int 0)).n) ((r.getD 3 (.int 0)).n) ls),by
  rfl,by
  try dsimp only[Ba]
  (show(Bs (wlR (evR ((r.getD 0 (.int 0)).n) ((r.getD 1 (.int 0)).n) ((r.getD 2 (.int 0)).n) ((r.getD 3 (.int 0)).n) ls) x.neg x.num x.den ((r.getD 1 (.int 0)).n) ((r.getD 3 (.int 0)).n) ls)).length<=_;omega),?_⟩
 refine⟨λaO=>?_,λaO=>?_⟩;simp only[nrm]at aO;contradiction;simp only[nrm]at aO
 refine⟨(Bs (wlR (evR ((r.getD 0 (.int 0)).n) ((r.getD 1 (.int 0)).n) ((r.getD 2 (.int 0)).n) ((r.getD 3 (.int 0)).n) ls) x.neg x.num x.den ((r.getD 1 (.int 0)).n) ((r.getD 3 (.int 0)).n) ls),(1:Int)),by
  rfl,by
  try dsimp only[C8]
  exact⟨aJ,by omega,by omega⟩,?_⟩
 refine⟨((Bs (wlR (evR ((r.getD 0 (.int 0)).n) ((r.getD 1 (.int 0)).n) ((r.getD 2 (.int 0)).n) ((r.getD 3 (.int 0)).n) ls) x.neg x.num x.den ((r.getD 1 (.int 0)).n) ((r.getD 3 (.int 0)).n) ls)),(1:Int)),by
  rfl,by
  try dsimp only[Bm]
  exact⟨aJ,by omega,by omega⟩,?_⟩
 refine⟨λa8=>?_,λa8=>?_⟩;try dsimp only at a8
 simp only[nrm]at a8;contradiction;try dsimp only at a8
 simp only[nrm]at a8;refine⟨λa9=>?_,λa9=>?_⟩;try dsimp only at a9
 simp only[nrm]at a9;contradiction;try dsimp only at a9
 simp only[nrm]at a9
 refine⟨r,by
  rfl,by
  exact⟨hb,by omega⟩,?_⟩
 refine⟨(AN ls),by
  rfl,by
  exact g3,?_⟩
 refine⟨x,by
  rfl,by
  exact gx,?_⟩
 refine⟨(((r.getD 0 (.int 0)).n),((r.getD 1 (.int 0)).n),((r.getD 2 (.int 0)).n),((r.getD 3 (.int 0)).n),ls,x.neg,x.num,x.den),by
  rfl,by
  try dsimp only[B4]
  exact⟨⟨g1,g2,f0,f1,f2,f3⟩,rx.1⟩,?_⟩
 refine⟨Bs (wlR (evR ((r.getD 0 (.int 0)).n) ((r.getD 1 (.int 0)).n) ((r.getD 2 (.int 0)).n) ((r.getD 3 (.int 0)).n) ls) x.neg x.num x.den ((r.getD 1 (.int 0)).n) ((r.getD 3 (.int 0)).n) ls),by
  rfl,by
  try dsimp only[Ba]
  (show(Bs (wlR (evR ((r.getD 0 (.int 0)).n) ((r.getD 1 (.int 0)).n) ((r.getD 2 (.int 0)).n) ((r.getD 3 (.int 0)).n) ls) x.neg x.num x.den ((r.getD 1 (.int 0)).n) ((r.getD 3 (.int 0)).n) ls)).length<=_;omega),?_⟩
 refine⟨λaP=>?_,λaP=>?_⟩;simp only[nrm]at aP;contradiction;simp only[nrm]at aP
 refine⟨((Bs (wlR (evR ((r.getD 0 (.int 0)).n) ((r.getD 1 (.int 0)).n) ((r.getD 2 (.int 0)).n) ((r.getD 3 (.int 0)).n) ls) x.neg x.num x.den ((r.getD 1 (.int 0)).n) ((r.getD 3 (.int 0)).n) ls)),(1:Int)),by
  rfl,by
  try dsimp only[Bm]
  exact⟨aJ,by omega,by omega⟩,?_⟩
 refine⟨λaA=>?_,λaA=>?_⟩;try dsimp only at aA
 simp only[nrm]at aA;contradiction;try dsimp only at aA
 simp only[nrm]at aA;refine⟨λa2=>?_,λa2=>?_⟩;try dsimp only at a2
 simp only[nrm]at a2;contradiction;try dsimp only at a2
 simp only[nrm]at a2;exact rfl
theorem Zx{ds:List Dat}(h:hasRow [.bool,.sl 3 [.int],.sl 3 [.int]] ds):∃x:RatD,ds=[.bool x.neg,.sl x.num,.sl x.den]:=by obtain⟨_,_,rfl,q0,h0⟩:=h.cons;obtain⟨n,rfl⟩:=Dat.has_bool q0;obtain⟨_,_,rfl,q1,h1⟩:=h0.cons;obtain⟨m,rfl⟩:=Dat.has_sl q1;obtain⟨_,_,rfl,q2,h2⟩:=h1.cons;obtain⟨d,rfl⟩:=Dat.has_sl q2;obtain rfl:=hasRow.nil h2;exact⟨⟨n,m,d⟩,rfl⟩
end Go.Proofs.YthoidhehmmcgnaaGreat
