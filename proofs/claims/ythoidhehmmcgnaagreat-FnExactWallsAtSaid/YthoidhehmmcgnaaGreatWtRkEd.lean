import Derived.Test.YthoidhehmmcgnaaGreatWtRkJ
namespace Go.Proofs.YthoidhehmmcgnaaGreat
set_option maxRecDepth 100000
set_option linter.unusedVariables false
set_option linter.unusedSimpArgs false
open Go.RowKit
def rOf(n d:Int):Fr:=if d=0 then Fr.none else Fr.mk' (zOf (decide (n<0) != decide (d<0)) n.natAbs) d.natAbs
theorem X8{n d:Int}(h:d=0):rOf n d=Fr.none:=by unfold rOf;rw[if_pos h]
theorem Ll{n d:Int}(h:d≠0):rOf n d=Fr.mk' (zOf (decide (n<0) != decide (d<0)) n.natAbs) d.natAbs:=by unfold rOf;rw[if_neg h]
theorem Lm{x:Int}(h:nl x.natAbs<=60):Bg (decide (x<0)) (L x.natAbs)=true:=by rw[RE,decide_eq_true h]
theorem ZP(x y:Int):E9 (zOf (decide (x<0) != decide (y<0)) x.natAbs) y.natAbs=rOf x y:=by by_cases h:y=0;rw[X8 h,TA (by omega)];rw[Ll h,Gh (by omega)]
structure Edg where
 a:V2
 b:V2
 k:Int
 low:Bool
def Edg.ok(e:Edg):Bool:=A1 e.a && (A1 e.b && decide (e.a.1<e.b.1))
def slp(e:Edg):Fr:=rOf (e.b.2-e.a.2) (e.b.1-e.a.1)
def hgt(e:Edg)(x:Fr):Fr:=Fr.add (Fr.ofInt e.a.2) (Fr.mul (slp e) (Fr.sub x (Fr.ofInt e.a.1)))
def spn(e:Edg)(lo hi:Fr):Bool:=decide (Fr.cmp (Fr.ofInt e.a.1) lo<=0) && decide (Fr.cmp (Fr.ofInt e.b.1) hi>=0)
theorem Edg.bd{e:Edg}(h:e.ok=true):((-1000<=e.a.1/\e.a.1<=1000)/\-1000<=e.a.2/\e.a.2<=1000)/\((-1000<=e.b.1/\e.b.1<=1000)/\-1000<=e.b.2/\e.b.2<=1000)/\e.a.1<e.b.1:=by unfold Edg.ok at h;simp only[Bool.and_eq_true,decide_eq_true_eq]at h;have h1:=Ow h.1;have h2:=Ow h.2.1;exact⟨⟨⟨h1.1,h1.2.1⟩,h1.2.2⟩,⟨⟨h2.1,h2.2.1⟩,h2.2.2⟩,h.2.2⟩
theorem Edg.vecs{e:Edg} : e.ok=(A1 e.a && (A1 e.b && decide (e.a.1<e.b.1))):=rfl
def Gm:Con:={ι:=Int×Int,pre:=λi=>nl i.1.natAbs<=60/\nl i.2.natAbs<=60,args:=λi=>[dB i.1,dB i.2],res:=λi=>⟨false,[none],[rcB true]⟩}
theorem WG:Gm.Ok Tryz.prog 204:=by
 refine fok (X:=⟨tt,[(213,C1)],[],11,[]⟩) mixed AG (CTok.cons RG (CTok.nil _)) Tryz.func204 (λ_=>[]) ?_;rintro⟨x,y⟩ a0;have a0:nl x.natAbs<=60/\nl y.natAbs<=60:=a0;refine AH (q:=∃i1:Bool×(List (List Dat)),[dB x]=C1.args i1/\C1.pre i1/\(ifB ((Bg i1.1 i1.2)) (∃i2:Bool×(List (List Dat)),[dB y]=C1.args i2/\C1.pre i2/\((vB (Bg i2.1 i2.2)=vB true))) ((vB false=vB true)))) (by kernel_rfl) ?_;delta ifB vB;have e1:=Lm (x:=x) a0.1;have e2:=Lm (x:=y) a0.2
 refine⟨(decide (x<0),(L x.natAbs)),by
  rfl,by
  show(L x.natAbs).length<=9223372036854775807;rw[AJ];omega,?_⟩
 refine And.symm ⟨λc4=>?_,λc4=>?_⟩;simp only[nrm]at c4;rw[e1]at c4;cases c4;simp only[nrm]at c4
 refine⟨(decide (y<0),(L y.natAbs)),by
  rfl,by
  show(L y.natAbs).length<=9223372036854775807;rw[AJ];omega,?_⟩
 rw[e2]
def Ea:Con:={ι:=Int×Int,pre:=λi=>nl i.1.natAbs<=24/\nl i.2.natAbs<=24,args:=λi=>[dB i.1,dB i.2],res:=λi=>⟨false,[some 3],[rcB (decide ((rOf i.1 i.2).z<0)),.own 3 [.int] (L (rOf i.1 i.2).z.natAbs),.own 3 [.int] (L (rOf i.1 i.2).d)]⟩}
theorem RQ:Ea.Ok Tryz.prog 185:=by
 refine fok (X:=⟨tt,[(204,Gm),(152,Al),(169,BK)],[],27,[]⟩) mixed AG (CTok.cons WG (CTok.cons E8 (CTok.cons Gc (CTok.nil _)))) Tryz.func185 (λ_=>[]) ?_;rintro⟨x,y⟩ a0;have a0:nl x.natAbs<=24/\nl y.natAbs<=24:=a0;refine AH (q:=∃i1:Int×Int,[dB x,dB y]=Gm.args i1/\Gm.pre i1/\(ifB ((!(!true))) (ifB (((nI ((L y.natAbs).length)) == (0:Int))) ((eqN (rOf x y))) (∃i2:Bool×Nat,[DA.one (cB ((decide (x<0)) != (decide (y<0)))),DA.one (cS (L x.natAbs))]=Al.args i2/\Al.pre i2/\(∃i3:Int×Nat,[dB (zOf i2.1 i2.2),DA.one (cS (L y.natAbs))]=BK.args i3/\BK.pre i3/\((eqC (Fr.mk' i3.1 i3.2) (rOf x y)))))) ((eqN (rOf x y))))) (by kernel_rfl) ?_;delta ifB nI;have ly:=AJ y.natAbs;have lx:=AJ x.natAbs
 refine⟨(x,y),by
  rfl,by
  show nl x.natAbs<=60/\nl y.natAbs<=60;exact⟨by omega,by omega⟩,?_⟩
 refine And.symm ⟨λc4=>?_,λc4=>?_⟩;simp only[nrm]at c4;refine Ax ?_;contradiction;simp only[nrm]at c4;refine⟨λc5=>?_,λc5=>?_⟩;simp only[nrm]at c5;have hy:y=0:=by have:=Ck.1 (show nl y.natAbs=0 by omega);omega
 refine Ax ?_;rw[X8 hy];simp only[nrm]at c5;have hy:y≠0:=by rintro rfl;exact c5 (by rw[ly];simp[CP])
 refine⟨(((decide (x<0)) != (decide (y<0))),x.natAbs),by
  rfl,by
  trivial,?_⟩
 refine⟨((zOf ((decide (x<0)) != (decide (y<0))) x.natAbs),y.natAbs),by
  rfl,by
  show y.natAbs≠0/\nl (zOf ((decide (x<0)) != (decide (y<0))) x.natAbs).natAbs<=1000/\nl y.natAbs<=1000;exact⟨by omega,by rw[EV];omega,by omega⟩,?_⟩
 refine Bo ?_;rw[Ll hy]
def IQ:Con:={ι:=Int×Int,pre:=λi=>(-9223372036854775808<=i.1/\i.1<=9223372036854775807)/\(-9223372036854775808<=i.2/\i.2<=9223372036854775807),args:=λi=>[.one (cI i.1),.one (cI i.2)],res:=λi=>⟨false,[some 3],[rcB (decide ((rOf i.1 i.2).z<0)),.own 3 [.int] (L (rOf i.1 i.2).z.natAbs),.own 3 [.int] (L (rOf i.1 i.2).d)]⟩}
theorem X9:IQ.Ok Tryz.prog 168:=by
 refine fok (X:=⟨tt,[(121,C0),(185,Ea)],[],10,[]⟩) mixed AG (CTok.cons RF (CTok.cons RQ (CTok.nil _))) Tryz.func168 (λ_=>[]) ?_;rintro⟨n,d⟩ a0;have a0:(-9223372036854775808<=n/\n<=9223372036854775807)/\(-9223372036854775808<=d/\d<=9223372036854775807):=a0;refine AH (q:=∃i1:Int,[DA.one (cI n)]=C0.args i1/\C0.pre i1/\(∃i2:Int,[DA.one (cI d)]=C0.args i2/\C0.pre i2/\(∃i3:Int×Int,[dB i1,dB i2]=Ea.args i3/\Ea.pre i3/\((eqC (rOf i3.1 i3.2) (rOf n d)))))) (by kernel_rfl) ?_
 refine⟨n,by
  rfl,by
  exact a0.1,?_⟩
 refine⟨d,by
  rfl,by
  exact a0.2,?_⟩
 refine⟨(n,d),by
  rfl,by
  exact⟨Nat.le_trans (Cd a0.1) (by decide),Nat.le_trans (Cd a0.2) (by decide)⟩,?_⟩
 exact Bo rfl
def EC:Con:={ι:=Int×Int,pre:=λi=>nl i.1.natAbs<=24/\nl i.2.natAbs<=24,args:=λi=>[dB i.1,dB i.2],res:=λi=>⟨false,[some 3],[rcB (decide ((rOf i.1 i.2).z<0)),.own 3 [.int] (L (rOf i.1 i.2).z.natAbs),.own 3 [.int] (L (rOf i.1 i.2).d)]⟩}
theorem Pf:EC.Ok Tryz.prog 124:=by
 refine fok (X:=⟨tt,[(130,BV),(125,Au)],[],24,[]⟩) mixed AG (CTok.cons Jb (CTok.cons IP (CTok.nil _))) Tryz.func124 (λ_=>[]) ?_;rintro⟨x,y⟩ a0;have a0:nl x.natAbs<=24/\nl y.natAbs<=24:=a0;refine AH (q:=∃i1:Bool×(List (List Dat)),[dB x]=BV.args i1/\BV.pre i1/\(ifB ((!(!(Bg i1.1 i1.2)))) (∃i2:Bool×(List (List Dat)),[dB y]=BV.args i2/\BV.pre i2/\(ifB ((!(Bg i2.1 i2.2))) ((eqN (rOf x y))) (∃i3:Bool×Nat×Nat×Int,[DA.one (cB ((decide (x<0)) != (decide (y<0)))),DA.one (cS (L x.natAbs)),DA.one (cS (L y.natAbs))]=Au.args i3/\Au.pre i3/\((eqC (E9 i3.2.2.2 i3.2.2.1) (rOf x y)))))) ((eqN (rOf x y))))) (by kernel_rfl) ?_;delta ifB;have e1:=Lm (x:=x) (Nat.le_trans a0.1 (by decide));have e2:=Lm (x:=y) (Nat.le_trans a0.2 (by decide));have ly:=AJ y.natAbs;have lx:=AJ x.natAbs
 refine⟨(decide (x<0),(L x.natAbs)),by
  rfl,by
  show(L x.natAbs).length<=9223372036854775807;rw[AJ];omega,?_⟩
 refine And.symm ⟨λc4=>?_,λc4=>?_⟩;simp only[nrm]at c4;rw[e1]at c4;cases c4;simp only[nrm]at c4
 refine⟨(decide (y<0),(L y.natAbs)),by
  rfl,by
  show(L y.natAbs).length<=9223372036854775807;rw[AJ];omega,?_⟩
 refine⟨λc8=>?_,λc8=>?_⟩;simp only[nrm]at c8;rw[e2]at c8;cases c8;simp only[nrm]at c8
 refine⟨(((decide (x<0)) != (decide (y<0))),x.natAbs,y.natAbs,(zOf ((decide (x<0)) != (decide (y<0))) x.natAbs)),by
  rfl,by
  show nl x.natAbs<=1000/\nl y.natAbs<=1000/\zOf ((decide (x<0)) != (decide (y<0))) x.natAbs=(zOf ((decide (x<0)) != (decide (y<0))) x.natAbs);exact⟨by omega,by omega,rfl⟩,?_⟩
 refine Bo ?_;exact ZP _ _
def BS:Con:={ι:=Int×Int,pre:=λi=>(-9223372036854775808<=i.1/\i.1<=9223372036854775807)/\(-9223372036854775808<=i.2/\i.2<=9223372036854775807),args:=λi=>[.one (cI i.1),.one (cI i.2)],res:=λi=>⟨false,[some 3],[rcB (decide ((rOf i.1 i.2).z<0)),.own 3 [.int] (L (rOf i.1 i.2).z.natAbs),.own 3 [.int] (L (rOf i.1 i.2).d)]⟩}
theorem KV:BS.Ok Tryz.prog 91:=by
 refine fok (X:=⟨tt,[(88,BW),(124,EC)],[],10,[]⟩) mixed AG (CTok.cons Jc (CTok.cons Pf (CTok.nil _))) Tryz.func91 (λ_=>[]) ?_;rintro⟨n,d⟩ a0;have a0:(-9223372036854775808<=n/\n<=9223372036854775807)/\(-9223372036854775808<=d/\d<=9223372036854775807):=a0;refine AH (q:=∃i1:Int,[DA.one (cI n)]=BW.args i1/\BW.pre i1/\(∃i2:Int,[DA.one (cI d)]=BW.args i2/\BW.pre i2/\(∃i3:Int×Int,[dB i1,dB i2]=EC.args i3/\EC.pre i3/\((eqC (rOf i3.1 i3.2) (rOf n d)))))) (by kernel_rfl) ?_
 refine⟨n,by
  rfl,by
  exact a0.1,?_⟩
 refine⟨d,by
  rfl,by
  exact a0.2,?_⟩
 refine⟨(n,d),by
  rfl,by
  exact⟨Nat.le_trans (Cd a0.1) (by decide),Nat.le_trans (Cd a0.2) (by decide)⟩,?_⟩
 exact Bo rfl
theorem Ul(e:Edg):([e.a,e.b].all A1)=(A1 e.a && A1 e.b):=by simp
def GD(e f:Edg):Fr:=Fr.div (Fr.sub (hgt f (Fr.ofInt 0)) (hgt e (Fr.ofInt 0))) (Fr.sub (slp e) (slp f))
def C4(e f:Edg):Bool:=(GD e f).good && (spn e (GD e f) (GD e f) && spn f (GD e f) (GD e f))
def FH(e f:Edg):Fr:=if C4 e f=true then GD e f else Fr.none
def La(e:Edg)(y:Int):Fr:=Fr.add (Fr.ofInt e.a.1) (Fr.div (Fr.ofInt (y-e.a.2)) (slp e))
def Bh(e:Edg)(y:Int):Bool:=!(decide (e.a.2=e.b.2)) && ((decide (y>=-1000) && decide (y<=1000)) && ((La e y).good && spn e (La e y) (La e y)))
def CH(e:Edg)(y:Int):Fr:=if Bh e y=true then La e y else Fr.none
theorem IR{e f:Edg}(h:C4 e f=false):FH e f=Fr.none:=by unfold FH;rw[if_neg (by rw[h];simp)]
theorem NA{e f:Edg}(h:C4 e f=true):FH e f=GD e f:=by unfold FH;rw[if_pos h]
theorem Gp{e:Edg}{y:Int}(h:Bh e y=false):CH e y=Fr.none:=by unfold CH;rw[if_neg (by rw[h];simp)]
theorem NB{e:Edg}{y:Int}(h:Bh e y=true):CH e y=La e y:=by unfold CH;rw[if_pos h]
def CU:Con:={ι:=Edg,pre:=λi=>True,args:=λi=>[DA.agg [cI i.a.1,cI i.a.2,cI i.b.1,cI i.b.2,cI i.k,cB i.low]],res:=λi=>⟨false,[none],[rcB i.ok]⟩}
theorem Oa:CU.Ok Tryz.prog 139:=by
 refine fok (X:=⟨tt,[(137,FW)],[],18,[]⟩) mixed AG (CTok.cons TL (CTok.nil _)) Tryz.func139 (λ_=>[]) ?_;intro (e:Edg) a0;have a0:True:=a0;refine AH (q:=∃i1:(List V2),[DA.one (DC.sl 36 [.int,.int] ([[Dat.int e.a.1,Dat.int e.a.2],[Dat.int e.b.1,Dat.int e.b.2]]:List (List Dat)))]=FW.args i1/\FW.pre i1/\(ifB ((i1.all A1)) ((vB (decide (e.a.1<e.b.1))=vB e.ok)) ((vB false=vB e.ok)))) (by kernel_rfl) ?_;delta ifB vB
 refine⟨[e.a,e.b],by
  rfl,by
  trivial,?_⟩
 refine⟨λc4=>?_,λc4=>?_⟩;rw[Ul]at c4;refine congrArg Value.bool ?_;unfold Edg.ok;rw[← Bool.and_assoc,c4];simp;rw[Ul]at c4;refine congrArg Value.bool ?_;unfold Edg.ok;rw[← Bool.and_assoc,c4];simp
def BH:Con:={ι:=Edg,pre:=λi=>True,args:=λi=>[DA.agg [cI i.a.1,cI i.a.2,cI i.b.1,cI i.b.2,cI i.k,cB i.low]],res:=λi=>⟨false,[none],[rcB i.ok]⟩}
theorem IS:BH.Ok Tryz.prog 90:=by
 refine fok (X:=⟨tt,[(86,D7)],[],20,[]⟩) mixed AG (CTok.cons WD (CTok.nil _)) Tryz.func90 (λ_=>[]) ?_;intro (e:Edg) a0;have a0:True:=a0;refine AH (q:=∃i1:Int×Int,[DA.agg [cI e.a.1,cI e.a.2]]=D7.args i1/\D7.pre i1/\(ifB ((A1 (i1.1,i1.2))) (∃i2:Int×Int,[DA.agg [cI e.b.1,cI e.b.2]]=D7.args i2/\D7.pre i2/\(ifB ((A1 (i2.1,i2.2))) ((vB (decide (e.a.1<e.b.1))=vB e.ok)) ((vB false=vB e.ok)))) ((vB false=vB e.ok)))) (by kernel_rfl) ?_;delta ifB vB
 refine⟨(e.a.1,e.a.2),by
  rfl,by
  trivial,?_⟩
 refine And.symm ⟨λc4=>?_,λc4=>?_⟩;simp only[nrm]at c4;refine congrArg Value.bool ?_;rw[Edg.vecs];simp_all;simp only[nrm]at c4
 refine⟨(e.b.1,e.b.2),by
  rfl,by
  trivial,?_⟩
 refine⟨λc8=>?_,λc8=>?_⟩;simp only[nrm]at c8;refine congrArg Value.bool ?_;rw[Edg.vecs];simp_all;simp only[nrm]at c8;refine congrArg Value.bool ?_;rw[Edg.vecs];simp_all
def Bt:Con:={ι:=Edg,pre:=λi=>i.ok=true,args:=λi=>[DA.agg [cI i.a.1,cI i.a.2,cI i.b.1,cI i.b.2,cI i.k,cB i.low]],res:=λi=>⟨false,[some 3],[rcB (decide ((slp i).z<0)),.own 3 [.int] (L (slp i).z.natAbs),.own 3 [.int] (L (slp i).d)]⟩}
theorem NC:Bt.Ok Tryz.prog 141:=by
 refine fok (X:=⟨tt,[(168,IQ)],[],18,[]⟩) mixed AG (CTok.cons X9 (CTok.nil _)) Tryz.func141 (λ_=>[]) ?_;intro (e:Edg) a0;have a0:e.ok=true:=a0;refine AH (q:=∃i1:Int×Int,[DA.one (cI (wR (e.b.2-e.a.2))),DA.one (cI (wR (e.b.1-e.a.1)))]=IQ.args i1/\IQ.pre i1/\((eqC (rOf i1.1 i1.2) (slp e)))) (by kernel_rfl) ?_;delta wR;have hb:=Edg.bd a0;have hw1:IntKind.i64.wrap (e.b.2-e.a.2)=e.b.2-e.a.2:=AB (by omega) (by omega);have hw2:IntKind.i64.wrap (e.b.1-e.a.1)=e.b.1-e.a.1:=AB (by omega) (by omega)
 refine⟨(e.b.2-e.a.2,e.b.1-e.a.1),by
  rw[hw1,hw2];rfl,by
  exact⟨⟨by omega,by omega⟩,by omega,by omega⟩,?_⟩
 refine Bo ?_;rfl
def Bi:Con:={ι:=Edg×Fr,pre:=λi=>i.1.ok=true,args:=λi=>[DA.agg [cI i.1.a.1,cI i.1.a.2,cI i.1.b.1,cI i.1.b.2,cI i.1.k,cB i.1.low],dF i.2],res:=λi=>⟨false,[some 3],[rcB (decide ((hgt i.1 i.2).z<0)),.own 3 [.int] (L (hgt i.1 i.2).z.natAbs),.own 3 [.int] (L (hgt i.1 i.2).d)]⟩}
theorem LP:Bi.Ok Tryz.prog 113:=by
 refine fok (X:=⟨tt,[(82,AT),(141,Bt),(140,CR),(147,Gd),(143,B6)],[],19,[]⟩) mixed AG (CTok.cons Ek (CTok.cons NC (CTok.cons OR (CTok.cons V4 (CTok.cons KP (CTok.nil _)))))) Tryz.func113 (λ_=>[]) ?_;rintro⟨e,x⟩ a0;have a0:e.ok=true:=a0;refine AH (q:=∃i1:Int,[DA.one (cI e.a.2)]=AT.args i1/\AT.pre i1/\(∃i2:Edg,[DA.agg [cI e.a.1,cI e.a.2,cI e.b.1,cI e.b.2,cI e.k,cB e.low]]=Bt.args i2/\Bt.pre i2/\(∃i3:Int,[DA.one (cI e.a.1)]=AT.args i3/\AT.pre i3/\(∃i4:Fr×Fr,[dF x,dF (Fr.ofInt i3)]=CR.args i4/\CR.pre i4/\(∃i5:Fr×Fr,[dF (slp i2),dF (Fr.sub i4.1 i4.2)]=Gd.args i5/\Gd.pre i5/\(∃i6:Fr×Fr,[dF (Fr.ofInt i1),dF (Fr.mul i5.1 i5.2)]=B6.args i6/\B6.pre i6/\((eqC (Fr.add i6.1 i6.2) (hgt e x))))))))) (by kernel_rfl) ?_;have hb:=Edg.bd a0
 refine⟨e.a.2,by
  rfl,by
  exact⟨by omega,by omega⟩,?_⟩
 refine⟨e,by
  rfl,by
  exact a0,?_⟩
 refine⟨e.a.1,by
  rfl,by
  exact⟨by omega,by omega⟩,?_⟩
 refine⟨(x,(Fr.ofInt e.a.1)),by
  rfl,by
  trivial,?_⟩
 refine⟨((slp e),(Fr.sub x (Fr.ofInt e.a.1))),by
  rfl,by
  trivial,?_⟩
 refine⟨((Fr.ofInt e.a.2),(Fr.mul (slp e) (Fr.sub x (Fr.ofInt e.a.1)))),by
  rfl,by
  trivial,?_⟩
 refine Bo ?_;rfl
def Bu:Con:={ι:=Edg×Fr×Fr,pre:=λi=>i.1.ok=true,args:=λi=>[DA.agg [cI i.1.a.1,cI i.1.a.2,cI i.1.b.1,cI i.1.b.2,cI i.1.k,cB i.1.low],dF i.2.1,dF i.2.2],res:=λi=>⟨false,[none],[rcB (spn i.1 i.2.1 i.2.2)]⟩}
theorem ND:Bu.Ok Tryz.prog 112:=by
 refine fok (X:=⟨tt,[(82,AT),(81,AI)],[],23,[]⟩) mixed AG (CTok.cons Ek (CTok.cons D0 (CTok.nil _))) Tryz.func112 (λ_=>[]) ?_;rintro⟨e,x,y⟩ a0;have a0:e.ok=true:=a0;refine AH (q:=∃i1:Int,[DA.one (cI e.a.1)]=AT.args i1/\AT.pre i1/\(∃i2:Fr×Fr,[dF (Fr.ofInt i1),dF x]=AI.args i2/\AI.pre i2/\(ifB ((decide ((Fr.cmp i2.1 i2.2)<=(0:Int)))) (∃i3:Int,[DA.one (cI e.b.1)]=AT.args i3/\AT.pre i3/\(∃i4:Fr×Fr,[dF (Fr.ofInt i3),dF y]=AI.args i4/\AI.pre i4/\((vB (decide ((Fr.cmp i4.1 i4.2)>=(0:Int)))=vB (spn e x y))))) ((vB false=vB (spn e x y)))))) (by kernel_rfl) ?_;delta ifB vB;have hb:=Edg.bd a0
 refine⟨e.a.1,by
  rfl,by
  exact⟨by omega,by omega⟩,?_⟩
 refine⟨((Fr.ofInt e.a.1),x),by
  rfl,by
  trivial,?_⟩
 refine And.symm ⟨λc7=>?_,λc7=>?_⟩;simp only[nrm]at c7;refine congrArg Value.bool ?_;unfold spn;first|(·simp_all)|(·rw[decide_eq_false (by omega)];simp_all)|(·rw[decide_eq_true (by omega)];simp_all)
 simp only[nrm]at c7
 refine⟨e.b.1,by
  rfl,by
  exact⟨by omega,by omega⟩,?_⟩
 refine⟨((Fr.ofInt e.b.1),y),by
  rfl,by
  trivial,?_⟩
 refine congrArg Value.bool ?_;unfold spn;first|(·simp_all)|(·rw[decide_eq_false (by omega)];simp_all)|(·rw[decide_eq_true (by omega)];simp_all)
def BX:Con:={ι:=Edg×Fr,pre:=λi=>i.1.ok=true,args:=λi=>[DA.agg [cI i.1.a.1,cI i.1.a.2,cI i.1.b.1,cI i.1.b.2,cI i.1.k,cB i.1.low],dF i.2],res:=λi=>⟨false,[some 3],[rcB (decide ((hgt i.1 i.2).z<0)),.own 3 [.int] (L (hgt i.1 i.2).z.natAbs),.own 3 [.int] (L (hgt i.1 i.2).d)]⟩}
theorem Jg:BX.Ok Tryz.prog 94:=by
 refine fok (X:=⟨tt,[(90,BH),(51,AE),(93,Bx),(91,BS),(129,FR),(96,Cn)],[],38,[]⟩) mixed AG (CTok.cons IS (CTok.cons Bq (CTok.cons M7 (CTok.cons KV (CTok.cons TC (CTok.cons M6 (CTok.nil _))))))) Tryz.func94 (λ_=>[]) ?_;rintro⟨e,x⟩ a0;have a0:e.ok=true:=a0;refine AH (q:=∃i1:Edg,[DA.agg [cI e.a.1,cI e.a.2,cI e.b.1,cI e.b.2,cI e.k,cB e.low]]=BH.args i1/\BH.pre i1/\(ifB ((!i1.ok)) ((eqN (hgt e x))) (∃i2:Int,[DA.one (cI e.a.1)]=AE.args i2/\AE.pre i2/\(∃i3:Fr×Fr,[dF x,dF (Fr.ofInt i2)]=Bx.args i3/\Bx.pre i3/\(∃i4:Int,[DA.one (cI e.a.2)]=AE.args i4/\AE.pre i4/\(∃i5:Int×Int,[DA.one (cI (wR (e.b.2-e.a.2))),DA.one (cI (wR (e.b.1-e.a.1)))]=BS.args i5/\BS.pre i5/\(∃i6:Fr×Fr,[dF (Fr.sub i3.1 i3.2),dF (rOf i5.1 i5.2)]=FR.args i6/\FR.pre i6/\(∃i7:Fr×Fr,[dF (Fr.ofInt i4),dF (Fr.mul i6.1 i6.2)]=Cn.args i7/\Cn.pre i7/\((eqC (Fr.add i7.1 i7.2) (hgt e x))))))))))) (by kernel_rfl) ?_;delta ifB wR;have hb:=Edg.bd a0;have hw1:IntKind.i64.wrap (e.b.2-e.a.2)=e.b.2-e.a.2:=AB (by omega) (by omega);have hw2:IntKind.i64.wrap (e.b.1-e.a.1)=e.b.1-e.a.1:=AB (by omega) (by omega)
 refine⟨e,by
  rfl,by
  trivial,?_⟩
 refine⟨λc4=>?_,λc4=>?_⟩;simp only[nrm]at c4;rw[a0]at c4;cases c4;simp only[nrm]at c4
 refine⟨e.a.1,by
  rfl,by
  exact⟨by omega,by omega⟩,?_⟩
 refine⟨(x,(Fr.ofInt e.a.1)),by
  rfl,by
  trivial,?_⟩
 refine⟨e.a.2,by
  rfl,by
  exact⟨by omega,by omega⟩,?_⟩
 refine⟨(e.b.2-e.a.2,e.b.1-e.a.1),by
  rw[hw1,hw2];rfl,by
  exact⟨by omega,by omega⟩,?_⟩
 refine⟨((Fr.sub x (Fr.ofInt e.a.1)),(rOf (e.b.2-e.a.2) (e.b.1-e.a.1))),by
  rfl,by
  trivial,?_⟩
 refine⟨((Fr.ofInt e.a.2),(Fr.mul (Fr.sub x (Fr.ofInt e.a.1)) (rOf (e.b.2-e.a.2) (e.b.1-e.a.1)))),by
  rfl,by
  trivial,?_⟩
 refine Bo ?_;unfold hgt;rw[Fr.mul_com];rfl
def Bd:Con:={ι:=Edg×Fr×Fr,pre:=λi=>i.1.ok=true,args:=λi=>[DA.agg [cI i.1.a.1,cI i.1.a.2,cI i.1.b.1,cI i.1.b.2,cI i.1.k,cB i.1.low],dF i.2.1,dF i.2.2],res:=λi=>⟨false,[none],[rcB (i.2.1.good && (i.2.2.good && spn i.1 i.2.1 i.2.2))]⟩}
theorem KW:Bd.Ok Tryz.prog 95:=by
 refine fok (X:=⟨tt,[(90,BH),(97,AD),(51,AE),(55,AR)],[],35,[]⟩) mixed AG (CTok.cons IS (CTok.cons DW (CTok.cons Bq (CTok.cons D6 (CTok.nil _))))) Tryz.func95 (λ_=>[]) ?_;rintro⟨e,x,y⟩ a0;have a0:e.ok=true:=a0;refine AH (q:=let Z3:=x.good && (y.good && spn e x y);let Z2:=List (List Dat);let Z1:=(vB false=vB Z3);∃i1:Edg,[DA.agg [cI e.a.1,cI e.a.2,cI e.b.1,cI e.b.2,cI e.k,cB e.low]]=BH.args i1/\BH.pre i1/\(ifB (i1.ok) (∃i2:Bool×Z2×Z2×Bool,[dF x]=AD.args i2/\AD.pre i2/\(ifB (i2.2.2.2) (∃i3:Bool×Z2×Z2×Bool,[dF y]=AD.args i3/\AD.pre i3/\(ifB (i3.2.2.2) (∃i4:Int,[DA.one (cI e.a.1)]=AE.args i4/\AE.pre i4/\(∃i5:Fr×Fr,[dF (Fr.ofInt i4),dF x]=AR.args i5/\AR.pre i5/\(ifB ((decide ((Fr.cmp i5.1 i5.2)<=(0:Int)))) (∃i6:Int,[DA.one (cI e.b.1)]=AE.args i6/\AE.pre i6/\(∃i7:Fr×Fr,[dF (Fr.ofInt i6),dF y]=AR.args i7/\AR.pre i7/\((vB (decide ((Fr.cmp i7.1 i7.2)>=(0:Int)))=vB Z3)))) Z1))) Z1)) Z1)) Z1)) (by kernel_rfl) ?_;conv=>zeta
 delta ifB vB;have hb:=Edg.bd a0;have h1x:=x.nlz;have h2x:=x.nld;have l1x:=AJ x.d;have l2x:=AJ x.z.natAbs;have h1y:=y.nlz;have h2y:=y.nld;have l1y:=AJ y.d;have l2y:=AJ y.z.natAbs
 refine⟨e,by
  rfl,by
  trivial,?_⟩
 refine And.symm ⟨λc4=>?_,λc4=>?_⟩;rw[a0]at c4;cases c4
 refine⟨(decide (x.z<0),(L x.z.natAbs),(L x.d),x.good),by
  rfl,by
  try dsimp only[AD]
  exact⟨BP _ (by omega),BP _ (by omega),by omega,by omega,BO _⟩,?_⟩
 refine And.symm ⟨λc8=>?_,λc8=>?_⟩;simp only[nrm]at c8;refine congrArg Value.bool ?_;unfold spn;first|(·simp_all)|(·rw[decide_eq_false (by omega)];simp_all)|(·rw[decide_eq_true (by omega)];simp_all)
 simp only[nrm]at c8
 refine⟨(decide (y.z<0),(L y.z.natAbs),(L y.d),y.good),by
  rfl,by
  try dsimp only[AD]
  exact⟨BP _ (by omega),BP _ (by omega),by omega,by omega,BO _⟩,?_⟩
 refine And.symm ⟨λa1=>?_,λa1=>?_⟩;simp only[nrm]at a1;refine congrArg Value.bool ?_;unfold spn;first|(·simp_all)|(·rw[decide_eq_false (by omega)];simp_all)|(·rw[decide_eq_true (by omega)];simp_all)
 simp only[nrm]at a1
 refine⟨e.a.1,by
  rfl,by
  exact⟨by omega,by omega⟩,?_⟩
 refine⟨((Fr.ofInt e.a.1),x),by
  rfl,by
  trivial,?_⟩
 refine And.symm ⟨λa2=>?_,λa2=>?_⟩;simp only[nrm]at a2;refine congrArg Value.bool ?_;unfold spn;first|(·simp_all)|(·rw[decide_eq_false (by omega)];simp_all)|(·rw[decide_eq_true (by omega)];simp_all)
 simp only[nrm]at a2
 refine⟨e.b.1,by
  rfl,by
  exact⟨by omega,by omega⟩,?_⟩
 refine⟨((Fr.ofInt e.b.1),y),by
  rfl,by
  trivial,?_⟩
 refine congrArg Value.bool ?_;unfold spn;first|(·simp_all)|(·rw[decide_eq_false (by omega)];simp_all)|(·rw[decide_eq_true (by omega)];simp_all)
theorem ED{d:Int}(h:d≠0):(d:Rat)≠0:=λe=>h (by have:=congrArg Rat.num e;simpa using this)
theorem YA(n d:Int)(h:d≠0):mkRat (zOf (decide (n<0) != decide (d<0)) n.natAbs) d.natAbs=(n:Rat)/(d:Rat):=by
 rw[div_mk (ED h)];have e1:((n:Int):Rat).num=n:=by simp
 have e2:((n:Int):Rat).den=1:=by simp
 have e3:((d:Int):Rat).num=d:=by simp
 have e4:((d:Int):Rat).den=1:=by simp
 rw[e1,e2,e3,e4];congr 1;unfold zOf;by_cases h1:n<0 <;> by_cases h2:d<0 <;> simp[h1,h2] <;> omega;omega
theorem AA8{z:Int}{d:Nat}(hd:d≠0)(h1:nl z.natAbs<=24)(h2:nl d<=24):PS (mkRat z d)=true:=by rw[Dj,Dk hd,(Dx hd).2];exact⟨Nat.le_trans (Cy (Nat.div_le_self _ _)) h1,Nat.le_trans (Cy (Nat.div_le_self _ _)) h2⟩
theorem ABv{n d:Int}(h:d≠0)(h1:nl n.natAbs<=24)(h2:nl d.natAbs<=24):(rOf n d).v=some ((n:Rat)/(d:Rat)):=by rw[Ll h];unfold Fr.mk';rw[← YA n d h];exact Eh (AA8 (by omega) (by rw[EV];exact h1) h2)
theorem WH{n d:Int}(h:d≠0):rOf n d=clamp ((n:Rat)/(d:Rat)):=by rw[Ll h];unfold Fr.mk';rw[YA n d h]
theorem FX{r s:Fr}(hr:r.d≠0)(hs:s.d≠0)(h:Fr.cmp r s=0):r=s:=by obtain⟨p,hp,e1,e2⟩:=Fr.some_d hr;obtain⟨q,hq,e3,e4⟩:=Fr.some_d hs;apply Fr.ext;rw[hp,hq];unfold Fr.cmp LZ at h;rw[hp,hq]at h;simp only at h;by_cases h1:p<q;simp[h1]at h;by_cases h2:p=q;rw[h2];simp[h1,h2]at h
theorem RR{e:Edg}(h:e.ok=true):(slp e).v=some (((e.b.2-e.a.2:Int):Rat)/((e.b.1-e.a.1:Int):Rat)):=by have hb:=Edg.bd h;exact ABv (by omega) (Nat.le_trans (Cd ⟨by omega,by omega⟩) (by decide)) (Nat.le_trans (Cd ⟨by omega,by omega⟩) (by decide))
theorem AAL{e:Edg}(h:e.ok=true):(slp e).d≠0:=by rw[Fr.d_some (RR h)];exact Rat.den_nz _
theorem ZQ{e f:Edg}(he:e.ok=true)(hf:f.ok=true)(h:Fr.cmp (slp e) (slp f)=0):C4 e f=false:=by
 have e1:=FX (AAL he) (AAL hf) h
 have:GD e f=Fr.none:=by
  unfold GD;rw[← e1];have h0:(Fr.sub (slp e) (slp e)).v=some 0:=by unfold Fr.sub Fr.bin;rw[RR he];simp only;rw[Rat.sub_self];exact Eh (Dj.2 ⟨by show nl 0<=24;rw[CP];decide,by show nl 1<=24;rw[PZ];decide⟩)
  exact Fr.div_zero h0 rfl
 unfold C4;rw[this];rfl
theorem YB{m dy dx:Int}(h1:dy≠0)(h2:dx≠0):(m:Rat)/((dy:Rat)/(dx:Rat))=((m*dx:Int):Rat)/(dy:Rat):=by have h3:=ED h1;have h4:=ED h2;rw[Rat.intCast_mul];grind
theorem YC{e:Edg}{y:Int}(h:e.ok=true)(hy:-1000<=y/\y<=1000)(hn:e.a.2≠e.b.2):Fr.add (Fr.ofInt e.a.1) (rOf ((y-e.a.2)*(e.b.1-e.a.1)) (e.b.2-e.a.2))=La e y:=by
 have hb:=Edg.bd h;unfold La;congr 1;have h1:(Fr.ofInt (y-e.a.2)).v=some (((y-e.a.2:Int)):Rat):=JS (Nat.le_trans (Cd ⟨by omega,by omega⟩) (by decide));have h0:¬(((e.b.2-e.a.2:Int):Rat)/((e.b.1-e.a.1:Int):Rat))=0:=by have h3:=ED (show e.b.2-e.a.2≠0 by omega);have h4:=ED (show e.b.1-e.a.1≠0 by omega);grind
 rw[WH (by omega)];unfold Fr.div Fr.bin;rw[h1,RR h];simp only;rw[if_neg h0,YB (by omega) (by omega)]
def Jh:Con:={ι:=Edg×Edg,pre:=λi=>i.1.ok=true/\i.2.ok=true,args:=λi=>[DA.agg [cI i.1.a.1,cI i.1.a.2,cI i.1.b.1,cI i.1.b.2,cI i.1.k,cB i.1.low],DA.agg [cI i.2.a.1,cI i.2.a.2,cI i.2.b.1,cI i.2.b.2,cI i.2.k,cB i.2.low]],res:=λi=>⟨true,[some 3,none],[rcB (decide ((FH i.1 i.2).z<0)),.own 3 [.int] (L (FH i.1 i.2).z.natAbs),.own 3 [.int] (L (FH i.1 i.2).d),rcB (C4 i.1 i.2)]⟩}
theorem ZR:Jh.Ok Tryz.prog 106:=by
 refine fok (X:=⟨tt,[(139,CU),(141,Bt),(140,CR),(82,AT),(113,Bi),(142,DJ),(118,AP),(112,Bu)],[],50,[]⟩) mixed AG (CTok.cons Oa (CTok.cons NC (CTok.cons OR (CTok.cons Ek (CTok.cons LP (CTok.cons OQ (CTok.cons DV (CTok.cons ND (CTok.nil _))))))))) Tryz.func106 (λ_=>[]) ?_;rintro⟨e,f⟩ a0;have a0:e.ok=true/\f.ok=true:=a0;refine AH (q:=let Z1:=(eqM (FH e f) ((vB false=vB (C4 e f))));∃i1:Edg,[DA.agg [cI e.a.1,cI e.a.2,cI e.b.1,cI e.b.2,cI e.k,cB e.low]]=CU.args i1/\CU.pre i1/\(ifB ((!(!i1.ok))) (∃i2:Edg,[DA.agg [cI f.a.1,cI f.a.2,cI f.b.1,cI f.b.2,cI f.k,cB f.low]]=CU.args i2/\CU.pre i2/\(ifB ((!i2.ok)) Z1 (∃i3:Edg,[DA.agg [cI e.a.1,cI e.a.2,cI e.b.1,cI e.b.2,cI e.k,cB e.low]]=Bt.args i3/\Bt.pre i3/\(∃i4:Edg,[DA.agg [cI f.a.1,cI f.a.2,cI f.b.1,cI f.b.2,cI f.k,cB f.low]]=Bt.args i4/\Bt.pre i4/\(∃i5:Fr×Fr,[dF (slp i3),dF (slp i4)]=CR.args i5/\CR.pre i5/\(∃i6:Int,[DA.one (cI (0:Int))]=AT.args i6/\AT.pre i6/\(∃i7:Edg×Fr,[DA.agg [cI f.a.1,cI f.a.2,cI f.b.1,cI f.b.2,cI f.k,cB f.low],dF (Fr.ofInt i6)]=Bi.args i7/\Bi.pre i7/\(∃i8:Int,[DA.one (cI (0:Int))]=AT.args i8/\AT.pre i8/\(∃i9:Edg×Fr,[DA.agg [cI e.a.1,cI e.a.2,cI e.b.1,cI e.b.2,cI e.k,cB e.low],dF (Fr.ofInt i8)]=Bi.args i9/\Bi.pre i9/\(∃a3:Fr×Fr,[dF (hgt i7.1 i7.2),dF (hgt i9.1 i9.2)]=CR.args a3/\CR.pre a3/\(∃a4:Fr×Fr,let Z2:=Fr.div a4.1 a4.2;[dF (Fr.sub a3.1 a3.2),dF (Fr.sub i5.1 i5.2)]=DJ.args a4/\DJ.pre a4/\(∃a5:Fr,[dF Z2]=AP.args a5/\AP.pre a5/\(ifB ((!(!a5.good))) (∃a1:Edg×Fr×Fr,[DA.agg [cI e.a.1,cI e.a.2,cI e.b.1,cI e.b.2,cI e.k,cB e.low],dF Z2,dF Z2]=Bu.args a1/\Bu.pre a1/\(ifB ((!(!(spn a1.1 a1.2.1 a1.2.2)))) (∃a2:Edg×Fr×Fr,[DA.agg [cI f.a.1,cI f.a.2,cI f.b.1,cI f.b.2,cI f.k,cB f.low],dF Z2,dF Z2]=Bu.args a2/\Bu.pre a2/\(ifB ((!(spn a2.1 a2.2.1 a2.2.2))) Z1 ((eqD Z2 (FH e f) ((vB true=vB (C4 e f))))))) Z1)) Z1))))))))))))) Z1)) (by kernel_rfl) ?_;conv=>zeta
 delta ifB vB
 refine⟨e,by
  rfl,by
  trivial,?_⟩
 refine And.symm ⟨λc4=>?_,λc4=>?_⟩;simp only[nrm]at c4;rw[a0.1]at c4;cases c4;simp only[nrm]at c4
 refine⟨f,by
  rfl,by
  trivial,?_⟩
 refine⟨λc8=>?_,λc8=>?_⟩;simp only[nrm]at c8;rw[a0.2]at c8;cases c8;simp only[nrm]at c8
 refine⟨e,by
  rfl,by
  trivial,?_⟩
 refine⟨f,by
  rfl,by
  trivial,?_⟩
 refine⟨((slp e),(slp f)),by
  rfl,by
  trivial,?_⟩
 refine⟨(0:Int),by
  rfl,by
  trivial,?_⟩
 refine⟨(f,(Fr.ofInt (0:Int))),by
  rfl,by
  trivial,?_⟩
 refine⟨(0:Int),by
  rfl,by
  trivial,?_⟩
 refine⟨(e,(Fr.ofInt (0:Int))),by
  rfl,by
  trivial,?_⟩
 refine⟨((hgt f (Fr.ofInt (0:Int))),(hgt e (Fr.ofInt (0:Int)))),by
  rfl,by
  trivial,?_⟩
 refine⟨((Fr.sub (hgt f (Fr.ofInt (0:Int))) (hgt e (Fr.ofInt (0:Int)))),(Fr.sub (slp e) (slp f))),by
  rfl,by
  trivial,?_⟩
 refine⟨GD e f,by
  rfl,by
  trivial,?_⟩
 refine And.symm ⟨λa6=>?_,λa6=>?_⟩;simp only[nrm]at a6;have hB:C4 e f=false:=by unfold C4;simp_all
 refine DI ?_ ?_;exact IR hB;rw[hB];simp only[nrm]at a6
 refine⟨(e,GD e f,GD e f),by
  rfl,by
  trivial,?_⟩
 refine And.symm ⟨λa7=>?_,λa7=>?_⟩;simp only[nrm]at a7;have hB:C4 e f=false:=by unfold C4;simp_all
 refine DI ?_ ?_;exact IR hB;rw[hB];simp only[nrm]at a7
 refine⟨(f,GD e f,GD e f),by
  rfl,by
  trivial,?_⟩
 refine⟨λa8=>?_,λa8=>?_⟩;simp only[nrm]at a8;have hB:C4 e f=false:=by unfold C4;simp_all
 refine DI ?_ ?_;exact IR hB;rw[hB];simp only[nrm]at a8;have hB:C4 e f=true:=by unfold C4;simp_all
 refine KO ?_ ?_;exact(NA hB).symm;rw[hB]
def Ji:Con:={ι:=Edg×Edg,pre:=λi=>i.1.ok=true/\i.2.ok=true,args:=λi=>[DA.agg [cI i.1.a.1,cI i.1.a.2,cI i.1.b.1,cI i.1.b.2,cI i.1.k,cB i.1.low],DA.agg [cI i.2.a.1,cI i.2.a.2,cI i.2.b.1,cI i.2.b.2,cI i.2.k,cB i.2.low]],res:=λi=>⟨true,[some 3,none],[rcB (decide ((FH i.1 i.2).z<0)),.own 3 [.int] (L (FH i.1 i.2).z.natAbs),.own 3 [.int] (L (FH i.1 i.2).d),rcB (C4 i.1 i.2)]⟩}
theorem ZS:Ji.Ok Tryz.prog 53:=by
 refine fok (X:=⟨tt,[(90,BH),(91,BS),(55,AR),(51,AE),(94,BX),(93,Bx),(92,FS),(95,Bd)],[],80,[]⟩) mixed AG (CTok.cons IS (CTok.cons KV (CTok.cons D6 (CTok.cons Bq (CTok.cons Jg (CTok.cons M7 (CTok.cons TE (CTok.cons KW (CTok.nil _))))))))) Tryz.func53 (λ_=>[]) ?_;rintro⟨e,f⟩ a0;have a0:e.ok=true/\f.ok=true:=a0;refine AH (q:=let Z1:=(eqM (FH e f) ((vB false=vB (C4 e f))));∃i1:Edg,[DA.agg [cI e.a.1,cI e.a.2,cI e.b.1,cI e.b.2,cI e.k,cB e.low]]=BH.args i1/\BH.pre i1/\(ifB ((!(!i1.ok))) (∃i2:Edg,[DA.agg [cI f.a.1,cI f.a.2,cI f.b.1,cI f.b.2,cI f.k,cB f.low]]=BH.args i2/\BH.pre i2/\(ifB ((!i2.ok)) Z1 (∃i3:Int×Int,[DA.one (cI (wR (e.b.2-e.a.2))),DA.one (cI (wR (e.b.1-e.a.1)))]=BS.args i3/\BS.pre i3/\(∃i4:Int×Int,[DA.one (cI (wR (f.b.2-f.a.2))),DA.one (cI (wR (f.b.1-f.a.1)))]=BS.args i4/\BS.pre i4/\(∃i5:Fr×Fr,[dF (rOf i3.1 i3.2),dF (rOf i4.1 i4.2)]=AR.args i5/\AR.pre i5/\(ifB (((Fr.cmp i5.1 i5.2) == (0:Int))) Z1 (∃i6:Int,[DA.one (cI (0:Int))]=AE.args i6/\AE.pre i6/\(∃i7:Edg×Fr,[DA.agg [cI f.a.1,cI f.a.2,cI f.b.1,cI f.b.2,cI f.k,cB f.low],dF (Fr.ofInt i6)]=BX.args i7/\BX.pre i7/\(∃i8:Edg×Fr,[DA.agg [cI e.a.1,cI e.a.2,cI e.b.1,cI e.b.2,cI e.k,cB e.low],dF (Fr.ofInt i6)]=BX.args i8/\BX.pre i8/\(∃i9:Fr×Fr,[dF (hgt i7.1 i7.2),dF (hgt i8.1 i8.2)]=Bx.args i9/\Bx.pre i9/\(∃a3:Fr×Fr,[dF (rOf i3.1 i3.2),dF (rOf i4.1 i4.2)]=Bx.args a3/\Bx.pre a3/\(∃a4:Fr×Fr,let Z2:=Fr.div a4.1 a4.2;[dF (Fr.sub i9.1 i9.2),dF (Fr.sub a3.1 a3.2)]=FS.args a4/\FS.pre a4/\(∃a1:Edg×Fr×Fr,[DA.agg [cI e.a.1,cI e.a.2,cI e.b.1,cI e.b.2,cI e.k,cB e.low],dF Z2,dF Z2]=Bd.args a1/\Bd.pre a1/\(ifB ((!(!(a1.2.1.good && (a1.2.2.good && spn a1.1 a1.2.1 a1.2.2))))) (∃a2:Edg×Fr×Fr,[DA.agg [cI f.a.1,cI f.a.2,cI f.b.1,cI f.b.2,cI f.k,cB f.low],dF Z2,dF Z2]=Bd.args a2/\Bd.pre a2/\(ifB ((!(a2.2.1.good && (a2.2.2.good && spn a2.1 a2.2.1 a2.2.2)))) Z1 ((eqD Z2 (FH e f) ((vB true=vB (C4 e f))))))) Z1)))))))))))))) Z1)) (by kernel_rfl) ?_;conv=>zeta
 delta ifB vB wR;have hb:=Edg.bd a0.1;have hf:=Edg.bd a0.2;have hw1:IntKind.i64.wrap (e.b.2-e.a.2)=e.b.2-e.a.2:=AB (by omega) (by omega);have hw2:IntKind.i64.wrap (e.b.1-e.a.1)=e.b.1-e.a.1:=AB (by omega) (by omega);have hw3:IntKind.i64.wrap (f.b.2-f.a.2)=f.b.2-f.a.2:=AB (by omega) (by omega);have hw4:IntKind.i64.wrap (f.b.1-f.a.1)=f.b.1-f.a.1:=AB (by omega) (by omega)
 refine⟨e,by
  rfl,by
  trivial,?_⟩
 refine And.symm ⟨λc4=>?_,λc4=>?_⟩;simp only[nrm]at c4;rw[a0.1]at c4;cases c4;simp only[nrm]at c4
 refine⟨f,by
  rfl,by
  trivial,?_⟩
 refine⟨λc8=>?_,λc8=>?_⟩;simp only[nrm]at c8;rw[a0.2]at c8;cases c8;simp only[nrm]at c8
 refine⟨(e.b.2-e.a.2,e.b.1-e.a.1),by
  rw[hw1,hw2];rfl,by
  exact⟨by omega,by omega⟩,?_⟩
 refine⟨(f.b.2-f.a.2,f.b.1-f.a.1),by
  rw[hw3,hw4];rfl,by
  exact⟨by omega,by omega⟩,?_⟩
 refine⟨(slp e,slp f),by
  rfl,by
  trivial,?_⟩
 refine⟨λa5=>?_,λa5=>?_⟩;simp only[nrm]at a5;have hB:=ZQ a0.1 a0.2 a5;refine DI ?_ ?_;exact IR hB;rw[hB];simp only[nrm]at a5
 refine⟨(0:Int),by
  rfl,by
  trivial,?_⟩
 refine⟨(f,(Fr.ofInt (0:Int))),by
  rfl,by
  trivial,?_⟩
 refine⟨(e,(Fr.ofInt (0:Int))),by
  rfl,by
  trivial,?_⟩
 refine⟨((hgt f (Fr.ofInt (0:Int))),(hgt e (Fr.ofInt (0:Int)))),by
  rfl,by
  trivial,?_⟩
 refine⟨(slp e,slp f),by
  rfl,by
  trivial,?_⟩
 refine⟨((Fr.sub (hgt f (Fr.ofInt (0:Int))) (hgt e (Fr.ofInt (0:Int)))),(Fr.sub (slp e) (slp f))),by
  rfl,by
  trivial,?_⟩
 refine⟨(e,GD e f,GD e f),by
  rfl,by
  trivial,?_⟩
 refine And.symm ⟨λa6=>?_,λa6=>?_⟩;simp only[nrm]at a6;have hB:C4 e f=false:=by unfold C4;rcases a6 with h|h|h <;> simp[h]
 refine DI ?_ ?_;exact IR hB;rw[hB];simp only[nrm]at a6
 refine⟨(f,GD e f,GD e f),by
  rfl,by
  trivial,?_⟩
 refine⟨λa7=>?_,λa7=>?_⟩;simp only[nrm]at a7;have hB:C4 e f=false:=by unfold C4;simp_all
 refine DI ?_ ?_;exact IR hB;rw[hB];simp only[nrm]at a7;have hB:C4 e f=true:=by unfold C4;simp_all
 refine KO ?_ ?_;exact(NA hB).symm;rw[hB]
def CX:Con:={ι:=Edg×Int,pre:=λi=>i.1.ok=true/\(-9223372036854775808<=i.2/\i.2<=9223372036854775807),args:=λi=>[DA.agg [cI i.1.a.1,cI i.1.a.2,cI i.1.b.1,cI i.1.b.2,cI i.1.k,cB i.1.low],.one (cI i.2)],res:=λi=>⟨true,[some 3,none],[rcB (decide ((CH i.1 i.2).z<0)),.own 3 [.int] (L (CH i.1 i.2).z.natAbs),.own 3 [.int] (L (CH i.1 i.2).d),rcB (Bh i.1 i.2)]⟩}
theorem ZT:CX.Ok Tryz.prog 107:=by
 refine fok (X:=⟨tt,[(139,CU),(136,DF),(82,AT),(141,Bt),(142,DJ),(143,B6),(118,AP),(112,Bu)],[],51,[]⟩) mixed AG (CTok.cons Oa (CTok.cons OH (CTok.cons Ek (CTok.cons NC (CTok.cons OQ (CTok.cons KP (CTok.cons DV (CTok.cons ND (CTok.nil _))))))))) Tryz.func107 (λ_=>[]) ?_;rintro⟨e,y⟩ a0;have a0:e.ok=true/\(-9223372036854775808<=y/\y<=9223372036854775807):=a0;refine AH (q:=let Z1:=(eqM (CH e y) ((vB false=vB (Bh e y))));∃i1:Edg,[DA.agg [cI e.a.1,cI e.a.2,cI e.b.1,cI e.b.2,cI e.k,cB e.low]]=CU.args i1/\CU.pre i1/\(ifB ((!(!i1.ok))) (ifB ((!(e.a.2 == e.b.2))) (∃i2:Int×Int×Int,[DA.one (cI y),DA.one (cI (-1000:Int)),DA.one (cI (1000:Int))]=DF.args i2/\DF.pre i2/\(ifB ((!(decide (i2.1>=i2.2.1) && decide (i2.1<=i2.2.2)))) Z1 (∃i3:Int,[DA.one (cI e.a.1)]=AT.args i3/\AT.pre i3/\(∃i4:Int,[DA.one (cI (wR (y-e.a.2)))]=AT.args i4/\AT.pre i4/\(∃i5:Edg,[DA.agg [cI e.a.1,cI e.a.2,cI e.b.1,cI e.b.2,cI e.k,cB e.low]]=Bt.args i5/\Bt.pre i5/\(∃i6:Fr×Fr,[dF (Fr.ofInt i4),dF (slp i5)]=DJ.args i6/\DJ.pre i6/\(∃i7:Fr×Fr,let Z2:=Fr.add i7.1 i7.2;[dF (Fr.ofInt i3),dF (Fr.div i6.1 i6.2)]=B6.args i7/\B6.pre i7/\(∃i8:Fr,[dF Z2]=AP.args i8/\AP.pre i8/\(ifB ((!(!i8.good))) (∃i9:Edg×Fr×Fr,[DA.agg [cI e.a.1,cI e.a.2,cI e.b.1,cI e.b.2,cI e.k,cB e.low],dF Z2,dF Z2]=Bu.args i9/\Bu.pre i9/\(ifB ((!(spn i9.1 i9.2.1 i9.2.2))) Z1 ((eqD Z2 (CH e y) ((vB true=vB (Bh e y))))))) Z1))))))))) Z1) Z1)) (by kernel_rfl) ?_;conv=>zeta
 delta ifB vB wR;have hb:=Edg.bd a0.1
 refine⟨e,by
  rfl,by
  trivial,?_⟩
 refine And.symm ⟨λc4=>?_,λc4=>?_⟩;simp only[nrm]at c4;rw[a0.1]at c4;cases c4;simp only[nrm]at c4;refine And.symm ⟨λc5=>?_,λc5=>?_⟩;simp only[nrm]at c5;have hB:Bh e y=false:=by unfold Bh;simp_all
 refine DI ?_ ?_;exact Gp hB;rw[hB];simp only[nrm]at c5
 refine⟨(y,(-1000:Int),(1000:Int)),by
  rfl,by
  trivial,?_⟩
 refine⟨λc9=>?_,λc9=>?_⟩;simp only[nrm]at c9
 have hB:Bh e y=false:=by
  have e0:(decide (y>=-1000) && decide (y<=1000))=false:=by simp;omega
  unfold Bh;rw[e0];simp
 refine DI ?_ ?_;exact Gp hB;rw[hB];simp only[nrm]at c9;have hw3:IntKind.i64.wrap (y-e.a.2)=y-e.a.2:=AB (by omega) (by omega)
 refine⟨e.a.1,by
  rfl,by
  exact⟨by omega,by omega⟩,?_⟩
 refine⟨y-e.a.2,by
  rw[hw3];rfl,by
  exact⟨by omega,by omega⟩,?_⟩
 refine⟨e,by
  rfl,by
  trivial,?_⟩
 refine⟨((Fr.ofInt (y-e.a.2)),(slp e)),by
  rfl,by
  trivial,?_⟩
 refine⟨((Fr.ofInt e.a.1),(Fr.div (Fr.ofInt (y-e.a.2)) (slp e))),by
  rfl,by
  trivial,?_⟩
 refine⟨La e y,by
  rfl,by
  trivial,?_⟩
 refine And.symm ⟨λa1=>?_,λa1=>?_⟩;simp only[nrm]at a1;have hB:Bh e y=false:=by unfold Bh;simp_all
 refine DI ?_ ?_;exact Gp hB;rw[hB];simp only[nrm]at a1
 refine⟨(e,La e y,La e y),by
  rfl,by
  trivial,?_⟩
 refine⟨λa2=>?_,λa2=>?_⟩;simp only[nrm]at a2;have hB:Bh e y=false:=by unfold Bh;simp_all
 refine DI ?_ ?_;exact Gp hB;rw[hB];simp only[nrm]at a2;have hB:Bh e y=true:=by unfold Bh;simp_all
 refine KO ?_ ?_;exact(NB hB).symm;rw[hB]
def Hp:Con:={ι:=Edg×Int,pre:=λi=>i.1.ok=true/\(-9223372036854775808<=i.2/\i.2<=9223372036854775807),args:=λi=>[DA.agg [cI i.1.a.1,cI i.1.a.2,cI i.1.b.1,cI i.1.b.2,cI i.1.k,cB i.1.low],.one (cI i.2)],res:=λi=>⟨true,[some 3,none],[rcB (decide ((CH i.1 i.2).z<0)),.own 3 [.int] (L (CH i.1 i.2).z.natAbs),.own 3 [.int] (L (CH i.1 i.2).d),rcB (Bh i.1 i.2)]⟩}
theorem ZU:Hp.Ok Tryz.prog 54:=by
 refine fok (X:=⟨tt,[(90,BH),(46,Ca),(51,AE),(91,BS),(96,Cn),(95,Bd)],[],58,[]⟩) mixed AG (CTok.cons IS (CTok.cons Mi (CTok.cons Bq (CTok.cons KV (CTok.cons M6 (CTok.cons KW (CTok.nil _))))))) Tryz.func54 (λ_=>[]) ?_;rintro⟨e,y⟩ a0;have a0:e.ok=true/\(-9223372036854775808<=y/\y<=9223372036854775807):=a0;refine AH (q:=let Z1:=(eqM (CH e y) ((vB false=vB (Bh e y))));∃i1:Edg,[DA.agg [cI e.a.1,cI e.a.2,cI e.b.1,cI e.b.2,cI e.k,cB e.low]]=BH.args i1/\BH.pre i1/\(ifB ((!(!i1.ok))) (ifB ((!(e.a.2 == e.b.2))) (∃i2:Int×Int×Int,[DA.one (cI y),DA.one (cI (-1000:Int)),DA.one (cI (1000:Int))]=Ca.args i2/\Ca.pre i2/\(ifB ((!(decide (i2.1>=i2.2.1) && decide (i2.1<=i2.2.2)))) Z1 (∃i3:Int,[DA.one (cI e.a.1)]=AE.args i3/\AE.pre i3/\(∃i4:Int×Int,[DA.one (cI (wR ((wR (y-e.a.2))*(wR (e.b.1-e.a.1))))),DA.one (cI (wR (e.b.2-e.a.2)))]=BS.args i4/\BS.pre i4/\(∃i5:Fr×Fr,let Z2:=Fr.add i5.1 i5.2;[dF (Fr.ofInt i3),dF (rOf i4.1 i4.2)]=Cn.args i5/\Cn.pre i5/\(∃i6:Edg×Fr×Fr,[DA.agg [cI e.a.1,cI e.a.2,cI e.b.1,cI e.b.2,cI e.k,cB e.low],dF Z2,dF Z2]=Bd.args i6/\Bd.pre i6/\(ifB ((!(i6.2.1.good && (i6.2.2.good && spn i6.1 i6.2.1 i6.2.2)))) Z1 ((eqD Z2 (CH e y) ((vB true=vB (Bh e y)))))))))))) Z1) Z1)) (by kernel_rfl) ?_;conv=>zeta
 delta ifB vB wR;have hb:=Edg.bd a0.1;have hw1:IntKind.i64.wrap (e.b.2-e.a.2)=e.b.2-e.a.2:=AB (by omega) (by omega);have hw2:IntKind.i64.wrap (e.b.1-e.a.1)=e.b.1-e.a.1:=AB (by omega) (by omega)
 refine⟨e,by
  rfl,by
  trivial,?_⟩
 refine And.symm ⟨λc4=>?_,λc4=>?_⟩;simp only[nrm]at c4;rw[a0.1]at c4;cases c4;simp only[nrm]at c4;refine And.symm ⟨λc5=>?_,λc5=>?_⟩;simp only[nrm]at c5;have hB:Bh e y=false:=by unfold Bh;simp_all
 refine DI ?_ ?_;exact Gp hB;rw[hB];simp only[nrm]at c5
 refine⟨(y,(-1000:Int),(1000:Int)),by
  rfl,by
  trivial,?_⟩
 refine⟨λc9=>?_,λc9=>?_⟩;simp only[nrm]at c9
 have hB:Bh e y=false:=by
  have e0:(decide (y>=-1000) && decide (y<=1000))=false:=by simp;omega
  unfold Bh;rw[e0];simp
 refine DI ?_ ?_;exact Gp hB;rw[hB];simp only[nrm]at c9;have hw3:IntKind.i64.wrap (y-e.a.2)=y-e.a.2:=AB (by omega) (by omega);have hm:=Nat.mul_le_mul (show(y-e.a.2).natAbs<=2000 by omega) (show(e.b.1-e.a.1).natAbs<=2000 by omega);rw[← Int.natAbs_mul]at hm;have hw4:IntKind.i64.wrap ((y-e.a.2)*(e.b.1-e.a.1))=(y-e.a.2)*(e.b.1-e.a.1):=AB (by omega) (by omega);have hL:=YC a0.1 c9 c5
 refine⟨e.a.1,by
  rfl,by
  exact⟨by omega,by omega⟩,?_⟩
 refine⟨((y-e.a.2)*(e.b.1-e.a.1),e.b.2-e.a.2),by
  rw[hw3,hw2,hw4,hw1];rfl,by
  try dsimp only[BS]
  exact⟨by omega,by omega⟩,?_⟩
 refine⟨((Fr.ofInt e.a.1),(rOf ((y-e.a.2)*(e.b.1-e.a.1)) (e.b.2-e.a.2))),by
  rfl,by
  trivial,?_⟩
 refine⟨(e,La e y,La e y),by
  rw[hL];rfl,by
  trivial,?_⟩
 refine⟨λa1=>?_,λa1=>?_⟩;simp only[nrm]at a1;have hB:Bh e y=false:=by unfold Bh;rcases a1 with h|h|h <;> simp[h]
 refine DI ?_ ?_;exact Gp hB;rw[hB];simp only[nrm]at a1;have hB:Bh e y=true:=by unfold Bh;simp_all
 refine KO ?_ ?_;rw[hL,NB hB];rw[hB]
def ZV(e:Edg):List Dat:=[.int e.a.1,.int e.a.2,.int e.b.1,.int e.b.2,.int e.k,.bool e.low]
def Af(l:List Edg):List (List Dat):=l.map ZV
theorem BA(l:List Edg):(Af l).length=l.length:=List.length_map ..
theorem IT(a b:List Edg):Af (a++b)=Af a++Af b:=List.map_append ..
def Hq(a b:V2)(k:Int):List Edg:=if a.1<b.1 then[⟨a,b,k,true⟩]else if b.1<a.1 then[⟨b,a,k,false⟩]else[]
def BZ(l:List V2)(k:Int):Nat->List Edg
 | 0=>[]|i+1=>BZ l k i++Hq (l.getD i (0,0)) (l.getD ((i+1)%l.length) (0,0)) k
def AO(l:List V2)(k:Int):List Edg:=BZ l k l.length
def DM(ls:List (List V2)):Nat->List Edg
 | 0=>[]|i+1=>DM ls i++AO (ls.getD i []) (i:Int)
theorem Um{l:List V2}{k:Int}{i:Nat}(h:(l.getD i (0,0)).1<(l.getD ((i+1)%l.length) (0,0)).1):Af (BZ l k i)++[ZV ⟨l.getD i (0,0),l.getD ((i+1)%l.length) (0,0),k,true⟩]=Af (BZ l k (i+1)):=by rw[BZ,IT,Hq,if_pos h];rfl
theorem Un{l:List V2}{k:Int}{i:Nat}(h:(l.getD ((i+1)%l.length) (0,0)).1<(l.getD i (0,0)).1):Af (BZ l k i)++[ZV ⟨l.getD ((i+1)%l.length) (0,0),l.getD i (0,0),k,false⟩]=Af (BZ l k (i+1)):=by rw[BZ,IT,Hq,if_neg (by omega),if_pos h];rfl
theorem Uo{l:List V2}{k:Int}{i:Nat}(h1:¬(l.getD i (0,0)).1<(l.getD ((i+1)%l.length) (0,0)).1)(h2:¬(l.getD ((i+1)%l.length) (0,0)).1<(l.getD i (0,0)).1):Af (BZ l k i)=Af (BZ l k (i+1)):=by rw[BZ,Hq,if_neg h1,if_neg h2,List.append_nil]
theorem YD{a b:V2}{k:Int}(ha:A1 a=true)(hb:A1 b=true):∀e ∈ Hq a b k,e.ok=true:=by intro e he;unfold Hq at he;split at he;rename_i h;obtain rfl:=List.mem_singleton.1 he;unfold Edg.ok;simp[ha,hb,h];split at he;rename_i h;obtain rfl:=List.mem_singleton.1 he;unfold Edg.ok;simp[ha,hb,h];cases he
theorem WI(a b:V2)(k:Int):(Hq a b k).length<=1:=by unfold Hq;split <;> (try split) <;> simp
theorem NE{l:List V2}{k:Int}(h:l.all A1=true):∀i,i<=l.length->∀e ∈ BZ l k i,e.ok=true
 | 0,_=>λe he=>by cases he|i+1,hi=>λe he=>by rcases List.mem_append.1 he with h1|h1;exact NE h i (by omega) e h1;exact YD (FU h (by omega)) (FU h (Nat.mod_lt _ (by omega))) e h1
theorem DY(l:List V2)(k:Int):∀i,(BZ l k i).length<=i
 | 0=>Nat.le_refl _|i+1=>by have h1:=DY l k i;have h2:=WI (l.getD i (0,0)) (l.getD ((i+1)%l.length) (0,0)) k;simp only[BZ,List.length_append];omega
theorem Ob(l:List V2)(k:Int)(i:Nat):(Af (BZ l k i)).length<=i:=by rw[BA];exact DY l k i
def A0(ls:List (List V2)):Bool:=ls.all AV
theorem Cp{ls:List (List V2)}(h:A0 ls=true){i:Nat}(hi:i<ls.length):AV (ls.getD i [])=true:=List.all_eq_true.1 h _ (by simp[List.getD,hi])
theorem Aw{l:List V2}(h:AV l=true):l.all A1=true/\3<=l.length/\l.length<=16:=by simp only[AV,Bool.and_eq_true]at h;have h1:=h.1.1;unfold inR at h1;simp only[Bool.and_eq_true,decide_eq_true_eq]at h1;exact⟨h.1.2,by omega,by omega⟩
theorem KX{ls:List (List V2)}(h:A0 ls=true):∀i,i<=ls.length->∀e ∈ DM ls i,e.ok=true
 | 0,_=>λe he=>by cases he|i+1,hi=>λe he=>by rcases List.mem_append.1 he with h1|h1;exact KX h i (by omega) e h1;exact NE (Aw (Cp h (by omega))).1 _ (Nat.le_refl _) e h1
theorem Ix{ls:List (List V2)}(h:A0 ls=true):∀i,i<=ls.length->(DM ls i).length<=16*i
 | 0,_=>Nat.le_refl _|i+1,hi=>by have h1:=Ix h i (by omega);have h2:=DY (ls.getD i []) (i:Int) (ls.getD i []).length;have h3:=(Aw (Cp h (show i<ls.length by omega))).2.2;simp only[DM,AO,List.length_append];omega
def ER(ls:List (List V2)):Nat->Nat
 | 0=>0|k+1=>ER ls k+(ls.getD k []).length
theorem Pg(ls:List (List V2)):∀j k,ER ls j<=ER ls (j+k)
 |j,0=>Nat.le_refl _|j,k+1=>Nat.le_trans (Pg ls j k) (Nat.le_add_right _ _)
theorem NF(ls:List (List V2)):∀k,(DM ls k).length<=ER ls k
 | 0=>Nat.le_refl _|k+1=>by have h1:=NF ls k;have h2:=DY (ls.getD k []) (k:Int) (ls.getD k []).length;simp only[DM,AO,List.length_append,ER];omega
def edA(ls:List (List V2)):List Edg:=DM ls ls.length
def noE:Edg:=⟨(0,0),(0,0),0,false⟩
theorem Ph{ls:List (List V2)}(h:A0 ls=true){i:Nat}(hi:i<(edA ls).length):((edA ls).getD i noE).ok=true:=
 KX h _ (Nat.le_refl _) _ (by simp[List.getD,hi];exact List.getElem_mem _)
theorem Bz{es:List Edg}{i:Nat}(hi:i<es.length):(Af es).getD i []=ZV (es.getD i noE):=by simp[Af,List.getD,hi]
theorem Cq(es:List Edg)(i:Nat):(Af es).take i=Af (es.take i):=by unfold Af;rw[List.map_take]
theorem Up{es:List Edg}{i n:Nat}(hn:n<i):(es.take i).getD n noE=es.getD n noE:=by simp[List.getD,List.getElem?_take,hn]
def DN:Con:={ι:=(List V2)×Int,pre:=λi=>AV i.1=true,args:=λi=>[.one (DC.sl 36 [.int,.int] (AZ i.1)),.one (cI i.2)],res:=λi=>⟨false,[none],[.own 87 [.int,.int,.int,.int,.int,.bool] (Af (AO i.1 i.2))]⟩}
theorem Oc:DN.Ok Tryz.prog 111:=by
 refine fok (X:=⟨tt,[],[],53,[]⟩) mixed AG (CTok.nil _) Tryz.func111 (λ(i:(List V2)×Int)=>[(3,.mk 3 (Nat) (λx1=>{tm:=[(0,tX 1),(1,tI i.2),(10,tX 1),(11,tI (nI ((AZ i.1).length))),(12,tI (nI x1)),(5,tX 2)],en:=[(1,.view 36 [.int,.int] (AZ i.1) []),(2,.own 87 z86 (Af (BZ i.1 i.2 x1)))]}) (λx1=>x1<=i.1.length) (λx1=>i.1.length-x1) (λ_=>[]))]) ?_;rintro⟨l,k⟩ a0;have a0:AV l=true:=a0;refine AH (q:=let a5:=((AZ l).length:Int);let a3:=List Dat;let Z3:=nI ((AZ l).length);(∃x1:Nat,(x1<=l.length)/\((rf (vI k))/\(rf (vI Z3))/\(vI (0:Int)=vI (nI x1))/\(rf (AZ l))/\(([]:List a3)=(Af (BZ l k x1)))))/\∀x1:Nat,let Z6:=Af (BZ l k x1);let Z5:=((((AZ l).getD x1 []).getD 1 (.int 0))).n;let Z4:=wR ((nI x1)+(1:Int));let Z9:=Int.tmod Z4 Z3;let Z2:=(((AZ l).getD x1 []).getD 0 (.int 0));let Z1:=(AZ l).getD (Z9.toNat) [];let Z8:=((Z1.getD 1 (.int 0))).n;let Z7:=(Z1.getD 0 (.int 0));(x1<=l.length)->(ifB ((decide ((nI x1)<Z3))) ((0<=(nI x1)/\(nI x1)<a5)/\((x1<(AZ l).length)/\((Z3≠0)/\((0<=Z9/\Z9<a5)/\((Z9.toNat<(AZ l).length)/\(ifB ((decide (Z2.n<Z7.n))) ((Z6.length+([[Dat.int (Z2.n),Dat.int Z5,Dat.int (Z7.n),Dat.int Z8,Dat.int k,Dat.bool true]]:List a3).length<=2199023255552)/\(∃y2:Nat,(y2<=l.length)/\(l.length-y2<l.length-x1)/\((rf (vI k))/\(rf (vI Z3))/\(vI Z4=vI (nI y2))/\(rf (AZ l))/\((Z6++([[Dat.int (Z2.n),Dat.int Z5,Dat.int (Z7.n),Dat.int Z8,Dat.int k,Dat.bool true]]:List a3))=(Af (BZ l k y2)))))) (ifB ((decide (Z2.n>Z7.n))) ((Z6.length+([[Dat.int (Z7.n),Dat.int Z8,Dat.int (Z2.n),Dat.int Z5,Dat.int k,Dat.bool false]]:List a3).length<=2199023255552)/\(∃y3:Nat,(y3<=l.length)/\(l.length-y3<l.length-x1)/\((rf (vI k))/\(rf (vI Z3))/\(vI Z4=vI (nI y3))/\(rf (AZ l))/\((Z6++([[Dat.int (Z7.n),Dat.int Z8,Dat.int (Z2.n),Dat.int Z5,Dat.int k,Dat.bool false]]:List a3))=(Af (BZ l k y3)))))) (∃y4:Nat,(y4<=l.length)/\(l.length-y4<l.length-x1)/\((rf (vI k))/\(rf (vI Z3))/\(vI Z4=vI (nI y4))/\(rf (AZ l))/\(Z6=(Af (BZ l k y4)))))))))))) ((Z6=Af (AO l k))))) (by kernel_rfl) ?_;conv=>zeta
 delta ifB vI wR nI;have hV:=(Aw a0).1;have h3:=(Aw a0).2.1;have h16:=(Aw a0).2.2;have a6:=A9 l;refine⟨⟨0,by omega,?_⟩,?_⟩;refine⟨rfl,rfl,?_,rfl,?_⟩;rfl;rfl;intro (i:Nat) a4;have a4:i<=l.length:=a4;refine And.symm ⟨λc8=>?_,λc8=>?_⟩;simp only[nrm]at c8;have hE:i=l.length:=by omega
 rw[hE];rfl;simp only[nrm]at c8;have hil:i<l.length:=by omega
 have m2:(i+1)%l.length<l.length:=(GC hil (by omega)).2.1;have m1:(Int.tmod (IntKind.i64.wrap (((i:Nat):Int)+(1:Int))) (((AZ l).length:Nat):Int)).toNat=(i+1)%l.length:=by rw[a6];exact(GC hil (by omega)).1
 have m3:Int.tmod (IntKind.i64.wrap (((i:Nat):Int)+(1:Int))) (((AZ l).length:Nat):Int)=(((i+1)%l.length:Nat):Int):=by rw[a6];exact(GC hil (by omega)).2.2
 have hel:=Ob l k i;refine ao (by omega) λo9=>?_;refine ao (by omega) λo10=>?_;refine ao (by omega) λo11=>?_;refine ao (by omega) λo12=>?_;refine ao (by omega) λo13=>?_;refine⟨λa1=>?_,λa1=>?_⟩;try dsimp only at a1
 simp only[nrm]at a1;rw[m1,BL hil,BL m2]at a1;refine ao (by simp only[List.length_append,List.length_cons,List.length_nil];omega) λo15=>?_
 refine⟨i+1,by
  trivial,by
  omega,?_⟩
 refine⟨rfl,rfl,?_,rfl,?_⟩;exact AU (AB (by omega) (by omega));rw[m1,BL hil,Ho hil,BL m2,Ho m2];exact Um a1;try dsimp only at a1
 simp only[nrm]at a1;rw[m1,BL hil,BL m2]at a1;refine And.symm ⟨λa2=>?_,λa2=>?_⟩;try dsimp only at a2
 simp only[nrm]at a2;rw[m1,BL hil,BL m2]at a2
 refine⟨i+1,by
  trivial,by
  omega,?_⟩
 refine⟨rfl,rfl,?_,rfl,?_⟩;exact AU (AB (by omega) (by omega));exact Uo (by omega) (by omega);try dsimp only at a2
 simp only[nrm]at a2;rw[m1,BL hil,BL m2]at a2;refine ao (by simp only[List.length_append,List.length_cons,List.length_nil];omega) λo25=>?_
 refine⟨i+1,by
  trivial,by
  omega,?_⟩
 refine⟨rfl,rfl,?_,rfl,?_⟩;exact AU (AB (by omega) (by omega));rw[m1,BL hil,Ho hil,BL m2,Ho m2];exact Un a2
def DO:Con:={ι:=(List V2)×Int,pre:=λi=>AV i.1=true,args:=λi=>[.one (DC.sl 36 [.int,.int] (AZ i.1)),.one (cI i.2)],res:=λi=>⟨false,[none],[.own 87 [.int,.int,.int,.int,.int,.bool] (Af (AO i.1 i.2))]⟩}
theorem Od:DO.Ok Tryz.prog 89:=by
 refine fok (X:=⟨tt,[],[],51,[]⟩) mixed AG (CTok.nil _) Tryz.func89 (λ(i:(List V2)×Int)=>[(3,.mk 3 (Nat) (λx1=>{tm:=[(0,tX 1),(1,tI i.2),(10,tX 1),(11,tI (nI ((AZ i.1).length))),(12,tI (nI x1)),(5,tX 2)],en:=[(1,.view 36 [.int,.int] (AZ i.1) []),(2,.own 87 z86 (Af (BZ i.1 i.2 x1)))]}) (λx1=>x1<=i.1.length) (λx1=>i.1.length-x1) (λ_=>[]))]) ?_;rintro⟨l,k⟩ a0;have a0:AV l=true:=a0;refine AH (q:=let a7:=((AZ l).length:Int);let a3:=List Dat;let Z5:=nI ((AZ l).length);(∃x1:Nat,(x1<=l.length)/\((rf (vI k))/\(rf (vI Z5))/\(vI (0:Int)=vI (nI x1))/\(rf (AZ l))/\(([]:List a3)=(Af (BZ l k x1)))))/\∀x1:Nat,let Z9:=Af (BZ l k x1);let Z6:=wR ((nI x1)+(1:Int));let a6:=Int.tmod Z6 Z5;let Z4:=((((AZ l).getD x1 []).getD 1 (.int 0))).n;let Z3:=(((AZ l).getD x1 []).getD 0 (.int 0));let Z1:=(AZ l).getD (a6.toNat) [];let Z8:=((Z1.getD 1 (.int 0))).n;let Z7:=(Z1.getD 0 (.int 0));let a8:=(decide (Z3.n>Z7.n));let Z2:=Z9++([[Dat.int (Z3.n),Dat.int Z4,Dat.int (Z7.n),Dat.int Z8,Dat.int k,Dat.bool true]]:List a3);(x1<=l.length)->(ifB ((decide ((nI x1)<Z5))) ((0<=(nI x1)/\(nI x1)<a7)/\((x1<(AZ l).length)/\((Z5≠0)/\((0<=a6/\a6<a7)/\((a6.toNat<(AZ l).length)/\(ifB ((decide (Z3.n<Z7.n))) ((Z9.length+([[Dat.int (Z3.n),Dat.int Z4,Dat.int (Z7.n),Dat.int Z8,Dat.int k,Dat.bool true]]:List a3).length<=2199023255552)/\(ifB a8 ((Z2.length+([[Dat.int (Z7.n),Dat.int Z8,Dat.int (Z3.n),Dat.int Z4,Dat.int k,Dat.bool false]]:List a3).length<=2199023255552)/\(∃y2:Nat,(y2<=l.length)/\(l.length-y2<l.length-x1)/\((rf (vI k))/\(rf (vI Z5))/\(vI Z6=vI (nI y2))/\(rf (AZ l))/\((Z2++([[Dat.int (Z7.n),Dat.int Z8,Dat.int (Z3.n),Dat.int Z4,Dat.int k,Dat.bool false]]:List a3))=(Af (BZ l k y2)))))) (∃y3:Nat,(y3<=l.length)/\(l.length-y3<l.length-x1)/\((rf (vI k))/\(rf (vI Z5))/\(vI Z6=vI (nI y3))/\(rf (AZ l))/\(Z2=(Af (BZ l k y3))))))) (ifB a8 ((Z9.length+([[Dat.int (Z7.n),Dat.int Z8,Dat.int (Z3.n),Dat.int Z4,Dat.int k,Dat.bool false]]:List a3).length<=2199023255552)/\(∃y4:Nat,(y4<=l.length)/\(l.length-y4<l.length-x1)/\((rf (vI k))/\(rf (vI Z5))/\(vI Z6=vI (nI y4))/\(rf (AZ l))/\((Z9++([[Dat.int (Z7.n),Dat.int Z8,Dat.int (Z3.n),Dat.int Z4,Dat.int k,Dat.bool false]]:List a3))=(Af (BZ l k y4)))))) (∃y5:Nat,(y5<=l.length)/\(l.length-y5<l.length-x1)/\((rf (vI k))/\(rf (vI Z5))/\(vI Z6=vI (nI y5))/\(rf (AZ l))/\(Z9=(Af (BZ l k y5)))))))))))) ((Z9=Af (AO l k))))) (by kernel_rfl) ?_;conv=>zeta
 delta ifB vI wR nI;have hV:=(Aw a0).1;have h3:=(Aw a0).2.1;have h16:=(Aw a0).2.2;have a9:=A9 l;refine⟨⟨0,by omega,?_⟩,?_⟩;refine⟨rfl,rfl,?_,rfl,?_⟩;rfl;rfl;intro (i:Nat) a5;have a5:i<=l.length:=a5;refine And.symm ⟨λc8=>?_,λc8=>?_⟩;simp only[nrm]at c8;have hE:i=l.length:=by omega
 rw[hE];rfl;simp only[nrm]at c8;have hil:i<l.length:=by omega
 have m2:(i+1)%l.length<l.length:=(GC hil (by omega)).2.1;have m1:(Int.tmod (IntKind.i64.wrap (((i:Nat):Int)+(1:Int))) (((AZ l).length:Nat):Int)).toNat=(i+1)%l.length:=by rw[a9];exact(GC hil (by omega)).1
 have m3:Int.tmod (IntKind.i64.wrap (((i:Nat):Int)+(1:Int))) (((AZ l).length:Nat):Int)=(((i+1)%l.length:Nat):Int):=by rw[a9];exact(GC hil (by omega)).2.2
 have hel:=Ob l k i;refine ao (by omega) λo9=>?_;refine ao (by omega) λo10=>?_;refine ao (by omega) λo11=>?_;refine ao (by omega) λo12=>?_;refine ao (by omega) λo13=>?_;refine⟨λa1=>?_,λa1=>?_⟩;try dsimp only at a1
 simp only[nrm]at a1;rw[m1,BL hil,BL m2]at a1;refine ao (by simp only[List.length_append,List.length_cons,List.length_nil];omega) λo15=>?_;refine⟨λa4=>?_,λa4=>?_⟩;try dsimp only at a4
 simp only[nrm]at a4;rw[m1,BL hil,BL m2]at a4;exfalso;omega;try dsimp only at a4
 simp only[nrm]at a4;rw[m1,BL hil,BL m2]at a4
 refine⟨i+1,by
  trivial,by
  omega,?_⟩
 refine⟨rfl,rfl,?_,rfl,?_⟩;exact AU (AB (by omega) (by omega));rw[m1,BL hil,Ho hil,BL m2,Ho m2];exact Um a1;try dsimp only at a1
 simp only[nrm]at a1;rw[m1,BL hil,BL m2]at a1;refine And.symm ⟨λa2=>?_,λa2=>?_⟩;try dsimp only at a2
 simp only[nrm]at a2;rw[m1,BL hil,BL m2]at a2
 refine⟨i+1,by
  trivial,by
  omega,?_⟩
 refine⟨rfl,rfl,?_,rfl,?_⟩;exact AU (AB (by omega) (by omega));exact Uo (by omega) (by omega);try dsimp only at a2
 simp only[nrm]at a2;rw[m1,BL hil,BL m2]at a2;refine ao (by simp only[List.length_append,List.length_cons,List.length_nil];omega) λo35=>?_
 refine⟨i+1,by
  trivial,by
  omega,?_⟩
 refine⟨rfl,rfl,?_,rfl,?_⟩;exact AU (AB (by omega) (by omega));rw[m1,BL hil,Ho hil,BL m2,Ho m2];exact Un a2
def FY:Con:={ι:=(List V2),pre:=λi=>True,args:=λi=>[.one (DC.sl 36 [.int,.int] (AZ i))],res:=λi=>⟨false,[none],[rcB (!(AV i))]⟩}
theorem TM:FY.Ok Tryz.prog 102:=by
 refine fok (X:=⟨tt,[(103,FV)],[],6,[]⟩) mixed AG (CTok.cons TK (CTok.nil _)) Tryz.func102 (λ_=>[]) ?_;intro (l:List V2) a0;have a0:True:=a0;refine AH (q:=∃i1:(List V2),[DA.one (DC.sl 36 [.int,.int] (AZ l))]=FV.args i1/\FV.pre i1/\((vB (!(AV i1))=vB (!(AV l))))) (by kernel_rfl) ?_;delta vB
 refine⟨l,by
  rfl,by
  trivial,?_⟩
 exact rfl
def Gq:Con:={ι:=(List (List V2)),pre:=λi=>i.length<=9223372036854775807,args:=λi=>[.one (DC.sl 66 [.sl 36 [.int,.int]] (AN i)),.one (.ro (.fn 102 []))],tag:=103,res:=λi=>⟨false,[none],[rcI (Do (λz=>!(AV z)) i)]⟩}
theorem WJ:Gq.Ok Tryz.prog 135:=by
 refine fok (X:=⟨tt,[(102,FY)],[],19,[]⟩) mixed AG (CTok.cons TM (CTok.nil _)) Tryz.func135 (λ(i:(List (List V2)))=>[(2,.mk 3 (Nat) (λx1=>{tm:=[(0,tX 1),(1,tX 2),(7,tI (nI ((AN i).length))),(8,tI (nI x1))],en:=[(1,.view 66 [.sl 36 [.int,.int]] (AN i) []),(2,.ro (.fn 102 []) [])]}) (λx1=>x1<=i.length/\∀j,j<x1->(λz=>!(AV z)) (i.getD j [])=false) (λx1=>i.length-x1) (λ_=>[]))]) ?_;intro (l:List (List V2)) a1;have a1:l.length<=9223372036854775807:=a1;refine AH (q:=let Z3:=Do (λz=>!(AV z)) l;let Z2:=(.fn 102 []:RO)=.fn 102 [];let Z1:=AN l;let Z4:=nI (Z1.length);(∃x1:Nat,(x1<=l.length/\∀j,j<x1->(λz=>!(AV z)) (l.getD j [])=false)/\((rf (vI Z4))/\(vI (0:Int)=vI (nI x1))/\(rf Z1)/\Z2))/\∀x1:Nat,(x1<=l.length/\∀j,j<x1->(λz=>!(AV z)) (l.getD j [])=false)->(ifB ((decide ((nI x1)<Z4))) ((0<=(nI x1)/\(nI x1)<(Z1.length:Int))/\((x1<Z1.length)/\(∃i1:(List V2),[DA.one (DC.sl 36 [.int,.int] ((((Z1.getD x1 []).getD 0 (.int 0))).r))]=FY.args i1/\FY.pre i1/\(ifB ((!(AV i1))) ((vI (nI x1)=vI Z3)) (∃y2:Nat,(y2<=l.length/\∀j,j<y2->(λz=>!(AV z)) (l.getD j [])=false)/\(l.length-y2<l.length-x1)/\((rf (vI Z4))/\(vI (wR ((nI x1)+(1:Int)))=vI (nI y2))/\(rf Z1)/\Z2)))))) ((vI (-1:Int)=vI Z3)))) (by kernel_rfl) ?_;conv=>zeta
 delta ifB vI wR nI;have hal:=A8 l;refine⟨⟨0,by exact⟨Nat.zero_le _,λj hj=>absurd hj (Nat.not_lt_zero j)⟩,?_⟩,?_⟩;refine⟨rfl,?_,rfl,?_⟩;rfl;rfl;intro (k:Nat) a0;have a0:k<=l.length/\∀j,j<k->(λz=>!(AV z)) (l.getD j [])=false:=a0;refine And.symm ⟨λc7=>?_,λc7=>?_⟩;simp only[nrm]at c7;rw[KU (d:=[]) (λj hj=>a0.2 j (by omega))];simp only[nrm]at c7;refine ao (by first|omega) λo8=>?_;refine ao (by first|omega) λo9=>?_
 refine⟨(l.getD k []),by
  rw[BR (by omega)];rfl,by
  trivial,?_⟩
 refine⟨λa2=>?_,λa2=>?_⟩;simp only[nrm]at a2;rw[Pe (d:=[]) (by omega) a0.2 (by show(!(AV (l.getD k [])))=true;rw[a2];rfl)];simp only[nrm]at a2
 refine⟨k+1,by
  exact⟨by omega,JQ a0.2 (by show(!(AV (l.getD k [])))=false;rw[a2];rfl)⟩,by
  omega,?_⟩
 refine⟨rfl,?_,rfl,?_⟩;exact AU (AB (by omega) (by omega));rfl
def Gr:Con:={ι:=(List (List V2)),pre:=λi=>i.length<=9223372036854775807,args:=λi=>[.one (DC.sl 66 [.sl 36 [.int,.int]] (AN i)),.one (.ro (.fn 102 []))],tag:=103,res:=λi=>⟨false,[none],[rcB (i.any (λz=>!(AV z)))]⟩}
theorem WK:Gr.Ok Tryz.prog 101:=by
 refine fok (X:=⟨tt,[(135,Gq)],[],9,[]⟩) mixed AG (CTok.cons WJ (CTok.nil _)) Tryz.func101 (λ_=>[]) ?_;intro (l:List (List V2)) a0;have a0:l.length<=9223372036854775807:=a0;refine AH (q:=∃i1:(List (List V2)),[DA.one (DC.sl 66 [.sl 36 [.int,.int]] (AN l)),DA.one (DC.ro (.fn 102 []))]=Gq.args i1/\Gq.pre i1/\((vB (decide ((Do (λz=>!(AV z)) i1)>=(0:Int)))=vB (l.any (λz=>!(AV z)))))) (by kernel_rfl) ?_;delta vB
 refine⟨l,by
  rfl,by
  exact a0,?_⟩
 exact congrArg Value.bool (X7 _ _)
def Cr:Con:={ι:=(List (List V2)),pre:=λi=>i.length<=9223372036854775807,args:=λi=>[.one (DC.sl 66 [.sl 36 [.int,.int]] (AN i))],res:=λi=>⟨false,[none],[rcB (A0 i)]⟩}
theorem NG:Cr.Ok Tryz.prog 62:=by
 refine fok (X:=⟨tt,[(101,Gr)],[],6,[]⟩) mixed AG (CTok.cons WK (CTok.nil _)) Tryz.func62 (λ_=>[]) ?_;intro (l:List (List V2)) a0;have a0:l.length<=9223372036854775807:=a0;refine AH (q:=∃i1:(List (List V2)),[DA.one (DC.sl 66 [.sl 36 [.int,.int]] (AN l)),DA.one (DC.ro (.fn 102 []))]=Gr.args i1/\Gr.pre i1/\((vB (!(i1.any (λz=>!(AV z))))=vB (A0 l)))) (by kernel_rfl) ?_;delta vB
 refine⟨l,by
  rfl,by
  exact a0,?_⟩
 exact congrArg Value.bool (by unfold A0;simp[List.not_any_eq_all_not])
def Eb:Con:={ι:=(List (List V2)),pre:=λi=>A0 i=true/\i.length<=1048576,args:=λi=>[.one (DC.sl 66 [.sl 36 [.int,.int]] (AN i))],res:=λi=>⟨false,[none],[.own 87 [.int,.int,.int,.int,.int,.bool] (Af (edA i))]⟩}
theorem RS:Eb.Ok Tryz.prog 105:=by
 refine fok (X:=⟨tt,[(62,Cr),(111,DN)],[],24,[]⟩) mixed AG (CTok.cons NG (CTok.cons Oc (CTok.nil _))) Tryz.func105 (λ(i:(List (List V2)))=>[(5,.mk 3 (Nat) (λx1=>{tm:=[(10,tX 1),(11,tI (nI ((AN i).length))),(12,tI (nI x1)),(3,tX 2)],en:=[(1,.view 66 [.sl 36 [.int,.int]] (AN i) []),(2,.own 87 z86 (Af (DM i x1)))]}) (λx1=>x1<=i.length) (λx1=>i.length-x1) (λ_=>[]))]) ?_;intro (l:List (List V2)) a0;have a0:A0 l=true/\l.length<=1048576:=a0;refine AH (q:=let Z1:=AN l;let Z3:=nI (Z1.length);∃i1:(List (List V2)),[DA.one (DC.sl 66 [.sl 36 [.int,.int]] Z1)]=Cr.args i1/\Cr.pre i1/\(ifB ((!(A0 i1))) ((([]:List (List Dat))=Af (edA l))) ((∃x1:Nat,(x1<=l.length)/\((rf (vI Z3))/\(vI (0:Int)=vI (nI x1))/\(rf Z1)/\(([]:List (List Dat))=(Af (DM l x1)))))/\∀x1:Nat,let Z2:=Af (DM l x1);(x1<=l.length)->(ifB ((decide ((nI x1)<Z3))) ((0<=(nI x1)/\(nI x1)<(Z1.length:Int))/\((x1<Z1.length)/\(∃i2:(List V2)×Int,[DA.one (DC.sl 36 [.int,.int] ((((Z1.getD x1 []).getD 0 (.int 0))).r)),DA.one (cI (nI x1))]=DN.args i2/\DN.pre i2/\((Z2.length+(Af (AO i2.1 i2.2)).length<=2199023255552)/\(∃y2:Nat,(y2<=l.length)/\(l.length-y2<l.length-x1)/\((rf (vI Z3))/\(vI (wR ((nI x1)+(1:Int)))=vI (nI y2))/\(rf Z1)/\((Z2++Af (AO i2.1 i2.2))=(Af (DM l y2))))))))) ((Z2=Af (edA l))))))) (by kernel_rfl) ?_;conv=>zeta
 delta ifB vI wR nI;have hal:=A8 l
 refine⟨l,by
  rfl,by
  show l.length<=9223372036854775807;omega,?_⟩
 refine⟨λc4=>?_,λc4=>?_⟩;simp only[nrm]at c4;rw[a0.1]at c4;cases c4;simp only[nrm]at c4;refine⟨⟨0,by omega,?_⟩,?_⟩;refine⟨rfl,?_,rfl,?_⟩;rfl;rfl;intro (k:Nat) a1;have a1:k<=l.length:=a1;refine And.symm ⟨λa2=>?_,λa2=>?_⟩;simp only[nrm]at a2;have hE:k=l.length:=by omega
 rw[hE];rfl;simp only[nrm]at a2;have a3:k<l.length:=by omega
 have hP:=Cp a0.1 a3;have h16:=(Aw hP).2.2;have hl1:=Ix a0.1 k (by omega);have hl2:=DY (l.getD k []) (k:Int) (l.getD k []).length;rw[show BZ (l.getD k []) (k:Int) (l.getD k []).length=AO (l.getD k []) (k:Int)from rfl]at hl2;refine ao (by omega) λo13=>?_;refine ao (by omega) λo14=>?_
 refine⟨(l.getD k [],((k:Nat):Int)),by
  rw[BR (by omega)];rfl,by
  show AV (l.getD k [])=true;omega,?_⟩
 refine ao (by dsimp only;rw[BA,BA];omega) λo18=>?_
 refine⟨k+1,by
  trivial,by
  omega,?_⟩
 refine⟨rfl,?_,rfl,?_⟩;exact AU (AB (by omega) (by omega));exact(IT _ _).symm
def Ec:Con:={ι:=(List (List V2)),pre:=λi=>A0 i=true/\i.length<=1048576,args:=λi=>[.one (DC.sl 66 [.sl 36 [.int,.int]] (AN i))],res:=λi=>⟨false,[none],[.own 87 [.int,.int,.int,.int,.int,.bool] (Af (edA i))]⟩}
theorem RU:Ec.Ok Tryz.prog 52:=by
 refine fok (X:=⟨tt,[(50,Co),(89,DO)],[],24,[]⟩) mixed AG (CTok.cons M9 (CTok.cons Od (CTok.nil _))) Tryz.func52 (λ(i:(List (List V2)))=>[(3,.mk 3 (Nat) (λx1=>{tm:=[(7,tX 1),(8,tI (nI ((AN i).length))),(9,tI (nI x1)),(3,tX 2)],en:=[(1,.view 66 [.sl 36 [.int,.int]] (AN i) []),(2,.own 87 z86 (Af (DM i x1)))]}) (λx1=>x1<=i.length) (λx1=>i.length-x1) (λ_=>[]))]) ?_;intro (l:List (List V2)) a0;have a0:A0 l=true/\l.length<=1048576:=a0;refine AH (q:=let Z2:=AN l;let Z4:=nI (Z2.length);(∃x1:Nat,(x1<=l.length)/\((rf (vI Z4))/\(vI (0:Int)=vI (nI x1))/\(rf Z2)/\(([]:List (List Dat))=(Af (DM l x1)))))/\∀x1:Nat,let Z3:=Af (DM l x1);let Z1:=DC.sl 36 [.int,.int] ((((Z2.getD x1 []).getD 0 (.int 0))).r);(x1<=l.length)->(ifB ((decide ((nI x1)<Z4))) ((0<=(nI x1)/\(nI x1)<(Z2.length:Int))/\((x1<Z2.length)/\(∃i1:(List V2),[DA.one Z1]=Co.args i1/\Co.pre i1/\(ifB ((!(AV i1))) ((([]:List (List Dat))=Af (edA l))) (∃i2:(List V2)×Int,[DA.one Z1,DA.one (cI (nI x1))]=DO.args i2/\DO.pre i2/\((Z3.length+(Af (AO i2.1 i2.2)).length<=2199023255552)/\(∃y2:Nat,(y2<=l.length)/\(l.length-y2<l.length-x1)/\((rf (vI Z4))/\(vI (wR ((nI x1)+(1:Int)))=vI (nI y2))/\(rf Z2)/\((Z3++Af (AO i2.1 i2.2))=(Af (DM l y2))))))))))) ((Z3=Af (edA l))))) (by kernel_rfl) ?_;conv=>zeta
 delta ifB vI wR nI;have hal:=A8 l;refine⟨⟨0,by omega,?_⟩,?_⟩;refine⟨rfl,?_,rfl,?_⟩;rfl;rfl;intro (k:Nat) a1;have a1:k<=l.length:=a1;refine And.symm ⟨λc7=>?_,λc7=>?_⟩;simp only[nrm]at c7;have hE:k=l.length:=by omega
 rw[hE];rfl;simp only[nrm]at c7;have a3:k<l.length:=by omega
 have hP:=Cp a0.1 a3;have h16:=(Aw hP).2.2;have hl1:=Ix a0.1 k (by omega);have hl2:=DY (l.getD k []) (k:Int) (l.getD k []).length;rw[show BZ (l.getD k []) (k:Int) (l.getD k []).length=AO (l.getD k []) (k:Int)from rfl]at hl2;refine ao (by omega) λo8=>?_;refine ao (by omega) λo9=>?_
 refine⟨(l.getD k []),by
  rw[BR (by omega)];rfl,by
  trivial,?_⟩
 refine⟨λa2=>?_,λa2=>?_⟩;simp only[nrm]at a2;rw[hP]at a2;cases a2;simp only[nrm]at a2
 refine⟨(l.getD k [],((k:Nat):Int)),by
  rw[BR (by omega)];rfl,by
  show AV (l.getD k [])=true;omega,?_⟩
 refine ao (by dsimp only;rw[BA,BA];omega) λo18=>?_
 refine⟨k+1,by
  trivial,by
  omega,?_⟩
 refine⟨rfl,?_,rfl,?_⟩;exact AU (AB (by omega) (by omega));exact(IT _ _).symm
end Go.Proofs.YthoidhehmmcgnaaGreat
