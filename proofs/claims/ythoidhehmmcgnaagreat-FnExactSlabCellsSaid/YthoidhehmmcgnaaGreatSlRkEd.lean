import Derived.Test.YthoidhehmmcgnaaGreatSlRkJ
namespace Go.Proofs.YthoidhehmmcgnaaGreat
set_option maxRecDepth 100000
set_option linter.unusedVariables false
set_option linter.unusedSimpArgs false
open Go.RowKit
def rOf(n d:Int):Fr:=if d=0 then Fr.none else Fr.mk' (zOf (decide (n<0) != decide (d<0)) n.natAbs) d.natAbs
theorem YP{n d:Int}(h:d=0):rOf n d=Fr.none:=by unfold rOf;rw[if_pos h]
theorem L5{n d:Int}(h:d≠0):rOf n d=Fr.mk' (zOf (decide (n<0) != decide (d<0)) n.natAbs) d.natAbs:=by unfold rOf;rw[if_neg h]
theorem L6{x:Int}(h:nl x.natAbs<=60):Br (decide (x<0)) (L x.natAbs)=true:=by rw[Re,decide_eq_true h]
theorem Zx(x y:Int):FW (zOf (decide (x<0) != decide (y<0)) x.natAbs) y.natAbs=rOf x y:=by by_cases h:y=0;rw[YP h,TY (by omega)];rw[L5 h,Gu (by omega)]
structure Edg where
 a:V2
 b:V2
 k:Int
 low:Bool
def Edg.ok(e:Edg):Bool:=A7 e.a && (A7 e.b && decide (e.a.1<e.b.1))
def slp(e:Edg):Fr:=rOf (e.b.2-e.a.2) (e.b.1-e.a.1)
def hgt(e:Edg)(x:Fr):Fr:=Fr.add (Fr.ofInt e.a.2) (Fr.mul (slp e) (Fr.sub x (Fr.ofInt e.a.1)))
def spn(e:Edg)(lo hi:Fr):Bool:=decide (Fr.cmp (Fr.ofInt e.a.1) lo<=0) && decide (Fr.cmp (Fr.ofInt e.b.1) hi>=0)
theorem Edg.bd{e:Edg}(h:e.ok=true):((-1000<=e.a.1/\e.a.1<=1000)/\-1000<=e.a.2/\e.a.2<=1000)/\((-1000<=e.b.1/\e.b.1<=1000)/\-1000<=e.b.2/\e.b.2<=1000)/\e.a.1<e.b.1:=by unfold Edg.ok at h;simp only[Bool.and_eq_true,decide_eq_true_eq]at h;have h1:=PD h.1;have h2:=PD h.2.1;exact⟨⟨⟨h1.1,h1.2.1⟩,h1.2.2⟩,⟨⟨h2.1,h2.2.1⟩,h2.2.2⟩,h.2.2⟩
theorem Edg.vecs{e:Edg} : e.ok=(A7 e.a && (A7 e.b && decide (e.a.1<e.b.1))):=rfl
def G4:Con:={ι:=Int×Int,pre:=λi=>nl i.1.natAbs<=60/\nl i.2.natAbs<=60,args:=λi=>[dB i.1,dB i.2],res:=λi=>⟨false,[none],[rcB true]⟩}
theorem WS:G4.Ok Tryz.prog 204:=by
 refine fok (X:=⟨tt,[(213,C2)],[],11,[]⟩) mixed AF (CTok.cons Rg (CTok.nil _)) Tryz.func204 (λ_=>[]) ?_;rintro⟨x,y⟩ a0;have a0:nl x.natAbs<=60/\nl y.natAbs<=60:=a0;refine AG (q:=∃i1:Bool×(List (List Dat)),[dB x]=C2.args i1/\C2.pre i1/\(ifB ((Br i1.1 i1.2)) (∃i2:Bool×(List (List Dat)),[dB y]=C2.args i2/\C2.pre i2/\((vB (Br i2.1 i2.2)=vB true))) ((vB false=vB true)))) (by kernel_rfl) ?_;delta ifB vB;have e1:=L6 (x:=x) a0.1;have e2:=L6 (x:=y) a0.2
 refine⟨(decide (x<0),(L x.natAbs)),by
  rfl,by
  show(L x.natAbs).length<=9223372036854775807;rw[AK];omega,?_⟩
 refine And.symm ⟨λc4=>?_,λc4=>?_⟩;simp only[nrm]at c4;rw[e1]at c4;cases c4;simp only[nrm]at c4
 refine⟨(decide (y<0),(L y.natAbs)),by
  rfl,by
  show(L y.natAbs).length<=9223372036854775807;rw[AK];omega,?_⟩
 rw[e2]
def Er:Con:={ι:=Int×Int,pre:=λi=>nl i.1.natAbs<=24/\nl i.2.natAbs<=24,args:=λi=>[dB i.1,dB i.2],res:=λi=>⟨false,[some 3],[rcB (decide ((rOf i.1 i.2).z<0)),.own 3 [.int] (L (rOf i.1 i.2).z.natAbs),.own 3 [.int] (L (rOf i.1 i.2).d)]⟩}
theorem Rq:Er.Ok Tryz.prog 185:=by
 refine fok (X:=⟨tt,[(204,G4),(152,Ar),(169,BS)],[],27,[]⟩) mixed AF (CTok.cons WS (CTok.cons FV (CTok.cons Gp (CTok.nil _)))) Tryz.func185 (λ_=>[]) ?_;rintro⟨x,y⟩ a0;have a0:nl x.natAbs<=24/\nl y.natAbs<=24:=a0;refine AG (q:=∃i1:Int×Int,[dB x,dB y]=G4.args i1/\G4.pre i1/\(ifB ((!(!true))) (ifB (((nI ((L y.natAbs).length)) == (0:Int))) ((eqN (rOf x y))) (∃i2:Bool×Nat,[DA.one (cB ((decide (x<0)) != (decide (y<0)))),DA.one (cS (L x.natAbs))]=Ar.args i2/\Ar.pre i2/\(∃i3:Int×Nat,[dB (zOf i2.1 i2.2),DA.one (cS (L y.natAbs))]=BS.args i3/\BS.pre i3/\((eqC (Fr.mk' i3.1 i3.2) (rOf x y)))))) ((eqN (rOf x y))))) (by kernel_rfl) ?_;delta ifB nI;have ly:=AK y.natAbs;have lx:=AK x.natAbs
 refine⟨(x,y),by
  rfl,by
  show nl x.natAbs<=60/\nl y.natAbs<=60;exact⟨by omega,by omega⟩,?_⟩
 refine And.symm ⟨λc4=>?_,λc4=>?_⟩;simp only[nrm]at c4;refine BV ?_;contradiction;simp only[nrm]at c4;refine⟨λc5=>?_,λc5=>?_⟩;simp only[nrm]at c5;have hy:y=0:=by have:=Co.1 (show nl y.natAbs=0 by omega);omega
 refine BV ?_;rw[YP hy];simp only[nrm]at c5;have hy:y≠0:=by rintro rfl;exact c5 (by rw[ly];simp[Ca])
 refine⟨(((decide (x<0)) != (decide (y<0))),x.natAbs),by
  rfl,by
  trivial,?_⟩
 refine⟨((zOf ((decide (x<0)) != (decide (y<0))) x.natAbs),y.natAbs),by
  rfl,by
  show y.natAbs≠0/\nl (zOf ((decide (x<0)) != (decide (y<0))) x.natAbs).natAbs<=1000/\nl y.natAbs<=1000;exact⟨by omega,by rw[El];omega,by omega⟩,?_⟩
 refine B0 ?_;rw[L5 hy]
def Ii:Con:={ι:=Int×Int,pre:=λi=>(-9223372036854775808<=i.1/\i.1<=9223372036854775807)/\(-9223372036854775808<=i.2/\i.2<=9223372036854775807),args:=λi=>[.one (cI i.1),.one (cI i.2)],res:=λi=>⟨false,[some 3],[rcB (decide ((rOf i.1 i.2).z<0)),.own 3 [.int] (L (rOf i.1 i.2).z.natAbs),.own 3 [.int] (L (rOf i.1 i.2).d)]⟩}
theorem YQ:Ii.Ok Tryz.prog 168:=by
 refine fok (X:=⟨tt,[(121,C1),(185,Er)],[],10,[]⟩) mixed AF (CTok.cons Rf (CTok.cons Rq (CTok.nil _))) Tryz.func168 (λ_=>[]) ?_;rintro⟨n,d⟩ a0;have a0:(-9223372036854775808<=n/\n<=9223372036854775807)/\(-9223372036854775808<=d/\d<=9223372036854775807):=a0;refine AG (q:=∃i1:Int,[DA.one (cI n)]=C1.args i1/\C1.pre i1/\(∃i2:Int,[DA.one (cI d)]=C1.args i2/\C1.pre i2/\(∃i3:Int×Int,[dB i1,dB i2]=Er.args i3/\Er.pre i3/\((eqC (rOf i3.1 i3.2) (rOf n d)))))) (by kernel_rfl) ?_
 refine⟨n,by
  rfl,by
  exact a0.1,?_⟩
 refine⟨d,by
  rfl,by
  exact a0.2,?_⟩
 refine⟨(n,d),by
  rfl,by
  exact⟨Nat.le_trans (CN a0.1) (by decide),Nat.le_trans (CN a0.2) (by decide)⟩,?_⟩
 exact B0 rfl
def EU:Con:={ι:=Int×Int,pre:=λi=>nl i.1.natAbs<=24/\nl i.2.natAbs<=24,args:=λi=>[dB i.1,dB i.2],res:=λi=>⟨false,[some 3],[rcB (decide ((rOf i.1 i.2).z<0)),.own 3 [.int] (L (rOf i.1 i.2).z.natAbs),.own 3 [.int] (L (rOf i.1 i.2).d)]⟩}
theorem Pv:EU.Ok Tryz.prog 124:=by
 refine fok (X:=⟨tt,[(130,Bj),(125,A1)],[],24,[]⟩) mixed AF (CTok.cons Js (CTok.cons Ih (CTok.nil _))) Tryz.func124 (λ_=>[]) ?_;rintro⟨x,y⟩ a0;have a0:nl x.natAbs<=24/\nl y.natAbs<=24:=a0;refine AG (q:=∃i1:Bool×(List (List Dat)),[dB x]=Bj.args i1/\Bj.pre i1/\(ifB ((!(!(Br i1.1 i1.2)))) (∃i2:Bool×(List (List Dat)),[dB y]=Bj.args i2/\Bj.pre i2/\(ifB ((!(Br i2.1 i2.2))) ((eqN (rOf x y))) (∃i3:Bool×Nat×Nat×Int,[DA.one (cB ((decide (x<0)) != (decide (y<0)))),DA.one (cS (L x.natAbs)),DA.one (cS (L y.natAbs))]=A1.args i3/\A1.pre i3/\((eqC (FW i3.2.2.2 i3.2.2.1) (rOf x y)))))) ((eqN (rOf x y))))) (by kernel_rfl) ?_;delta ifB;have e1:=L6 (x:=x) (Nat.le_trans a0.1 (by decide));have e2:=L6 (x:=y) (Nat.le_trans a0.2 (by decide));have ly:=AK y.natAbs;have lx:=AK x.natAbs
 refine⟨(decide (x<0),(L x.natAbs)),by
  rfl,by
  show(L x.natAbs).length<=9223372036854775807;rw[AK];omega,?_⟩
 refine And.symm ⟨λc4=>?_,λc4=>?_⟩;simp only[nrm]at c4;rw[e1]at c4;cases c4;simp only[nrm]at c4
 refine⟨(decide (y<0),(L y.natAbs)),by
  rfl,by
  show(L y.natAbs).length<=9223372036854775807;rw[AK];omega,?_⟩
 refine⟨λc8=>?_,λc8=>?_⟩;simp only[nrm]at c8;rw[e2]at c8;cases c8;simp only[nrm]at c8
 refine⟨(((decide (x<0)) != (decide (y<0))),x.natAbs,y.natAbs,(zOf ((decide (x<0)) != (decide (y<0))) x.natAbs)),by
  rfl,by
  show nl x.natAbs<=1000/\nl y.natAbs<=1000/\zOf ((decide (x<0)) != (decide (y<0))) x.natAbs=(zOf ((decide (x<0)) != (decide (y<0))) x.natAbs);exact⟨by omega,by omega,rfl⟩,?_⟩
 refine B0 ?_;exact Zx _ _
def Bf:Con:={ι:=Int×Int,pre:=λi=>(-9223372036854775808<=i.1/\i.1<=9223372036854775807)/\(-9223372036854775808<=i.2/\i.2<=9223372036854775807),args:=λi=>[.one (cI i.1),.one (cI i.2)],res:=λi=>⟨false,[some 3],[rcB (decide ((rOf i.1 i.2).z<0)),.own 3 [.int] (L (rOf i.1 i.2).z.natAbs),.own 3 [.int] (L (rOf i.1 i.2).d)]⟩}
theorem Km:Bf.Ok Tryz.prog 91:=by
 refine fok (X:=⟨tt,[(88,Bk),(124,EU)],[],10,[]⟩) mixed AF (CTok.cons Jt (CTok.cons Pv (CTok.nil _))) Tryz.func91 (λ_=>[]) ?_;rintro⟨n,d⟩ a0;have a0:(-9223372036854775808<=n/\n<=9223372036854775807)/\(-9223372036854775808<=d/\d<=9223372036854775807):=a0;refine AG (q:=∃i1:Int,[DA.one (cI n)]=Bk.args i1/\Bk.pre i1/\(∃i2:Int,[DA.one (cI d)]=Bk.args i2/\Bk.pre i2/\(∃i3:Int×Int,[dB i1,dB i2]=EU.args i3/\EU.pre i3/\((eqC (rOf i3.1 i3.2) (rOf n d)))))) (by kernel_rfl) ?_
 refine⟨n,by
  rfl,by
  exact a0.1,?_⟩
 refine⟨d,by
  rfl,by
  exact a0.2,?_⟩
 refine⟨(n,d),by
  rfl,by
  exact⟨Nat.le_trans (CN a0.1) (by decide),Nat.le_trans (CN a0.2) (by decide)⟩,?_⟩
 exact B0 rfl
theorem U3(e:Edg):([e.a,e.b].all A7)=(A7 e.a && A7 e.b):=by simp
def GS(e f:Edg):Fr:=Fr.div (Fr.sub (hgt f (Fr.ofInt 0)) (hgt e (Fr.ofInt 0))) (Fr.sub (slp e) (slp f))
def C5(e f:Edg):Bool:=(GS e f).good && (spn e (GS e f) (GS e f) && spn f (GS e f) (GS e f))
def Fa(e f:Edg):Fr:=if C5 e f=true then GS e f else Fr.none
def Lq(e:Edg)(y:Int):Fr:=Fr.add (Fr.ofInt e.a.1) (Fr.div (Fr.ofInt (y-e.a.2)) (slp e))
def Bs(e:Edg)(y:Int):Bool:=!(decide (e.a.2=e.b.2)) && ((decide (y>=-1000) && decide (y<=1000)) && ((Lq e y).good && spn e (Lq e y) (Lq e y)))
def CT(e:Edg)(y:Int):Fr:=if Bs e y=true then Lq e y else Fr.none
theorem Ij{e f:Edg}(h:C5 e f=false):Fa e f=Fr.none:=by unfold Fa;rw[if_neg (by rw[h];simp)]
theorem NP{e f:Edg}(h:C5 e f=true):Fa e f=GS e f:=by unfold Fa;rw[if_pos h]
theorem G5{e:Edg}{y:Int}(h:Bs e y=false):CT e y=Fr.none:=by unfold CT;rw[if_neg (by rw[h];simp)]
theorem NQ{e:Edg}{y:Int}(h:Bs e y=true):CT e y=Lq e y:=by unfold CT;rw[if_pos h]
def Cd:Con:={ι:=Edg,pre:=λi=>True,args:=λi=>[DA.agg [cI i.a.1,cI i.a.2,cI i.b.1,cI i.b.2,cI i.k,cB i.low]],res:=λi=>⟨false,[none],[rcB i.ok]⟩}
theorem Om:Cd.Ok Tryz.prog 139:=by
 refine fok (X:=⟨tt,[(137,Fq)],[],18,[]⟩) mixed AF (CTok.cons Tf (CTok.nil _)) Tryz.func139 (λ_=>[]) ?_;intro (e:Edg) a0;have a0:True:=a0;refine AG (q:=∃i1:(List V2),[DA.one (DC.sl 36 [.int,.int] ([[Dat.int e.a.1,Dat.int e.a.2],[Dat.int e.b.1,Dat.int e.b.2]]:List (List Dat)))]=Fq.args i1/\Fq.pre i1/\(ifB ((i1.all A7)) ((vB (decide (e.a.1<e.b.1))=vB e.ok)) ((vB false=vB e.ok)))) (by kernel_rfl) ?_;delta ifB vB
 refine⟨[e.a,e.b],by
  rfl,by
  trivial,?_⟩
 refine⟨λc4=>?_,λc4=>?_⟩;rw[U3]at c4;refine congrArg Value.bool ?_;unfold Edg.ok;rw[← Bool.and_assoc,c4];simp;rw[U3]at c4;refine congrArg Value.bool ?_;unfold Edg.ok;rw[← Bool.and_assoc,c4];simp
def BP:Con:={ι:=Edg,pre:=λi=>True,args:=λi=>[DA.agg [cI i.a.1,cI i.a.2,cI i.b.1,cI i.b.2,cI i.k,cB i.low]],res:=λi=>⟨false,[none],[rcB i.ok]⟩}
theorem Ik:BP.Ok Tryz.prog 90:=by
 refine fok (X:=⟨tt,[(86,EI)],[],20,[]⟩) mixed AF (CTok.cons WP (CTok.nil _)) Tryz.func90 (λ_=>[]) ?_;intro (e:Edg) a0;have a0:True:=a0;refine AG (q:=∃i1:Int×Int,[DA.agg [cI e.a.1,cI e.a.2]]=EI.args i1/\EI.pre i1/\(ifB ((A7 (i1.1,i1.2))) (∃i2:Int×Int,[DA.agg [cI e.b.1,cI e.b.2]]=EI.args i2/\EI.pre i2/\(ifB ((A7 (i2.1,i2.2))) ((vB (decide (e.a.1<e.b.1))=vB e.ok)) ((vB false=vB e.ok)))) ((vB false=vB e.ok)))) (by kernel_rfl) ?_;delta ifB vB
 refine⟨(e.a.1,e.a.2),by
  rfl,by
  trivial,?_⟩
 refine And.symm ⟨λc4=>?_,λc4=>?_⟩;simp only[nrm]at c4;refine congrArg Value.bool ?_;rw[Edg.vecs];simp_all;simp only[nrm]at c4
 refine⟨(e.b.1,e.b.2),by
  rfl,by
  trivial,?_⟩
 refine⟨λc8=>?_,λc8=>?_⟩;simp only[nrm]at c8;refine congrArg Value.bool ?_;rw[Edg.vecs];simp_all;simp only[nrm]at c8;refine congrArg Value.bool ?_;rw[Edg.vecs];simp_all
def CB:Con:={ι:=Edg,pre:=λi=>i.ok=true,args:=λi=>[DA.agg [cI i.a.1,cI i.a.2,cI i.b.1,cI i.b.2,cI i.k,cB i.low]],res:=λi=>⟨false,[some 3],[rcB (decide ((slp i).z<0)),.own 3 [.int] (L (slp i).z.natAbs),.own 3 [.int] (L (slp i).d)]⟩}
theorem NR:CB.Ok Tryz.prog 141:=by
 refine fok (X:=⟨tt,[(168,Ii)],[],18,[]⟩) mixed AF (CTok.cons YQ (CTok.nil _)) Tryz.func141 (λ_=>[]) ?_;intro (e:Edg) a0;have a0:e.ok=true:=a0;refine AG (q:=∃i1:Int×Int,[DA.one (cI (wR (e.b.2-e.a.2))),DA.one (cI (wR (e.b.1-e.a.1)))]=Ii.args i1/\Ii.pre i1/\((eqC (rOf i1.1 i1.2) (slp e)))) (by kernel_rfl) ?_;delta wR;have hb:=Edg.bd a0;have hw1:IntKind.i64.wrap (e.b.2-e.a.2)=e.b.2-e.a.2:=AC (by omega) (by omega);have hw2:IntKind.i64.wrap (e.b.1-e.a.1)=e.b.1-e.a.1:=AC (by omega) (by omega)
 refine⟨(e.b.2-e.a.2,e.b.1-e.a.1),by
  rw[hw1,hw2];rfl,by
  exact⟨⟨by omega,by omega⟩,by omega,by omega⟩,?_⟩
 refine B0 ?_;rfl
def BZ:Con:={ι:=Edg×Fr,pre:=λi=>i.1.ok=true,args:=λi=>[DA.agg [cI i.1.a.1,cI i.1.a.2,cI i.1.b.1,cI i.1.b.2,cI i.1.k,cB i.1.low],dF i.2],res:=λi=>⟨false,[some 3],[rcB (decide ((hgt i.1 i.2).z<0)),.own 3 [.int] (L (hgt i.1 i.2).z.natAbs),.own 3 [.int] (L (hgt i.1 i.2).d)]⟩}
theorem Li:BZ.Ok Tryz.prog 113:=by
 refine fok (X:=⟨tt,[(82,AV),(141,CB),(140,Cc),(147,Gq),(143,Bd)],[],19,[]⟩) mixed AF (CTok.cons E6 (CTok.cons NR (CTok.cons Of (CTok.cons WF (CTok.cons Ie (CTok.nil _)))))) Tryz.func113 (λ_=>[]) ?_;rintro⟨e,x⟩ a0;have a0:e.ok=true:=a0;refine AG (q:=∃i1:Int,[DA.one (cI e.a.2)]=AV.args i1/\AV.pre i1/\(∃i2:Edg,[DA.agg [cI e.a.1,cI e.a.2,cI e.b.1,cI e.b.2,cI e.k,cB e.low]]=CB.args i2/\CB.pre i2/\(∃i3:Int,[DA.one (cI e.a.1)]=AV.args i3/\AV.pre i3/\(∃i4:Fr×Fr,[dF x,dF (Fr.ofInt i3)]=Cc.args i4/\Cc.pre i4/\(∃i5:Fr×Fr,[dF (slp i2),dF (Fr.sub i4.1 i4.2)]=Gq.args i5/\Gq.pre i5/\(∃i6:Fr×Fr,[dF (Fr.ofInt i1),dF (Fr.mul i5.1 i5.2)]=Bd.args i6/\Bd.pre i6/\((eqC (Fr.add i6.1 i6.2) (hgt e x))))))))) (by kernel_rfl) ?_;have hb:=Edg.bd a0
 refine⟨e.a.2,by
  rfl,by
  exact⟨by omega,by omega⟩,?_⟩
 refine⟨e,by
  rfl,by
  exact a0,?_⟩
 refine⟨e.a.1,by
  rfl,by
  exact⟨by omega,by omega⟩,?_⟩
 refine⟨(x,(Fr.ofInt e.a.1)),by
  rfl,by
  trivial,?_⟩
 refine⟨((slp e),(Fr.sub x (Fr.ofInt e.a.1))),by
  rfl,by
  trivial,?_⟩
 refine⟨((Fr.ofInt e.a.2),(Fr.mul (slp e) (Fr.sub x (Fr.ofInt e.a.1)))),by
  rfl,by
  trivial,?_⟩
 refine B0 ?_;rfl
def CC:Con:={ι:=Edg×Fr×Fr,pre:=λi=>i.1.ok=true,args:=λi=>[DA.agg [cI i.1.a.1,cI i.1.a.2,cI i.1.b.1,cI i.1.b.2,cI i.1.k,cB i.1.low],dF i.2.1,dF i.2.2],res:=λi=>⟨false,[none],[rcB (spn i.1 i.2.1 i.2.2)]⟩}
theorem NS:CC.Ok Tryz.prog 112:=by
 refine fok (X:=⟨tt,[(82,AV),(81,AN)],[],23,[]⟩) mixed AF (CTok.cons E6 (CTok.cons GP (CTok.nil _))) Tryz.func112 (λ_=>[]) ?_;rintro⟨e,x,y⟩ a0;have a0:e.ok=true:=a0;refine AG (q:=∃i1:Int,[DA.one (cI e.a.1)]=AV.args i1/\AV.pre i1/\(∃i2:Fr×Fr,[dF (Fr.ofInt i1),dF x]=AN.args i2/\AN.pre i2/\(ifB ((decide ((Fr.cmp i2.1 i2.2)<=(0:Int)))) (∃i3:Int,[DA.one (cI e.b.1)]=AV.args i3/\AV.pre i3/\(∃i4:Fr×Fr,[dF (Fr.ofInt i3),dF y]=AN.args i4/\AN.pre i4/\((vB (decide ((Fr.cmp i4.1 i4.2)>=(0:Int)))=vB (spn e x y))))) ((vB false=vB (spn e x y)))))) (by kernel_rfl) ?_;delta ifB vB;have hb:=Edg.bd a0
 refine⟨e.a.1,by
  rfl,by
  exact⟨by omega,by omega⟩,?_⟩
 refine⟨((Fr.ofInt e.a.1),x),by
  rfl,by
  trivial,?_⟩
 refine And.symm ⟨λc7=>?_,λc7=>?_⟩;simp only[nrm]at c7;refine congrArg Value.bool ?_;unfold spn;first|(·simp_all)|(·rw[decide_eq_false (by omega)];simp_all)|(·rw[decide_eq_true (by omega)];simp_all)
 simp only[nrm]at c7
 refine⟨e.b.1,by
  rfl,by
  exact⟨by omega,by omega⟩,?_⟩
 refine⟨((Fr.ofInt e.b.1),y),by
  rfl,by
  trivial,?_⟩
 refine congrArg Value.bool ?_;unfold spn;first|(·simp_all)|(·rw[decide_eq_false (by omega)];simp_all)|(·rw[decide_eq_true (by omega)];simp_all)
def BL:Con:={ι:=Edg×Fr,pre:=λi=>i.1.ok=true,args:=λi=>[DA.agg [cI i.1.a.1,cI i.1.a.2,cI i.1.b.1,cI i.1.b.2,cI i.1.k,cB i.1.low],dF i.2],res:=λi=>⟨false,[some 3],[rcB (decide ((hgt i.1 i.2).z<0)),.own 3 [.int] (L (hgt i.1 i.2).z.natAbs),.own 3 [.int] (L (hgt i.1 i.2).d)]⟩}
theorem Jw:BL.Ok Tryz.prog 94:=by
 refine fok (X:=⟨tt,[(90,BP),(51,AL),(93,CF),(91,Bf),(129,Fk),(96,BT)],[],38,[]⟩) mixed AF (CTok.cons Ik (CTok.cons CO (CTok.cons NM (CTok.cons Km (CTok.cons Ta (CTok.cons Gz (CTok.nil _))))))) Tryz.func94 (λ_=>[]) ?_;rintro⟨e,x⟩ a0;have a0:e.ok=true:=a0;refine AG (q:=∃i1:Edg,[DA.agg [cI e.a.1,cI e.a.2,cI e.b.1,cI e.b.2,cI e.k,cB e.low]]=BP.args i1/\BP.pre i1/\(ifB ((!i1.ok)) ((eqN (hgt e x))) (∃i2:Int,[DA.one (cI e.a.1)]=AL.args i2/\AL.pre i2/\(∃i3:Fr×Fr,[dF x,dF (Fr.ofInt i2)]=CF.args i3/\CF.pre i3/\(∃i4:Int,[DA.one (cI e.a.2)]=AL.args i4/\AL.pre i4/\(∃i5:Int×Int,[DA.one (cI (wR (e.b.2-e.a.2))),DA.one (cI (wR (e.b.1-e.a.1)))]=Bf.args i5/\Bf.pre i5/\(∃i6:Fr×Fr,[dF (Fr.sub i3.1 i3.2),dF (rOf i5.1 i5.2)]=Fk.args i6/\Fk.pre i6/\(∃i7:Fr×Fr,[dF (Fr.ofInt i4),dF (Fr.mul i6.1 i6.2)]=BT.args i7/\BT.pre i7/\((eqC (Fr.add i7.1 i7.2) (hgt e x))))))))))) (by kernel_rfl) ?_;delta ifB wR;have hb:=Edg.bd a0;have hw1:IntKind.i64.wrap (e.b.2-e.a.2)=e.b.2-e.a.2:=AC (by omega) (by omega);have hw2:IntKind.i64.wrap (e.b.1-e.a.1)=e.b.1-e.a.1:=AC (by omega) (by omega)
 refine⟨e,by
  rfl,by
  trivial,?_⟩
 refine⟨λc4=>?_,λc4=>?_⟩;simp only[nrm]at c4;rw[a0]at c4;cases c4;simp only[nrm]at c4
 refine⟨e.a.1,by
  rfl,by
  exact⟨by omega,by omega⟩,?_⟩
 refine⟨(x,(Fr.ofInt e.a.1)),by
  rfl,by
  trivial,?_⟩
 refine⟨e.a.2,by
  rfl,by
  exact⟨by omega,by omega⟩,?_⟩
 refine⟨(e.b.2-e.a.2,e.b.1-e.a.1),by
  rw[hw1,hw2];rfl,by
  exact⟨by omega,by omega⟩,?_⟩
 refine⟨((Fr.sub x (Fr.ofInt e.a.1)),(rOf (e.b.2-e.a.2) (e.b.1-e.a.1))),by
  rfl,by
  trivial,?_⟩
 refine⟨((Fr.ofInt e.a.2),(Fr.mul (Fr.sub x (Fr.ofInt e.a.1)) (rOf (e.b.2-e.a.2) (e.b.1-e.a.1)))),by
  rfl,by
  trivial,?_⟩
 refine B0 ?_;unfold hgt;rw[Fr.mul_com];rfl
def Bp:Con:={ι:=Edg×Fr×Fr,pre:=λi=>i.1.ok=true,args:=λi=>[DA.agg [cI i.1.a.1,cI i.1.a.2,cI i.1.b.1,cI i.1.b.2,cI i.1.k,cB i.1.low],dF i.2.1,dF i.2.2],res:=λi=>⟨false,[none],[rcB (i.2.1.good && (i.2.2.good && spn i.1 i.2.1 i.2.2))]⟩}
theorem Kn:Bp.Ok Tryz.prog 95:=by
 refine fok (X:=⟨tt,[(90,BP),(97,AO),(51,AL),(55,Af)],[],35,[]⟩) mixed AF (CTok.cons Ik (CTok.cons FA (CTok.cons CO (CTok.cons FX (CTok.nil _))))) Tryz.func95 (λ_=>[]) ?_;rintro⟨e,x,y⟩ a0;have a0:e.ok=true:=a0;refine AG (q:=let Z3:=x.good && (y.good && spn e x y);let Z2:=List (List Dat);let Z1:=(vB false=vB Z3);∃i1:Edg,[DA.agg [cI e.a.1,cI e.a.2,cI e.b.1,cI e.b.2,cI e.k,cB e.low]]=BP.args i1/\BP.pre i1/\(ifB (i1.ok) (∃i2:Bool×Z2×Z2×Bool,[dF x]=AO.args i2/\AO.pre i2/\(ifB (i2.2.2.2) (∃i3:Bool×Z2×Z2×Bool,[dF y]=AO.args i3/\AO.pre i3/\(ifB (i3.2.2.2) (∃i4:Int,[DA.one (cI e.a.1)]=AL.args i4/\AL.pre i4/\(∃i5:Fr×Fr,[dF (Fr.ofInt i4),dF x]=Af.args i5/\Af.pre i5/\(ifB ((decide ((Fr.cmp i5.1 i5.2)<=(0:Int)))) (∃i6:Int,[DA.one (cI e.b.1)]=AL.args i6/\AL.pre i6/\(∃i7:Fr×Fr,[dF (Fr.ofInt i6),dF y]=Af.args i7/\Af.pre i7/\((vB (decide ((Fr.cmp i7.1 i7.2)>=(0:Int)))=vB Z3)))) Z1))) Z1)) Z1)) Z1)) (by kernel_rfl) ?_;conv=>zeta
 delta ifB vB;have hb:=Edg.bd a0;have h1x:=x.nlz;have h2x:=x.nld;have l1x:=AK x.d;have l2x:=AK x.z.natAbs;have h1y:=y.nlz;have h2y:=y.nld;have l1y:=AK y.d;have l2y:=AK y.z.natAbs
 refine⟨e,by
  rfl,by
  trivial,?_⟩
 refine And.symm ⟨λc4=>?_,λc4=>?_⟩;rw[a0]at c4;cases c4
 refine⟨(decide (x.z<0),(L x.z.natAbs),(L x.d),x.good),by
  rfl,by
  try dsimp only[AO]
  exact⟨B8 _ (by omega),B8 _ (by omega),by omega,by omega,CA _⟩,?_⟩
 refine And.symm ⟨λc8=>?_,λc8=>?_⟩;simp only[nrm]at c8;refine congrArg Value.bool ?_;unfold spn;first|(·simp_all)|(·rw[decide_eq_false (by omega)];simp_all)|(·rw[decide_eq_true (by omega)];simp_all)
 simp only[nrm]at c8
 refine⟨(decide (y.z<0),(L y.z.natAbs),(L y.d),y.good),by
  rfl,by
  try dsimp only[AO]
  exact⟨B8 _ (by omega),B8 _ (by omega),by omega,by omega,CA _⟩,?_⟩
 refine And.symm ⟨λa1=>?_,λa1=>?_⟩;simp only[nrm]at a1;refine congrArg Value.bool ?_;unfold spn;first|(·simp_all)|(·rw[decide_eq_false (by omega)];simp_all)|(·rw[decide_eq_true (by omega)];simp_all)
 simp only[nrm]at a1
 refine⟨e.a.1,by
  rfl,by
  exact⟨by omega,by omega⟩,?_⟩
 refine⟨((Fr.ofInt e.a.1),x),by
  rfl,by
  trivial,?_⟩
 refine And.symm ⟨λa2=>?_,λa2=>?_⟩;simp only[nrm]at a2;refine congrArg Value.bool ?_;unfold spn;first|(·simp_all)|(·rw[decide_eq_false (by omega)];simp_all)|(·rw[decide_eq_true (by omega)];simp_all)
 simp only[nrm]at a2
 refine⟨e.b.1,by
  rfl,by
  exact⟨by omega,by omega⟩,?_⟩
 refine⟨((Fr.ofInt e.b.1),y),by
  rfl,by
  trivial,?_⟩
 refine congrArg Value.bool ?_;unfold spn;first|(·simp_all)|(·rw[decide_eq_false (by omega)];simp_all)|(·rw[decide_eq_true (by omega)];simp_all)
theorem Es{d:Int}(h:d≠0):(d:Rat)≠0:=λe=>h (by have:=congrArg Rat.num e;simpa using this)
theorem YR(n d:Int)(h:d≠0):mkRat (zOf (decide (n<0) != decide (d<0)) n.natAbs) d.natAbs=(n:Rat)/(d:Rat):=by
 rw[div_mk (Es h)];have e1:((n:Int):Rat).num=n:=by simp
 have e2:((n:Int):Rat).den=1:=by simp
 have e3:((d:Int):Rat).num=d:=by simp
 have e4:((d:Int):Rat).den=1:=by simp
 rw[e1,e2,e3,e4];congr 1;unfold zOf;by_cases h1:n<0 <;> by_cases h2:d<0 <;> simp[h1,h2] <;> omega;omega
theorem ABc{z:Int}{d:Nat}(hd:d≠0)(h1:nl z.natAbs<=24)(h2:nl d<=24):Pf (mkRat z d)=true:=by rw[Dp,Dq hd,(EC hd).2];exact⟨Nat.le_trans (Cz (Nat.div_le_self _ _)) h1,Nat.le_trans (Cz (Nat.div_le_self _ _)) h2⟩
theorem ACP{n d:Int}(h:d≠0)(h1:nl n.natAbs<=24)(h2:nl d.natAbs<=24):(rOf n d).v=some ((n:Rat)/(d:Rat)):=by rw[L5 h];unfold Fr.mk';rw[← YR n d h];exact Ez (ABc (by omega) (by rw[El];exact h1) h2)
theorem WT{n d:Int}(h:d≠0):rOf n d=clamp ((n:Rat)/(d:Rat)):=by rw[L5 h];unfold Fr.mk';rw[YR n d h]
theorem L7{r s:Fr}(hr:r.d≠0)(hs:s.d≠0)(h:Fr.cmp r s=0):r=s:=by obtain⟨p,hp,e1,e2⟩:=Fr.some_d hr;obtain⟨q,hq,e3,e4⟩:=Fr.some_d hs;apply Fr.ext;rw[hp,hq];unfold Fr.cmp Ns at h;rw[hp,hq]at h;simp only at h;by_cases h1:p<q;simp[h1]at h;by_cases h2:p=q;rw[h2];simp[h1,h2]at h
theorem Rr{e:Edg}(h:e.ok=true):(slp e).v=some (((e.b.2-e.a.2:Int):Rat)/((e.b.1-e.a.1:Int):Rat)):=by have hb:=Edg.bd h;exact ACP (by omega) (Nat.le_trans (CN ⟨by omega,by omega⟩) (by decide)) (Nat.le_trans (CN ⟨by omega,by omega⟩) (by decide))
theorem AAs{e:Edg}(h:e.ok=true):(slp e).d≠0:=by rw[Fr.d_some (Rr h)];exact Rat.den_nz _
theorem Zy{e f:Edg}(he:e.ok=true)(hf:f.ok=true)(h:Fr.cmp (slp e) (slp f)=0):C5 e f=false:=by
 have e1:=L7 (AAs he) (AAs hf) h
 have:GS e f=Fr.none:=by
  unfold GS;rw[← e1];have h0:(Fr.sub (slp e) (slp e)).v=some 0:=by unfold Fr.sub Fr.bin;rw[Rr he];simp only;rw[Rat.sub_self];exact Ez (Dp.2 ⟨by show nl 0<=24;rw[Ca];decide,by show nl 1<=24;rw[Po];decide⟩)
  exact Fr.div_zero h0 rfl
 unfold C5;rw[this];rfl
theorem YS{m dy dx:Int}(h1:dy≠0)(h2:dx≠0):(m:Rat)/((dy:Rat)/(dx:Rat))=((m*dx:Int):Rat)/(dy:Rat):=by have h3:=Es h1;have h4:=Es h2;rw[Rat.intCast_mul];grind
theorem YT{e:Edg}{y:Int}(h:e.ok=true)(hy:-1000<=y/\y<=1000)(hn:e.a.2≠e.b.2):Fr.add (Fr.ofInt e.a.1) (rOf ((y-e.a.2)*(e.b.1-e.a.1)) (e.b.2-e.a.2))=Lq e y:=by
 have hb:=Edg.bd h;unfold Lq;congr 1;have h1:(Fr.ofInt (y-e.a.2)).v=some (((y-e.a.2:Int)):Rat):=Gb (Nat.le_trans (CN ⟨by omega,by omega⟩) (by decide));have h0:¬(((e.b.2-e.a.2:Int):Rat)/((e.b.1-e.a.1:Int):Rat))=0:=by have h3:=Es (show e.b.2-e.a.2≠0 by omega);have h4:=Es (show e.b.1-e.a.1≠0 by omega);grind
 rw[WT (by omega)];unfold Fr.div Fr.bin;rw[h1,Rr h];simp only;rw[if_neg h0,YS (by omega) (by omega)]
def Jx:Con:={ι:=Edg×Edg,pre:=λi=>i.1.ok=true/\i.2.ok=true,args:=λi=>[DA.agg [cI i.1.a.1,cI i.1.a.2,cI i.1.b.1,cI i.1.b.2,cI i.1.k,cB i.1.low],DA.agg [cI i.2.a.1,cI i.2.a.2,cI i.2.b.1,cI i.2.b.2,cI i.2.k,cB i.2.low]],res:=λi=>⟨true,[some 3,none],[rcB (decide ((Fa i.1 i.2).z<0)),.own 3 [.int] (L (Fa i.1 i.2).z.natAbs),.own 3 [.int] (L (Fa i.1 i.2).d),rcB (C5 i.1 i.2)]⟩}
theorem Zz:Jx.Ok Tryz.prog 106:=by
 refine fok (X:=⟨tt,[(139,Cd),(141,CB),(140,Cc),(82,AV),(113,BZ),(142,DL),(118,Ag),(112,CC)],[],50,[]⟩) mixed AF (CTok.cons Om (CTok.cons NR (CTok.cons Of (CTok.cons E6 (CTok.cons Li (CTok.cons Oe (CTok.cons E5 (CTok.cons NS (CTok.nil _))))))))) Tryz.func106 (λ_=>[]) ?_;rintro⟨e,f⟩ a0;have a0:e.ok=true/\f.ok=true:=a0;refine AG (q:=let Z1:=(eqM (Fa e f) ((vB false=vB (C5 e f))));∃i1:Edg,[DA.agg [cI e.a.1,cI e.a.2,cI e.b.1,cI e.b.2,cI e.k,cB e.low]]=Cd.args i1/\Cd.pre i1/\(ifB ((!(!i1.ok))) (∃i2:Edg,[DA.agg [cI f.a.1,cI f.a.2,cI f.b.1,cI f.b.2,cI f.k,cB f.low]]=Cd.args i2/\Cd.pre i2/\(ifB ((!i2.ok)) Z1 (∃i3:Edg,[DA.agg [cI e.a.1,cI e.a.2,cI e.b.1,cI e.b.2,cI e.k,cB e.low]]=CB.args i3/\CB.pre i3/\(∃i4:Edg,[DA.agg [cI f.a.1,cI f.a.2,cI f.b.1,cI f.b.2,cI f.k,cB f.low]]=CB.args i4/\CB.pre i4/\(∃i5:Fr×Fr,[dF (slp i3),dF (slp i4)]=Cc.args i5/\Cc.pre i5/\(∃i6:Int,[DA.one (cI (0:Int))]=AV.args i6/\AV.pre i6/\(∃i7:Edg×Fr,[DA.agg [cI f.a.1,cI f.a.2,cI f.b.1,cI f.b.2,cI f.k,cB f.low],dF (Fr.ofInt i6)]=BZ.args i7/\BZ.pre i7/\(∃i8:Int,[DA.one (cI (0:Int))]=AV.args i8/\AV.pre i8/\(∃i9:Edg×Fr,[DA.agg [cI e.a.1,cI e.a.2,cI e.b.1,cI e.b.2,cI e.k,cB e.low],dF (Fr.ofInt i8)]=BZ.args i9/\BZ.pre i9/\(∃a3:Fr×Fr,[dF (hgt i7.1 i7.2),dF (hgt i9.1 i9.2)]=Cc.args a3/\Cc.pre a3/\(∃a4:Fr×Fr,let Z2:=Fr.div a4.1 a4.2;[dF (Fr.sub a3.1 a3.2),dF (Fr.sub i5.1 i5.2)]=DL.args a4/\DL.pre a4/\(∃a5:Fr,[dF Z2]=Ag.args a5/\Ag.pre a5/\(ifB ((!(!a5.good))) (∃a1:Edg×Fr×Fr,[DA.agg [cI e.a.1,cI e.a.2,cI e.b.1,cI e.b.2,cI e.k,cB e.low],dF Z2,dF Z2]=CC.args a1/\CC.pre a1/\(ifB ((!(!(spn a1.1 a1.2.1 a1.2.2)))) (∃a2:Edg×Fr×Fr,[DA.agg [cI f.a.1,cI f.a.2,cI f.b.1,cI f.b.2,cI f.k,cB f.low],dF Z2,dF Z2]=CC.args a2/\CC.pre a2/\(ifB ((!(spn a2.1 a2.2.1 a2.2.2))) Z1 ((eqD Z2 (Fa e f) ((vB true=vB (C5 e f))))))) Z1)) Z1))))))))))))) Z1)) (by kernel_rfl) ?_;conv=>zeta
 delta ifB vB
 refine⟨e,by
  rfl,by
  trivial,?_⟩
 refine And.symm ⟨λc4=>?_,λc4=>?_⟩;simp only[nrm]at c4;rw[a0.1]at c4;cases c4;simp only[nrm]at c4
 refine⟨f,by
  rfl,by
  trivial,?_⟩
 refine⟨λc8=>?_,λc8=>?_⟩;simp only[nrm]at c8;rw[a0.2]at c8;cases c8;simp only[nrm]at c8
 refine⟨e,by
  rfl,by
  trivial,?_⟩
 refine⟨f,by
  rfl,by
  trivial,?_⟩
 refine⟨((slp e),(slp f)),by
  rfl,by
  trivial,?_⟩
 refine⟨(0:Int),by
  rfl,by
  trivial,?_⟩
 refine⟨(f,(Fr.ofInt (0:Int))),by
  rfl,by
  trivial,?_⟩
 refine⟨(0:Int),by
  rfl,by
  trivial,?_⟩
 refine⟨(e,(Fr.ofInt (0:Int))),by
  rfl,by
  trivial,?_⟩
 refine⟨((hgt f (Fr.ofInt (0:Int))),(hgt e (Fr.ofInt (0:Int)))),by
  rfl,by
  trivial,?_⟩
 refine⟨((Fr.sub (hgt f (Fr.ofInt (0:Int))) (hgt e (Fr.ofInt (0:Int)))),(Fr.sub (slp e) (slp f))),by
  rfl,by
  trivial,?_⟩
 refine⟨GS e f,by
  rfl,by
  trivial,?_⟩
 refine And.symm ⟨λa6=>?_,λa6=>?_⟩;simp only[nrm]at a6;have hB:C5 e f=false:=by unfold C5;simp_all
 refine EF ?_ ?_;exact Ij hB;rw[hB];simp only[nrm]at a6
 refine⟨(e,GS e f,GS e f),by
  rfl,by
  trivial,?_⟩
 refine And.symm ⟨λa7=>?_,λa7=>?_⟩;simp only[nrm]at a7;have hB:C5 e f=false:=by unfold C5;simp_all
 refine EF ?_ ?_;exact Ij hB;rw[hB];simp only[nrm]at a7
 refine⟨(f,GS e f,GS e f),by
  rfl,by
  trivial,?_⟩
 refine⟨λa8=>?_,λa8=>?_⟩;simp only[nrm]at a8;have hB:C5 e f=false:=by unfold C5;simp_all
 refine EF ?_ ?_;exact Ij hB;rw[hB];simp only[nrm]at a8;have hB:C5 e f=true:=by unfold C5;simp_all
 refine Du ?_ ?_;exact(NP hB).symm;rw[hB]
def Jy:Con:={ι:=Edg×Edg,pre:=λi=>i.1.ok=true/\i.2.ok=true,args:=λi=>[DA.agg [cI i.1.a.1,cI i.1.a.2,cI i.1.b.1,cI i.1.b.2,cI i.1.k,cB i.1.low],DA.agg [cI i.2.a.1,cI i.2.a.2,cI i.2.b.1,cI i.2.b.2,cI i.2.k,cB i.2.low]],res:=λi=>⟨true,[some 3,none],[rcB (decide ((Fa i.1 i.2).z<0)),.own 3 [.int] (L (Fa i.1 i.2).z.natAbs),.own 3 [.int] (L (Fa i.1 i.2).d),rcB (C5 i.1 i.2)]⟩}
theorem Z0:Jy.Ok Tryz.prog 53:=by
 refine fok (X:=⟨tt,[(90,BP),(91,Bf),(55,Af),(51,AL),(94,BL),(93,CF),(92,Fl),(95,Bp)],[],80,[]⟩) mixed AF (CTok.cons Ik (CTok.cons Km (CTok.cons FX (CTok.cons CO (CTok.cons Jw (CTok.cons NM (CTok.cons Tb (CTok.cons Kn (CTok.nil _))))))))) Tryz.func53 (λ_=>[]) ?_;rintro⟨e,f⟩ a0;have a0:e.ok=true/\f.ok=true:=a0;refine AG (q:=let Z1:=(eqM (Fa e f) ((vB false=vB (C5 e f))));∃i1:Edg,[DA.agg [cI e.a.1,cI e.a.2,cI e.b.1,cI e.b.2,cI e.k,cB e.low]]=BP.args i1/\BP.pre i1/\(ifB ((!(!i1.ok))) (∃i2:Edg,[DA.agg [cI f.a.1,cI f.a.2,cI f.b.1,cI f.b.2,cI f.k,cB f.low]]=BP.args i2/\BP.pre i2/\(ifB ((!i2.ok)) Z1 (∃i3:Int×Int,[DA.one (cI (wR (e.b.2-e.a.2))),DA.one (cI (wR (e.b.1-e.a.1)))]=Bf.args i3/\Bf.pre i3/\(∃i4:Int×Int,[DA.one (cI (wR (f.b.2-f.a.2))),DA.one (cI (wR (f.b.1-f.a.1)))]=Bf.args i4/\Bf.pre i4/\(∃i5:Fr×Fr,[dF (rOf i3.1 i3.2),dF (rOf i4.1 i4.2)]=Af.args i5/\Af.pre i5/\(ifB (((Fr.cmp i5.1 i5.2) == (0:Int))) Z1 (∃i6:Int,[DA.one (cI (0:Int))]=AL.args i6/\AL.pre i6/\(∃i7:Edg×Fr,[DA.agg [cI f.a.1,cI f.a.2,cI f.b.1,cI f.b.2,cI f.k,cB f.low],dF (Fr.ofInt i6)]=BL.args i7/\BL.pre i7/\(∃i8:Edg×Fr,[DA.agg [cI e.a.1,cI e.a.2,cI e.b.1,cI e.b.2,cI e.k,cB e.low],dF (Fr.ofInt i6)]=BL.args i8/\BL.pre i8/\(∃i9:Fr×Fr,[dF (hgt i7.1 i7.2),dF (hgt i8.1 i8.2)]=CF.args i9/\CF.pre i9/\(∃a3:Fr×Fr,[dF (rOf i3.1 i3.2),dF (rOf i4.1 i4.2)]=CF.args a3/\CF.pre a3/\(∃a4:Fr×Fr,let Z2:=Fr.div a4.1 a4.2;[dF (Fr.sub i9.1 i9.2),dF (Fr.sub a3.1 a3.2)]=Fl.args a4/\Fl.pre a4/\(∃a1:Edg×Fr×Fr,[DA.agg [cI e.a.1,cI e.a.2,cI e.b.1,cI e.b.2,cI e.k,cB e.low],dF Z2,dF Z2]=Bp.args a1/\Bp.pre a1/\(ifB ((!(!(a1.2.1.good && (a1.2.2.good && spn a1.1 a1.2.1 a1.2.2))))) (∃a2:Edg×Fr×Fr,[DA.agg [cI f.a.1,cI f.a.2,cI f.b.1,cI f.b.2,cI f.k,cB f.low],dF Z2,dF Z2]=Bp.args a2/\Bp.pre a2/\(ifB ((!(a2.2.1.good && (a2.2.2.good && spn a2.1 a2.2.1 a2.2.2)))) Z1 ((eqD Z2 (Fa e f) ((vB true=vB (C5 e f))))))) Z1)))))))))))))) Z1)) (by kernel_rfl) ?_;conv=>zeta
 delta ifB vB wR;have hb:=Edg.bd a0.1;have hf:=Edg.bd a0.2;have hw1:IntKind.i64.wrap (e.b.2-e.a.2)=e.b.2-e.a.2:=AC (by omega) (by omega);have hw2:IntKind.i64.wrap (e.b.1-e.a.1)=e.b.1-e.a.1:=AC (by omega) (by omega);have hw3:IntKind.i64.wrap (f.b.2-f.a.2)=f.b.2-f.a.2:=AC (by omega) (by omega);have hw4:IntKind.i64.wrap (f.b.1-f.a.1)=f.b.1-f.a.1:=AC (by omega) (by omega)
 refine⟨e,by
  rfl,by
  trivial,?_⟩
 refine And.symm ⟨λc4=>?_,λc4=>?_⟩;simp only[nrm]at c4;rw[a0.1]at c4;cases c4;simp only[nrm]at c4
 refine⟨f,by
  rfl,by
  trivial,?_⟩
 refine⟨λc8=>?_,λc8=>?_⟩;simp only[nrm]at c8;rw[a0.2]at c8;cases c8;simp only[nrm]at c8
 refine⟨(e.b.2-e.a.2,e.b.1-e.a.1),by
  rw[hw1,hw2];rfl,by
  exact⟨by omega,by omega⟩,?_⟩
 refine⟨(f.b.2-f.a.2,f.b.1-f.a.1),by
  rw[hw3,hw4];rfl,by
  exact⟨by omega,by omega⟩,?_⟩
 refine⟨(slp e,slp f),by
  rfl,by
  trivial,?_⟩
 refine⟨λa5=>?_,λa5=>?_⟩;simp only[nrm]at a5;have hB:=Zy a0.1 a0.2 a5;refine EF ?_ ?_;exact Ij hB;rw[hB];simp only[nrm]at a5
 refine⟨(0:Int),by
  rfl,by
  trivial,?_⟩
 refine⟨(f,(Fr.ofInt (0:Int))),by
  rfl,by
  trivial,?_⟩
 refine⟨(e,(Fr.ofInt (0:Int))),by
  rfl,by
  trivial,?_⟩
 refine⟨((hgt f (Fr.ofInt (0:Int))),(hgt e (Fr.ofInt (0:Int)))),by
  rfl,by
  trivial,?_⟩
 refine⟨(slp e,slp f),by
  rfl,by
  trivial,?_⟩
 refine⟨((Fr.sub (hgt f (Fr.ofInt (0:Int))) (hgt e (Fr.ofInt (0:Int)))),(Fr.sub (slp e) (slp f))),by
  rfl,by
  trivial,?_⟩
 refine⟨(e,GS e f,GS e f),by
  rfl,by
  trivial,?_⟩
 refine And.symm ⟨λa6=>?_,λa6=>?_⟩;simp only[nrm]at a6;have hB:C5 e f=false:=by unfold C5;rcases a6 with h|h|h <;> simp[h]
 refine EF ?_ ?_;exact Ij hB;rw[hB];simp only[nrm]at a6
 refine⟨(f,GS e f,GS e f),by
  rfl,by
  trivial,?_⟩
 refine⟨λa7=>?_,λa7=>?_⟩;simp only[nrm]at a7;have hB:C5 e f=false:=by unfold C5;simp_all
 refine EF ?_ ?_;exact Ij hB;rw[hB];simp only[nrm]at a7;have hB:C5 e f=true:=by unfold C5;simp_all
 refine Du ?_ ?_;exact(NP hB).symm;rw[hB]
def Cg:Con:={ι:=Edg×Int,pre:=λi=>i.1.ok=true/\(-9223372036854775808<=i.2/\i.2<=9223372036854775807),args:=λi=>[DA.agg [cI i.1.a.1,cI i.1.a.2,cI i.1.b.1,cI i.1.b.2,cI i.1.k,cB i.1.low],.one (cI i.2)],res:=λi=>⟨true,[some 3,none],[rcB (decide ((CT i.1 i.2).z<0)),.own 3 [.int] (L (CT i.1 i.2).z.natAbs),.own 3 [.int] (L (CT i.1 i.2).d),rcB (Bs i.1 i.2)]⟩}
theorem AAA:Cg.Ok Tryz.prog 107:=by
 refine fok (X:=⟨tt,[(139,Cd),(136,DI),(82,AV),(141,CB),(142,DL),(143,Bd),(118,Ag),(112,CC)],[],51,[]⟩) mixed AF (CTok.cons Om (CTok.cons OU (CTok.cons E6 (CTok.cons NR (CTok.cons Oe (CTok.cons Ie (CTok.cons E5 (CTok.cons NS (CTok.nil _))))))))) Tryz.func107 (λ_=>[]) ?_;rintro⟨e,y⟩ a0;have a0:e.ok=true/\(-9223372036854775808<=y/\y<=9223372036854775807):=a0;refine AG (q:=let Z1:=(eqM (CT e y) ((vB false=vB (Bs e y))));∃i1:Edg,[DA.agg [cI e.a.1,cI e.a.2,cI e.b.1,cI e.b.2,cI e.k,cB e.low]]=Cd.args i1/\Cd.pre i1/\(ifB ((!(!i1.ok))) (ifB ((!(e.a.2 == e.b.2))) (∃i2:Int×Int×Int,[DA.one (cI y),DA.one (cI (-1000:Int)),DA.one (cI (1000:Int))]=DI.args i2/\DI.pre i2/\(ifB ((!(decide (i2.1>=i2.2.1) && decide (i2.1<=i2.2.2)))) Z1 (∃i3:Int,[DA.one (cI e.a.1)]=AV.args i3/\AV.pre i3/\(∃i4:Int,[DA.one (cI (wR (y-e.a.2)))]=AV.args i4/\AV.pre i4/\(∃i5:Edg,[DA.agg [cI e.a.1,cI e.a.2,cI e.b.1,cI e.b.2,cI e.k,cB e.low]]=CB.args i5/\CB.pre i5/\(∃i6:Fr×Fr,[dF (Fr.ofInt i4),dF (slp i5)]=DL.args i6/\DL.pre i6/\(∃i7:Fr×Fr,let Z2:=Fr.add i7.1 i7.2;[dF (Fr.ofInt i3),dF (Fr.div i6.1 i6.2)]=Bd.args i7/\Bd.pre i7/\(∃i8:Fr,[dF Z2]=Ag.args i8/\Ag.pre i8/\(ifB ((!(!i8.good))) (∃i9:Edg×Fr×Fr,[DA.agg [cI e.a.1,cI e.a.2,cI e.b.1,cI e.b.2,cI e.k,cB e.low],dF Z2,dF Z2]=CC.args i9/\CC.pre i9/\(ifB ((!(spn i9.1 i9.2.1 i9.2.2))) Z1 ((eqD Z2 (CT e y) ((vB true=vB (Bs e y))))))) Z1))))))))) Z1) Z1)) (by kernel_rfl) ?_;conv=>zeta
 delta ifB vB wR;have hb:=Edg.bd a0.1
 refine⟨e,by
  rfl,by
  trivial,?_⟩
 refine And.symm ⟨λc4=>?_,λc4=>?_⟩;simp only[nrm]at c4;rw[a0.1]at c4;cases c4;simp only[nrm]at c4;refine And.symm ⟨λc5=>?_,λc5=>?_⟩;simp only[nrm]at c5;have hB:Bs e y=false:=by unfold Bs;simp_all
 refine EF ?_ ?_;exact G5 hB;rw[hB];simp only[nrm]at c5
 refine⟨(y,(-1000:Int),(1000:Int)),by
  rfl,by
  trivial,?_⟩
 refine⟨λc9=>?_,λc9=>?_⟩;simp only[nrm]at c9
 have hB:Bs e y=false:=by
  have e0:(decide (y>=-1000) && decide (y<=1000))=false:=by simp;omega
  unfold Bs;rw[e0];simp
 refine EF ?_ ?_;exact G5 hB;rw[hB];simp only[nrm]at c9;have hw3:IntKind.i64.wrap (y-e.a.2)=y-e.a.2:=AC (by omega) (by omega)
 refine⟨e.a.1,by
  rfl,by
  exact⟨by omega,by omega⟩,?_⟩
 refine⟨y-e.a.2,by
  rw[hw3];rfl,by
  exact⟨by omega,by omega⟩,?_⟩
 refine⟨e,by
  rfl,by
  trivial,?_⟩
 refine⟨((Fr.ofInt (y-e.a.2)),(slp e)),by
  rfl,by
  trivial,?_⟩
 refine⟨((Fr.ofInt e.a.1),(Fr.div (Fr.ofInt (y-e.a.2)) (slp e))),by
  rfl,by
  trivial,?_⟩
 refine⟨Lq e y,by
  rfl,by
  trivial,?_⟩
 refine And.symm ⟨λa1=>?_,λa1=>?_⟩;simp only[nrm]at a1;have hB:Bs e y=false:=by unfold Bs;simp_all
 refine EF ?_ ?_;exact G5 hB;rw[hB];simp only[nrm]at a1
 refine⟨(e,Lq e y,Lq e y),by
  rfl,by
  trivial,?_⟩
 refine⟨λa2=>?_,λa2=>?_⟩;simp only[nrm]at a2;have hB:Bs e y=false:=by unfold Bs;simp_all
 refine EF ?_ ?_;exact G5 hB;rw[hB];simp only[nrm]at a2;have hB:Bs e y=true:=by unfold Bs;simp_all
 refine Du ?_ ?_;exact(NQ hB).symm;rw[hB]
def IA:Con:={ι:=Edg×Int,pre:=λi=>i.1.ok=true/\(-9223372036854775808<=i.2/\i.2<=9223372036854775807),args:=λi=>[DA.agg [cI i.1.a.1,cI i.1.a.2,cI i.1.b.1,cI i.1.b.2,cI i.1.k,cB i.1.low],.one (cI i.2)],res:=λi=>⟨true,[some 3,none],[rcB (decide ((CT i.1 i.2).z<0)),.own 3 [.int] (L (CT i.1 i.2).z.natAbs),.own 3 [.int] (L (CT i.1 i.2).d),rcB (Bs i.1 i.2)]⟩}
theorem AAB:IA.Ok Tryz.prog 54:=by
 refine fok (X:=⟨tt,[(90,BP),(46,EA),(51,AL),(91,Bf),(96,BT),(95,Bp)],[],58,[]⟩) mixed AF (CTok.cons Ik (CTok.cons RS (CTok.cons CO (CTok.cons Km (CTok.cons Gz (CTok.cons Kn (CTok.nil _))))))) Tryz.func54 (λ_=>[]) ?_;rintro⟨e,y⟩ a0;have a0:e.ok=true/\(-9223372036854775808<=y/\y<=9223372036854775807):=a0;refine AG (q:=let Z1:=(eqM (CT e y) ((vB false=vB (Bs e y))));∃i1:Edg,[DA.agg [cI e.a.1,cI e.a.2,cI e.b.1,cI e.b.2,cI e.k,cB e.low]]=BP.args i1/\BP.pre i1/\(ifB ((!(!i1.ok))) (ifB ((!(e.a.2 == e.b.2))) (∃i2:Int×Int×Int,[DA.one (cI y),DA.one (cI (-1000:Int)),DA.one (cI (1000:Int))]=EA.args i2/\EA.pre i2/\(ifB ((!(decide (i2.1>=i2.2.1) && decide (i2.1<=i2.2.2)))) Z1 (∃i3:Int,[DA.one (cI e.a.1)]=AL.args i3/\AL.pre i3/\(∃i4:Int×Int,[DA.one (cI (wR ((wR (y-e.a.2))*(wR (e.b.1-e.a.1))))),DA.one (cI (wR (e.b.2-e.a.2)))]=Bf.args i4/\Bf.pre i4/\(∃i5:Fr×Fr,let Z2:=Fr.add i5.1 i5.2;[dF (Fr.ofInt i3),dF (rOf i4.1 i4.2)]=BT.args i5/\BT.pre i5/\(∃i6:Edg×Fr×Fr,[DA.agg [cI e.a.1,cI e.a.2,cI e.b.1,cI e.b.2,cI e.k,cB e.low],dF Z2,dF Z2]=Bp.args i6/\Bp.pre i6/\(ifB ((!(i6.2.1.good && (i6.2.2.good && spn i6.1 i6.2.1 i6.2.2)))) Z1 ((eqD Z2 (CT e y) ((vB true=vB (Bs e y)))))))))))) Z1) Z1)) (by kernel_rfl) ?_;conv=>zeta
 delta ifB vB wR;have hb:=Edg.bd a0.1;have hw1:IntKind.i64.wrap (e.b.2-e.a.2)=e.b.2-e.a.2:=AC (by omega) (by omega);have hw2:IntKind.i64.wrap (e.b.1-e.a.1)=e.b.1-e.a.1:=AC (by omega) (by omega)
 refine⟨e,by
  rfl,by
  trivial,?_⟩
 refine And.symm ⟨λc4=>?_,λc4=>?_⟩;simp only[nrm]at c4;rw[a0.1]at c4;cases c4;simp only[nrm]at c4;refine And.symm ⟨λc5=>?_,λc5=>?_⟩;simp only[nrm]at c5;have hB:Bs e y=false:=by unfold Bs;simp_all
 refine EF ?_ ?_;exact G5 hB;rw[hB];simp only[nrm]at c5
 refine⟨(y,(-1000:Int),(1000:Int)),by
  rfl,by
  trivial,?_⟩
 refine⟨λc9=>?_,λc9=>?_⟩;simp only[nrm]at c9
 have hB:Bs e y=false:=by
  have e0:(decide (y>=-1000) && decide (y<=1000))=false:=by simp;omega
  unfold Bs;rw[e0];simp
 refine EF ?_ ?_;exact G5 hB;rw[hB];simp only[nrm]at c9;have hw3:IntKind.i64.wrap (y-e.a.2)=y-e.a.2:=AC (by omega) (by omega);have hm:=Nat.mul_le_mul (show(y-e.a.2).natAbs<=2000 by omega) (show(e.b.1-e.a.1).natAbs<=2000 by omega);rw[← Int.natAbs_mul]at hm;have hw4:IntKind.i64.wrap ((y-e.a.2)*(e.b.1-e.a.1))=(y-e.a.2)*(e.b.1-e.a.1):=AC (by omega) (by omega);have hL:=YT a0.1 c9 c5
 refine⟨e.a.1,by
  rfl,by
  exact⟨by omega,by omega⟩,?_⟩
 refine⟨((y-e.a.2)*(e.b.1-e.a.1),e.b.2-e.a.2),by
  rw[hw3,hw2,hw4,hw1];rfl,by
  try dsimp only[Bf]
  exact⟨by omega,by omega⟩,?_⟩
 refine⟨((Fr.ofInt e.a.1),(rOf ((y-e.a.2)*(e.b.1-e.a.1)) (e.b.2-e.a.2))),by
  rfl,by
  trivial,?_⟩
 refine⟨(e,Lq e y,Lq e y),by
  rw[hL];rfl,by
  trivial,?_⟩
 refine⟨λa1=>?_,λa1=>?_⟩;simp only[nrm]at a1;have hB:Bs e y=false:=by unfold Bs;rcases a1 with h|h|h <;> simp[h]
 refine EF ?_ ?_;exact G5 hB;rw[hB];simp only[nrm]at a1;have hB:Bs e y=true:=by unfold Bs;simp_all
 refine Du ?_ ?_;rw[hL,NQ hB];rw[hB]
def AAC(e:Edg):List Dat:=[.int e.a.1,.int e.a.2,.int e.b.1,.int e.b.2,.int e.k,.bool e.low]
def Aj(l:List Edg):List (List Dat):=l.map AAC
theorem BG(l:List Edg):(Aj l).length=l.length:=List.length_map ..
theorem Il(a b:List Edg):Aj (a++b)=Aj a++Aj b:=List.map_append ..
def Ed(a b:V2)(k:Int):List Edg:=if a.1<b.1 then[⟨a,b,k,true⟩]else if b.1<a.1 then[⟨b,a,k,false⟩]else[]
def Ba(l:List V2)(k:Int):Nat->List Edg
 | 0=>[]|i+1=>Ba l k i++Ed (l.getD i (0,0)) (l.getD ((i+1)%l.length) (0,0)) k
def AD(l:List V2)(k:Int):List Edg:=Ba l k l.length
def DO(ls:List (List V2)):Nat->List Edg
 | 0=>[]|i+1=>DO ls i++AD (ls.getD i []) (i:Int)
theorem U4{l:List V2}{k:Int}{i:Nat}(h:(l.getD i (0,0)).1<(l.getD ((i+1)%l.length) (0,0)).1):Aj (Ba l k i)++[AAC ⟨l.getD i (0,0),l.getD ((i+1)%l.length) (0,0),k,true⟩]=Aj (Ba l k (i+1)):=by rw[Ba,Il,Ed,if_pos h];rfl
theorem U5{l:List V2}{k:Int}{i:Nat}(h:(l.getD ((i+1)%l.length) (0,0)).1<(l.getD i (0,0)).1):Aj (Ba l k i)++[AAC ⟨l.getD ((i+1)%l.length) (0,0),l.getD i (0,0),k,false⟩]=Aj (Ba l k (i+1)):=by rw[Ba,Il,Ed,if_neg (by omega),if_pos h];rfl
theorem U6{l:List V2}{k:Int}{i:Nat}(h1:¬(l.getD i (0,0)).1<(l.getD ((i+1)%l.length) (0,0)).1)(h2:¬(l.getD ((i+1)%l.length) (0,0)).1<(l.getD i (0,0)).1):Aj (Ba l k i)=Aj (Ba l k (i+1)):=by rw[Ba,Ed,if_neg h1,if_neg h2,List.append_nil]
theorem YU{a b:V2}{k:Int}(ha:A7 a=true)(hb:A7 b=true):∀e ∈ Ed a b k,e.ok=true:=by intro e he;unfold Ed at he;split at he;rename_i h;obtain rfl:=List.mem_singleton.1 he;unfold Edg.ok;simp[ha,hb,h];split at he;rename_i h;obtain rfl:=List.mem_singleton.1 he;unfold Edg.ok;simp[ha,hb,h];cases he
theorem On(a b:V2)(k:Int):(Ed a b k).length<=1:=by unfold Ed;split <;> (try split) <;> simp
theorem Jz{l:List V2}{k:Int}(h:l.all A7=true):∀i,i<=l.length->∀e ∈ Ba l k i,e.ok=true
 | 0,_=>λe he=>by cases he|i+1,hi=>λe he=>by rcases List.mem_append.1 he with h1|h1;exact Jz h i (by omega) e h1;exact YU (Fm h (by omega)) (Fm h (Nat.mod_lt _ (by omega))) e h1
theorem DY(l:List V2)(k:Int):∀i,(Ba l k i).length<=i
 | 0=>Nat.le_refl _|i+1=>by have h1:=DY l k i;have h2:=On (l.getD i (0,0)) (l.getD ((i+1)%l.length) (0,0)) k;simp only[Ba,List.length_append];omega
theorem Oo(l:List V2)(k:Int)(i:Nat):(Aj (Ba l k i)).length<=i:=by rw[BG];exact DY l k i
def A3(ls:List (List V2)):Bool:=ls.all AW
theorem C9{ls:List (List V2)}(h:A3 ls=true){i:Nat}(hi:i<ls.length):AW (ls.getD i [])=true:=List.all_eq_true.1 h _ (by simp[List.getD,hi])
theorem BH{l:List V2}(h:AW l=true):l.all A7=true/\3<=l.length/\l.length<=16:=by simp only[AW,Bool.and_eq_true]at h;have h1:=h.1.1;unfold inR at h1;simp only[Bool.and_eq_true,decide_eq_true_eq]at h1;exact⟨h.1.2,by omega,by omega⟩
theorem Ko{ls:List (List V2)}(h:A3 ls=true):∀i,i<=ls.length->∀e ∈ DO ls i,e.ok=true
 | 0,_=>λe he=>by cases he|i+1,hi=>λe he=>by rcases List.mem_append.1 he with h1|h1;exact Ko h i (by omega) e h1;exact Jz (BH (C9 h (by omega))).1 _ (Nat.le_refl _) e h1
theorem JI{ls:List (List V2)}(h:A3 ls=true):∀i,i<=ls.length->(DO ls i).length<=16*i
 | 0,_=>Nat.le_refl _|i+1,hi=>by have h1:=JI h i (by omega);have h2:=DY (ls.getD i []) (i:Int) (ls.getD i []).length;have h3:=(BH (C9 h (show i<ls.length by omega))).2.2;simp only[DO,AD,List.length_append];omega
def Eh(ls:List (List V2)):Nat->Nat
 | 0=>0|k+1=>Eh ls k+(ls.getD k []).length
theorem Pw(ls:List (List V2)):∀j k,Eh ls j<=Eh ls (j+k)
 |j,0=>Nat.le_refl _|j,k+1=>Nat.le_trans (Pw ls j k) (Nat.le_add_right _ _)
theorem NT(ls:List (List V2)):∀k,(DO ls k).length<=Eh ls k
 | 0=>Nat.le_refl _|k+1=>by have h1:=NT ls k;have h2:=DY (ls.getD k []) (k:Int) (ls.getD k []).length;simp only[DO,AD,List.length_append,Eh];omega
def edA(ls:List (List V2)):List Edg:=DO ls ls.length
def noE:Edg:=⟨(0,0),(0,0),0,false⟩
theorem Px{ls:List (List V2)}(h:A3 ls=true){i:Nat}(hi:i<(edA ls).length):((edA ls).getD i noE).ok=true:=
 Ko h _ (Nat.le_refl _) _ (by simp[List.getD,hi];exact List.getElem_mem _)
theorem BU{es:List Edg}{i:Nat}(hi:i<es.length):(Aj es).getD i []=AAC (es.getD i noE):=by simp[Aj,List.getD,hi]
theorem Ct(es:List Edg)(i:Nat):(Aj es).take i=Aj (es.take i):=by unfold Aj;rw[List.map_take]
theorem U7{es:List Edg}{i n:Nat}(hn:n<i):(es.take i).getD n noE=es.getD n noE:=by simp[List.getD,List.getElem?_take,hn]
def DP:Con:={ι:=(List V2)×Int,pre:=λi=>AW i.1=true,args:=λi=>[.one (DC.sl 36 [.int,.int] (Ak i.1)),.one (cI i.2)],res:=λi=>⟨false,[none],[.own 87 [.int,.int,.int,.int,.int,.bool] (Aj (AD i.1 i.2))]⟩}
theorem Oq:DP.Ok Tryz.prog 111:=by
 refine fok (X:=⟨tt,[],[],53,[]⟩) mixed AF (CTok.nil _) Tryz.func111 (λ(i:(List V2)×Int)=>[(3,.mk 3 (Nat) (λx1=>{tm:=[(0,tX 1),(1,tI i.2),(10,tX 1),(11,tI (nI ((Ak i.1).length))),(12,tI (nI x1)),(5,tX 2)],en:=[(1,.view 36 [.int,.int] (Ak i.1) []),(2,.own 87 z86 (Aj (Ba i.1 i.2 x1)))]}) (λx1=>x1<=i.1.length) (λx1=>i.1.length-x1) (λ_=>[]))]) ?_;rintro⟨l,k⟩ a0;have a0:AW l=true:=a0;refine AG (q:=let a5:=((Ak l).length:Int);let a3:=List Dat;let Z3:=nI ((Ak l).length);(∃x1:Nat,(x1<=l.length)/\((rf (vI k))/\(rf (vI Z3))/\(vI (0:Int)=vI (nI x1))/\(rf (Ak l))/\(([]:List a3)=(Aj (Ba l k x1)))))/\∀x1:Nat,let Z6:=Aj (Ba l k x1);let Z5:=((((Ak l).getD x1 []).getD 1 (.int 0))).n;let Z4:=wR ((nI x1)+(1:Int));let Z9:=Int.tmod Z4 Z3;let Z2:=(((Ak l).getD x1 []).getD 0 (.int 0));let Z1:=(Ak l).getD (Z9.toNat) [];let Z8:=((Z1.getD 1 (.int 0))).n;let Z7:=(Z1.getD 0 (.int 0));(x1<=l.length)->(ifB ((decide ((nI x1)<Z3))) ((0<=(nI x1)/\(nI x1)<a5)/\((x1<(Ak l).length)/\((Z3≠0)/\((0<=Z9/\Z9<a5)/\((Z9.toNat<(Ak l).length)/\(ifB ((decide (Z2.n<Z7.n))) ((Z6.length+([[Dat.int (Z2.n),Dat.int Z5,Dat.int (Z7.n),Dat.int Z8,Dat.int k,Dat.bool true]]:List a3).length<=2199023255552)/\(∃y2:Nat,(y2<=l.length)/\(l.length-y2<l.length-x1)/\((rf (vI k))/\(rf (vI Z3))/\(vI Z4=vI (nI y2))/\(rf (Ak l))/\((Z6++([[Dat.int (Z2.n),Dat.int Z5,Dat.int (Z7.n),Dat.int Z8,Dat.int k,Dat.bool true]]:List a3))=(Aj (Ba l k y2)))))) (ifB ((decide (Z2.n>Z7.n))) ((Z6.length+([[Dat.int (Z7.n),Dat.int Z8,Dat.int (Z2.n),Dat.int Z5,Dat.int k,Dat.bool false]]:List a3).length<=2199023255552)/\(∃y3:Nat,(y3<=l.length)/\(l.length-y3<l.length-x1)/\((rf (vI k))/\(rf (vI Z3))/\(vI Z4=vI (nI y3))/\(rf (Ak l))/\((Z6++([[Dat.int (Z7.n),Dat.int Z8,Dat.int (Z2.n),Dat.int Z5,Dat.int k,Dat.bool false]]:List a3))=(Aj (Ba l k y3)))))) (∃y4:Nat,(y4<=l.length)/\(l.length-y4<l.length-x1)/\((rf (vI k))/\(rf (vI Z3))/\(vI Z4=vI (nI y4))/\(rf (Ak l))/\(Z6=(Aj (Ba l k y4)))))))))))) ((Z6=Aj (AD l k))))) (by kernel_rfl) ?_;conv=>zeta
 delta ifB vI wR nI;have hV:=(BH a0).1;have h3:=(BH a0).2.1;have h16:=(BH a0).2.2;have a6:=BM l;refine⟨⟨0,by omega,?_⟩,?_⟩;refine⟨rfl,rfl,?_,rfl,?_⟩;rfl;rfl;intro (i:Nat) a4;have a4:i<=l.length:=a4;refine And.symm ⟨λc8=>?_,λc8=>?_⟩;simp only[nrm]at c8;have hE:i=l.length:=by omega
 rw[hE];rfl;simp only[nrm]at c8;have hil:i<l.length:=by omega
 have m2:(i+1)%l.length<l.length:=(GR hil (by omega)).2.1;have m1:(Int.tmod (IntKind.i64.wrap (((i:Nat):Int)+(1:Int))) (((Ak l).length:Nat):Int)).toNat=(i+1)%l.length:=by rw[a6];exact(GR hil (by omega)).1
 have m3:Int.tmod (IntKind.i64.wrap (((i:Nat):Int)+(1:Int))) (((Ak l).length:Nat):Int)=(((i+1)%l.length:Nat):Int):=by rw[a6];exact(GR hil (by omega)).2.2
 have hel:=Oo l k i;refine ao (by omega) λo9=>?_;refine ao (by omega) λo10=>?_;refine ao (by omega) λo11=>?_;refine ao (by omega) λo12=>?_;refine ao (by omega) λo13=>?_;refine⟨λa1=>?_,λa1=>?_⟩;try dsimp only at a1
 simp only[nrm]at a1;rw[m1,BW hil,BW m2]at a1;refine ao (by simp only[List.length_append,List.length_cons,List.length_nil];omega) λo15=>?_
 refine⟨i+1,by
  trivial,by
  omega,?_⟩
 refine⟨rfl,rfl,?_,rfl,?_⟩;exact AS (AC (by omega) (by omega));rw[m1,BW hil,H9 hil,BW m2,H9 m2];exact U4 a1;try dsimp only at a1
 simp only[nrm]at a1;rw[m1,BW hil,BW m2]at a1;refine And.symm ⟨λa2=>?_,λa2=>?_⟩;try dsimp only at a2
 simp only[nrm]at a2;rw[m1,BW hil,BW m2]at a2
 refine⟨i+1,by
  trivial,by
  omega,?_⟩
 refine⟨rfl,rfl,?_,rfl,?_⟩;exact AS (AC (by omega) (by omega));exact U6 (by omega) (by omega);try dsimp only at a2
 simp only[nrm]at a2;rw[m1,BW hil,BW m2]at a2;refine ao (by simp only[List.length_append,List.length_cons,List.length_nil];omega) λo25=>?_
 refine⟨i+1,by
  trivial,by
  omega,?_⟩
 refine⟨rfl,rfl,?_,rfl,?_⟩;exact AS (AC (by omega) (by omega));rw[m1,BW hil,H9 hil,BW m2,H9 m2];exact U5 a2
def DQ:Con:={ι:=(List V2)×Int,pre:=λi=>AW i.1=true,args:=λi=>[.one (DC.sl 36 [.int,.int] (Ak i.1)),.one (cI i.2)],res:=λi=>⟨false,[none],[.own 87 [.int,.int,.int,.int,.int,.bool] (Aj (AD i.1 i.2))]⟩}
theorem Or:DQ.Ok Tryz.prog 89:=by
 refine fok (X:=⟨tt,[],[],51,[]⟩) mixed AF (CTok.nil _) Tryz.func89 (λ(i:(List V2)×Int)=>[(3,.mk 3 (Nat) (λx1=>{tm:=[(0,tX 1),(1,tI i.2),(10,tX 1),(11,tI (nI ((Ak i.1).length))),(12,tI (nI x1)),(5,tX 2)],en:=[(1,.view 36 [.int,.int] (Ak i.1) []),(2,.own 87 z86 (Aj (Ba i.1 i.2 x1)))]}) (λx1=>x1<=i.1.length) (λx1=>i.1.length-x1) (λ_=>[]))]) ?_;rintro⟨l,k⟩ a0;have a0:AW l=true:=a0;refine AG (q:=let a7:=((Ak l).length:Int);let a3:=List Dat;let Z5:=nI ((Ak l).length);(∃x1:Nat,(x1<=l.length)/\((rf (vI k))/\(rf (vI Z5))/\(vI (0:Int)=vI (nI x1))/\(rf (Ak l))/\(([]:List a3)=(Aj (Ba l k x1)))))/\∀x1:Nat,let Z9:=Aj (Ba l k x1);let Z6:=wR ((nI x1)+(1:Int));let a6:=Int.tmod Z6 Z5;let Z4:=((((Ak l).getD x1 []).getD 1 (.int 0))).n;let Z3:=(((Ak l).getD x1 []).getD 0 (.int 0));let Z1:=(Ak l).getD (a6.toNat) [];let Z8:=((Z1.getD 1 (.int 0))).n;let Z7:=(Z1.getD 0 (.int 0));let a8:=(decide (Z3.n>Z7.n));let Z2:=Z9++([[Dat.int (Z3.n),Dat.int Z4,Dat.int (Z7.n),Dat.int Z8,Dat.int k,Dat.bool true]]:List a3);(x1<=l.length)->(ifB ((decide ((nI x1)<Z5))) ((0<=(nI x1)/\(nI x1)<a7)/\((x1<(Ak l).length)/\((Z5≠0)/\((0<=a6/\a6<a7)/\((a6.toNat<(Ak l).length)/\(ifB ((decide (Z3.n<Z7.n))) ((Z9.length+([[Dat.int (Z3.n),Dat.int Z4,Dat.int (Z7.n),Dat.int Z8,Dat.int k,Dat.bool true]]:List a3).length<=2199023255552)/\(ifB a8 ((Z2.length+([[Dat.int (Z7.n),Dat.int Z8,Dat.int (Z3.n),Dat.int Z4,Dat.int k,Dat.bool false]]:List a3).length<=2199023255552)/\(∃y2:Nat,(y2<=l.length)/\(l.length-y2<l.length-x1)/\((rf (vI k))/\(rf (vI Z5))/\(vI Z6=vI (nI y2))/\(rf (Ak l))/\((Z2++([[Dat.int (Z7.n),Dat.int Z8,Dat.int (Z3.n),Dat.int Z4,Dat.int k,Dat.bool false]]:List a3))=(Aj (Ba l k y2)))))) (∃y3:Nat,(y3<=l.length)/\(l.length-y3<l.length-x1)/\((rf (vI k))/\(rf (vI Z5))/\(vI Z6=vI (nI y3))/\(rf (Ak l))/\(Z2=(Aj (Ba l k y3))))))) (ifB a8 ((Z9.length+([[Dat.int (Z7.n),Dat.int Z8,Dat.int (Z3.n),Dat.int Z4,Dat.int k,Dat.bool false]]:List a3).length<=2199023255552)/\(∃y4:Nat,(y4<=l.length)/\(l.length-y4<l.length-x1)/\((rf (vI k))/\(rf (vI Z5))/\(vI Z6=vI (nI y4))/\(rf (Ak l))/\((Z9++([[Dat.int (Z7.n),Dat.int Z8,Dat.int (Z3.n),Dat.int Z4,Dat.int k,Dat.bool false]]:List a3))=(Aj (Ba l k y4)))))) (∃y5:Nat,(y5<=l.length)/\(l.length-y5<l.length-x1)/\((rf (vI k))/\(rf (vI Z5))/\(vI Z6=vI (nI y5))/\(rf (Ak l))/\(Z9=(Aj (Ba l k y5)))))))))))) ((Z9=Aj (AD l k))))) (by kernel_rfl) ?_;conv=>zeta
 delta ifB vI wR nI;have hV:=(BH a0).1;have h3:=(BH a0).2.1;have h16:=(BH a0).2.2;have a9:=BM l;refine⟨⟨0,by omega,?_⟩,?_⟩;refine⟨rfl,rfl,?_,rfl,?_⟩;rfl;rfl;intro (i:Nat) a5;have a5:i<=l.length:=a5;refine And.symm ⟨λc8=>?_,λc8=>?_⟩;simp only[nrm]at c8;have hE:i=l.length:=by omega
 rw[hE];rfl;simp only[nrm]at c8;have hil:i<l.length:=by omega
 have m2:(i+1)%l.length<l.length:=(GR hil (by omega)).2.1;have m1:(Int.tmod (IntKind.i64.wrap (((i:Nat):Int)+(1:Int))) (((Ak l).length:Nat):Int)).toNat=(i+1)%l.length:=by rw[a9];exact(GR hil (by omega)).1
 have m3:Int.tmod (IntKind.i64.wrap (((i:Nat):Int)+(1:Int))) (((Ak l).length:Nat):Int)=(((i+1)%l.length:Nat):Int):=by rw[a9];exact(GR hil (by omega)).2.2
 have hel:=Oo l k i;refine ao (by omega) λo9=>?_;refine ao (by omega) λo10=>?_;refine ao (by omega) λo11=>?_;refine ao (by omega) λo12=>?_;refine ao (by omega) λo13=>?_;refine⟨λa1=>?_,λa1=>?_⟩;try dsimp only at a1
 simp only[nrm]at a1;rw[m1,BW hil,BW m2]at a1;refine ao (by simp only[List.length_append,List.length_cons,List.length_nil];omega) λo15=>?_;refine⟨λa4=>?_,λa4=>?_⟩;try dsimp only at a4
 simp only[nrm]at a4;rw[m1,BW hil,BW m2]at a4;exfalso;omega;try dsimp only at a4
 simp only[nrm]at a4;rw[m1,BW hil,BW m2]at a4
 refine⟨i+1,by
  trivial,by
  omega,?_⟩
 refine⟨rfl,rfl,?_,rfl,?_⟩;exact AS (AC (by omega) (by omega));rw[m1,BW hil,H9 hil,BW m2,H9 m2];exact U4 a1;try dsimp only at a1
 simp only[nrm]at a1;rw[m1,BW hil,BW m2]at a1;refine And.symm ⟨λa2=>?_,λa2=>?_⟩;try dsimp only at a2
 simp only[nrm]at a2;rw[m1,BW hil,BW m2]at a2
 refine⟨i+1,by
  trivial,by
  omega,?_⟩
 refine⟨rfl,rfl,?_,rfl,?_⟩;exact AS (AC (by omega) (by omega));exact U6 (by omega) (by omega);try dsimp only at a2
 simp only[nrm]at a2;rw[m1,BW hil,BW m2]at a2;refine ao (by simp only[List.length_append,List.length_cons,List.length_nil];omega) λo35=>?_
 refine⟨i+1,by
  trivial,by
  omega,?_⟩
 refine⟨rfl,rfl,?_,rfl,?_⟩;exact AS (AC (by omega) (by omega));rw[m1,BW hil,H9 hil,BW m2,H9 m2];exact U5 a2
def Fs:Con:={ι:=(List V2),pre:=λi=>True,args:=λi=>[.one (DC.sl 36 [.int,.int] (Ak i))],res:=λi=>⟨false,[none],[rcB (!(AW i))]⟩}
theorem Tg:Fs.Ok Tryz.prog 102:=by
 refine fok (X:=⟨tt,[(103,Fo)],[],6,[]⟩) mixed AF (CTok.cons Te (CTok.nil _)) Tryz.func102 (λ_=>[]) ?_;intro (l:List V2) a0;have a0:True:=a0;refine AG (q:=∃i1:(List V2),[DA.one (DC.sl 36 [.int,.int] (Ak l))]=Fo.args i1/\Fo.pre i1/\((vB (!(AW i1))=vB (!(AW l))))) (by kernel_rfl) ?_;delta vB
 refine⟨l,by
  rfl,by
  trivial,?_⟩
 exact rfl
def G6:Con:={ι:=(List (List V2)),pre:=λi=>i.length<=9223372036854775807,args:=λi=>[.one (DC.sl 66 [.sl 36 [.int,.int]] (AP i)),.one (.ro (.fn 102 []))],tag:=103,res:=λi=>⟨false,[none],[rcI (Cf (λz=>!(AW z)) i)]⟩}
theorem WU:G6.Ok Tryz.prog 135:=by
 refine fok (X:=⟨tt,[(102,Fs)],[],19,[]⟩) mixed AF (CTok.cons Tg (CTok.nil _)) Tryz.func135 (λ(i:(List (List V2)))=>[(2,.mk 3 (Nat) (λx1=>{tm:=[(0,tX 1),(1,tX 2),(7,tI (nI ((AP i).length))),(8,tI (nI x1))],en:=[(1,.view 66 [.sl 36 [.int,.int]] (AP i) []),(2,.ro (.fn 102 []) [])]}) (λx1=>x1<=i.length/\∀j,j<x1->(λz=>!(AW z)) (i.getD j [])=false) (λx1=>i.length-x1) (λ_=>[]))]) ?_;intro (l:List (List V2)) a1;have a1:l.length<=9223372036854775807:=a1;refine AG (q:=let Z3:=Cf (λz=>!(AW z)) l;let Z2:=(.fn 102 []:RO)=.fn 102 [];let Z1:=AP l;let Z4:=nI (Z1.length);(∃x1:Nat,(x1<=l.length/\∀j,j<x1->(λz=>!(AW z)) (l.getD j [])=false)/\((rf (vI Z4))/\(vI (0:Int)=vI (nI x1))/\(rf Z1)/\Z2))/\∀x1:Nat,(x1<=l.length/\∀j,j<x1->(λz=>!(AW z)) (l.getD j [])=false)->(ifB ((decide ((nI x1)<Z4))) ((0<=(nI x1)/\(nI x1)<(Z1.length:Int))/\((x1<Z1.length)/\(∃i1:(List V2),[DA.one (DC.sl 36 [.int,.int] ((((Z1.getD x1 []).getD 0 (.int 0))).r))]=Fs.args i1/\Fs.pre i1/\(ifB ((!(AW i1))) ((vI (nI x1)=vI Z3)) (∃y2:Nat,(y2<=l.length/\∀j,j<y2->(λz=>!(AW z)) (l.getD j [])=false)/\(l.length-y2<l.length-x1)/\((rf (vI Z4))/\(vI (wR ((nI x1)+(1:Int)))=vI (nI y2))/\(rf Z1)/\Z2)))))) ((vI (-1:Int)=vI Z3)))) (by kernel_rfl) ?_;conv=>zeta
 delta ifB vI wR nI;have hal:=BE l;refine⟨⟨0,by exact⟨Nat.zero_le _,λj hj=>absurd hj (Nat.not_lt_zero j)⟩,?_⟩,?_⟩;refine⟨rfl,?_,rfl,?_⟩;rfl;rfl;intro (k:Nat) a0;have a0:k<=l.length/\∀j,j<k->(λz=>!(AW z)) (l.getD j [])=false:=a0;refine And.symm ⟨λc7=>?_,λc7=>?_⟩;simp only[nrm]at c7;rw[Kl (d:=[]) (λj hj=>a0.2 j (by omega))];simp only[nrm]at c7;refine ao (by first|omega) λo8=>?_;refine ao (by first|omega) λo9=>?_
 refine⟨(l.getD k []),by
  rw[Be (by omega)];rfl,by
  trivial,?_⟩
 refine⟨λa2=>?_,λa2=>?_⟩;simp only[nrm]at a2;rw[Pu (d:=[]) (by omega) a0.2 (by show(!(AW (l.getD k [])))=true;rw[a2];rfl)];simp only[nrm]at a2
 refine⟨k+1,by
  exact⟨by omega,Jj a0.2 (by show(!(AW (l.getD k [])))=false;rw[a2];rfl)⟩,by
  omega,?_⟩
 refine⟨rfl,?_,rfl,?_⟩;exact AS (AC (by omega) (by omega));rfl
def G7:Con:={ι:=(List (List V2)),pre:=λi=>i.length<=9223372036854775807,args:=λi=>[.one (DC.sl 66 [.sl 36 [.int,.int]] (AP i)),.one (.ro (.fn 102 []))],tag:=103,res:=λi=>⟨false,[none],[rcB (i.any (λz=>!(AW z)))]⟩}
theorem WV:G7.Ok Tryz.prog 101:=by
 refine fok (X:=⟨tt,[(135,G6)],[],9,[]⟩) mixed AF (CTok.cons WU (CTok.nil _)) Tryz.func101 (λ_=>[]) ?_;intro (l:List (List V2)) a0;have a0:l.length<=9223372036854775807:=a0;refine AG (q:=∃i1:(List (List V2)),[DA.one (DC.sl 66 [.sl 36 [.int,.int]] (AP l)),DA.one (DC.ro (.fn 102 []))]=G6.args i1/\G6.pre i1/\((vB (decide ((Cf (λz=>!(AW z)) i1)>=(0:Int)))=vB (l.any (λz=>!(AW z)))))) (by kernel_rfl) ?_;delta vB
 refine⟨l,by
  rfl,by
  exact a0,?_⟩
 exact congrArg Value.bool (YO _ _)
def Cu:Con:={ι:=(List (List V2)),pre:=λi=>i.length<=9223372036854775807,args:=λi=>[.one (DC.sl 66 [.sl 36 [.int,.int]] (AP i))],res:=λi=>⟨false,[none],[rcB (A3 i)]⟩}
theorem NU:Cu.Ok Tryz.prog 62:=by
 refine fok (X:=⟨tt,[(101,G7)],[],6,[]⟩) mixed AF (CTok.cons WV (CTok.nil _)) Tryz.func62 (λ_=>[]) ?_;intro (l:List (List V2)) a0;have a0:l.length<=9223372036854775807:=a0;refine AG (q:=∃i1:(List (List V2)),[DA.one (DC.sl 66 [.sl 36 [.int,.int]] (AP l)),DA.one (DC.ro (.fn 102 []))]=G7.args i1/\G7.pre i1/\((vB (!(i1.any (λz=>!(AW z))))=vB (A3 l)))) (by kernel_rfl) ?_;delta vB
 refine⟨l,by
  rfl,by
  exact a0,?_⟩
 exact congrArg Value.bool (by unfold A3;simp[List.not_any_eq_all_not])
def Et:Con:={ι:=(List (List V2)),pre:=λi=>A3 i=true/\i.length<=1048576,args:=λi=>[.one (DC.sl 66 [.sl 36 [.int,.int]] (AP i))],res:=λi=>⟨false,[none],[.own 87 [.int,.int,.int,.int,.int,.bool] (Aj (edA i))]⟩}
theorem Rs:Et.Ok Tryz.prog 105:=by
 refine fok (X:=⟨tt,[(62,Cu),(111,DP)],[],24,[]⟩) mixed AF (CTok.cons NU (CTok.cons Oq (CTok.nil _))) Tryz.func105 (λ(i:(List (List V2)))=>[(5,.mk 3 (Nat) (λx1=>{tm:=[(10,tX 1),(11,tI (nI ((AP i).length))),(12,tI (nI x1)),(3,tX 2)],en:=[(1,.view 66 [.sl 36 [.int,.int]] (AP i) []),(2,.own 87 z86 (Aj (DO i x1)))]}) (λx1=>x1<=i.length) (λx1=>i.length-x1) (λ_=>[]))]) ?_;intro (l:List (List V2)) a0;have a0:A3 l=true/\l.length<=1048576:=a0;refine AG (q:=let Z1:=AP l;let Z3:=nI (Z1.length);∃i1:(List (List V2)),[DA.one (DC.sl 66 [.sl 36 [.int,.int]] Z1)]=Cu.args i1/\Cu.pre i1/\(ifB ((!(A3 i1))) ((([]:List (List Dat))=Aj (edA l))) ((∃x1:Nat,(x1<=l.length)/\((rf (vI Z3))/\(vI (0:Int)=vI (nI x1))/\(rf Z1)/\(([]:List (List Dat))=(Aj (DO l x1)))))/\∀x1:Nat,let Z2:=Aj (DO l x1);(x1<=l.length)->(ifB ((decide ((nI x1)<Z3))) ((0<=(nI x1)/\(nI x1)<(Z1.length:Int))/\((x1<Z1.length)/\(∃i2:(List V2)×Int,[DA.one (DC.sl 36 [.int,.int] ((((Z1.getD x1 []).getD 0 (.int 0))).r)),DA.one (cI (nI x1))]=DP.args i2/\DP.pre i2/\((Z2.length+(Aj (AD i2.1 i2.2)).length<=2199023255552)/\(∃y2:Nat,(y2<=l.length)/\(l.length-y2<l.length-x1)/\((rf (vI Z3))/\(vI (wR ((nI x1)+(1:Int)))=vI (nI y2))/\(rf Z1)/\((Z2++Aj (AD i2.1 i2.2))=(Aj (DO l y2))))))))) ((Z2=Aj (edA l))))))) (by kernel_rfl) ?_;conv=>zeta
 delta ifB vI wR nI;have hal:=BE l
 refine⟨l,by
  rfl,by
  show l.length<=9223372036854775807;omega,?_⟩
 refine⟨λc4=>?_,λc4=>?_⟩;simp only[nrm]at c4;rw[a0.1]at c4;cases c4;simp only[nrm]at c4;refine⟨⟨0,by omega,?_⟩,?_⟩;refine⟨rfl,?_,rfl,?_⟩;rfl;rfl;intro (k:Nat) a1;have a1:k<=l.length:=a1;refine And.symm ⟨λa2=>?_,λa2=>?_⟩;simp only[nrm]at a2;have hE:k=l.length:=by omega
 rw[hE];rfl;simp only[nrm]at a2;have a3:k<l.length:=by omega
 have hP:=C9 a0.1 a3;have h16:=(BH hP).2.2;have hl1:=JI a0.1 k (by omega);have hl2:=DY (l.getD k []) (k:Int) (l.getD k []).length;rw[show Ba (l.getD k []) (k:Int) (l.getD k []).length=AD (l.getD k []) (k:Int)from rfl]at hl2;refine ao (by omega) λo13=>?_;refine ao (by omega) λo14=>?_
 refine⟨(l.getD k [],((k:Nat):Int)),by
  rw[Be (by omega)];rfl,by
  show AW (l.getD k [])=true;omega,?_⟩
 refine ao (by dsimp only;rw[BG,BG];omega) λo18=>?_
 refine⟨k+1,by
  trivial,by
  omega,?_⟩
 refine⟨rfl,?_,rfl,?_⟩;exact AS (AC (by omega) (by omega));exact(Il _ _).symm
def Eu:Con:={ι:=(List (List V2)),pre:=λi=>A3 i=true/\i.length<=1048576,args:=λi=>[.one (DC.sl 66 [.sl 36 [.int,.int]] (AP i))],res:=λi=>⟨false,[none],[.own 87 [.int,.int,.int,.int,.int,.bool] (Aj (edA i))]⟩}
theorem Rt:Eu.Ok Tryz.prog 52:=by
 refine fok (X:=⟨tt,[(50,Cr),(89,DQ)],[],24,[]⟩) mixed AF (CTok.cons NO (CTok.cons Or (CTok.nil _))) Tryz.func52 (λ(i:(List (List V2)))=>[(3,.mk 3 (Nat) (λx1=>{tm:=[(7,tX 1),(8,tI (nI ((AP i).length))),(9,tI (nI x1)),(3,tX 2)],en:=[(1,.view 66 [.sl 36 [.int,.int]] (AP i) []),(2,.own 87 z86 (Aj (DO i x1)))]}) (λx1=>x1<=i.length) (λx1=>i.length-x1) (λ_=>[]))]) ?_;intro (l:List (List V2)) a0;have a0:A3 l=true/\l.length<=1048576:=a0;refine AG (q:=let Z2:=AP l;let Z4:=nI (Z2.length);(∃x1:Nat,(x1<=l.length)/\((rf (vI Z4))/\(vI (0:Int)=vI (nI x1))/\(rf Z2)/\(([]:List (List Dat))=(Aj (DO l x1)))))/\∀x1:Nat,let Z3:=Aj (DO l x1);let Z1:=DC.sl 36 [.int,.int] ((((Z2.getD x1 []).getD 0 (.int 0))).r);(x1<=l.length)->(ifB ((decide ((nI x1)<Z4))) ((0<=(nI x1)/\(nI x1)<(Z2.length:Int))/\((x1<Z2.length)/\(∃i1:(List V2),[DA.one Z1]=Cr.args i1/\Cr.pre i1/\(ifB ((!(AW i1))) ((([]:List (List Dat))=Aj (edA l))) (∃i2:(List V2)×Int,[DA.one Z1,DA.one (cI (nI x1))]=DQ.args i2/\DQ.pre i2/\((Z3.length+(Aj (AD i2.1 i2.2)).length<=2199023255552)/\(∃y2:Nat,(y2<=l.length)/\(l.length-y2<l.length-x1)/\((rf (vI Z4))/\(vI (wR ((nI x1)+(1:Int)))=vI (nI y2))/\(rf Z2)/\((Z3++Aj (AD i2.1 i2.2))=(Aj (DO l y2))))))))))) ((Z3=Aj (edA l))))) (by kernel_rfl) ?_;conv=>zeta
 delta ifB vI wR nI;have hal:=BE l;refine⟨⟨0,by omega,?_⟩,?_⟩;refine⟨rfl,?_,rfl,?_⟩;rfl;rfl;intro (k:Nat) a1;have a1:k<=l.length:=a1;refine And.symm ⟨λc7=>?_,λc7=>?_⟩;simp only[nrm]at c7;have hE:k=l.length:=by omega
 rw[hE];rfl;simp only[nrm]at c7;have a3:k<l.length:=by omega
 have hP:=C9 a0.1 a3;have h16:=(BH hP).2.2;have hl1:=JI a0.1 k (by omega);have hl2:=DY (l.getD k []) (k:Int) (l.getD k []).length;rw[show Ba (l.getD k []) (k:Int) (l.getD k []).length=AD (l.getD k []) (k:Int)from rfl]at hl2;refine ao (by omega) λo8=>?_;refine ao (by omega) λo9=>?_
 refine⟨(l.getD k []),by
  rw[Be (by omega)];rfl,by
  trivial,?_⟩
 refine⟨λa2=>?_,λa2=>?_⟩;simp only[nrm]at a2;rw[hP]at a2;cases a2;simp only[nrm]at a2
 refine⟨(l.getD k [],((k:Nat):Int)),by
  rw[Be (by omega)];rfl,by
  show AW (l.getD k [])=true;omega,?_⟩
 refine ao (by dsimp only;rw[BG,BG];omega) λo18=>?_
 refine⟨k+1,by
  trivial,by
  omega,?_⟩
 refine⟨rfl,?_,rfl,?_⟩;exact AS (AC (by omega) (by omega));exact(Il _ _).symm
end Go.Proofs.YthoidhehmmcgnaaGreat
