import Derived.Test.YtkffpiaagjcmpaaGreatEvRkJ
namespace Go.Proofs.YtkffpiaagjcmpaaGreat
set_option maxRecDepth 100000
set_option linter.unusedVariables false
set_option linter.unusedSimpArgs false
open Go.RowKit
def rOf (n d:Int):Fr:=if d=0 then Fr.none else Fr.mk' (zOf (decide (n<0) != decide (d<0)) n.natAbs) d.natAbs
theorem TK {n d:Int} (h:d=0):rOf n d=Fr.none:=by unfold rOf;rw [if_pos h]
theorem LV {n d:Int} (h:d≠0):rOf n d=Fr.mk' (zOf (decide (n<0) != decide (d<0)) n.natAbs) d.natAbs:=by unfold rOf;rw [if_neg h]
theorem Ub {x:Int} (h:nl x.natAbs<=60):CJ (decide (x<0)) (L x.natAbs)=true:=by rw [Q6,decide_eq_true h]
structure Edg where
 a:V2
 b:V2
 k:Int
 low:Bool
def Edg.ok (e:Edg):Bool:=AE e.a && (AE e.b && decide (e.a.1<e.b.1))
def slp (e:Edg):Fr:=rOf (e.b.2-e.a.2) (e.b.1-e.a.1)
def hgt (e:Edg) (x:Fr):Fr:=Fr.add (Fr.ofInt e.a.2) (Fr.mul (slp e) (Fr.sub x (Fr.ofInt e.a.1)))
def spn (e:Edg) (lo hi:Fr):Bool:=decide (Fr.cmp (Fr.ofInt e.a.1) lo<=0) && decide (Fr.cmp (Fr.ofInt e.b.1) hi≥0)
theorem Edg.bd {e:Edg} (h:e.ok=true):((-1000<=e.a.1/\e.a.1<=1000)/\-1000<=e.a.2/\e.a.2<=1000)/\((-1000<=e.b.1/\e.b.1<=1000)/\-1000<=e.b.2/\e.b.2<=1000)/\e.a.1<e.b.1:=by
 unfold Edg.ok at h
 simp only [Bool.and_eq_true,decide_eq_true_eq] at h
 have h1:=El h.1
 have h2:=El h.2.1
 exact ⟨⟨⟨h1.1,h1.2.1⟩,h1.2.2⟩,⟨⟨h2.1,h2.2.1⟩,h2.2.2⟩,h.2.2⟩
theorem Edg.vecs {e:Edg} : e.ok=(AE e.a && (AE e.b && decide (e.a.1<e.b.1))):=rfl
def F7:Con:={ ι:=Int×Int,pre:=λ i=>nl i.1.natAbs<=60/\nl i.2.natAbs<=60,args:=λ i=>[dB i.1,dB i.2],res:=λ i=>⟨false,[none],[rcB true]⟩ }
theorem Vr:F7.Ok Tryz.prog 112:=by
 refine fok (X:=⟨tt,[(120,BW)],[],11,[]⟩) mixed AQ (CTok.cons Kp (CTok.nil _)) Tryz.func112 (λ _=>[]) ?_
 rintro ⟨x,y⟩ hpre
 have hpre:nl x.natAbs<=60/\nl y.natAbs<=60:=hpre
 refine AP (q:=∃ i1:Bool×(List (List Dat)),[dB x]=BW.args i1/\BW.pre i1/\(ifB ((CJ i1.1 i1.2)) (∃ i2:Bool×(List (List Dat)),[dB y]=BW.args i2/\BW.pre i2/\((vB (CJ i2.1 i2.2)=vB true))) ((vB false=vB true)))) (by kernel_rfl) ?_
 delta ifB vB
 have e1:=Ub (x:=x) hpre.1
 have e2:=Ub (x:=y) hpre.2
 refine ⟨(decide (x<0),(L x.natAbs)),by
  rfl,by
  show (L x.natAbs).length<=9223372036854775807
  rw [Aq];omega,?_⟩
 refine And.symm ⟨λ c4=>?_,λ c4=>?_⟩
 ·try simp only [nrm] at c4
  first|rfl|(rw [e2];done)|(rw [e1] at c4;cases c4)
 try simp only [nrm] at c4
 refine ⟨(decide (y<0),(L y.natAbs)),by
  rfl,by
  show (L y.natAbs).length<=9223372036854775807
  rw [Aq];omega,?_⟩
 show Value.bool (CJ (decide (y<0)) (L y.natAbs))=Value.bool true
 first|rfl|(rw [e2];done)|(rw [e1] at c4;cases c4)
def EA:Con:={ ι:=Int×Int,pre:=λ i=>nl i.1.natAbs<=24/\nl i.2.natAbs<=24,args:=λ i=>[dB i.1,dB i.2],res:=λ i=>⟨false,[some 3],[rcB (decide ((rOf i.1 i.2).z<0)),.own 3 [.int] (L (rOf i.1 i.2).z.natAbs),.own 3 [.int] (L (rOf i.1 i.2).d)]⟩ }
theorem RH:EA.Ok Tryz.prog 61:=by
 refine fok (X:=⟨tt,[(112,F7),(113,Af),(110,A6)],[],27,[]⟩) mixed AQ (CTok.cons Vr (CTok.cons Ec (CTok.cons F1 (CTok.nil _)))) Tryz.func61 (λ _=>[]) ?_
 rintro ⟨x,y⟩ hpre
 have hpre:nl x.natAbs<=24/\nl y.natAbs<=24:=hpre
 refine AP (q:=∃ i1:Int×Int,[dB x,dB y]=F7.args i1/\F7.pre i1/\(ifB ((!(!true))) (ifB (((nI ((L y.natAbs).length)) == (0:Int))) ((eqN (rOf x y))) (∃ i2:Bool×Nat,[DA.one (cB ((decide (x<0)) != (decide (y<0)))),DA.one (cS (L x.natAbs))]=Af.args i2/\Af.pre i2/\(∃ i3:Int×Nat,[dB (zOf i2.1 i2.2),DA.one (cS (L y.natAbs))]=A6.args i3/\A6.pre i3/\((eqC (Fr.mk' i3.1 i3.2) (rOf x y)))))) ((eqN (rOf x y))))) (by kernel_rfl) ?_
 delta ifB nI
 have ly:=Aq y.natAbs
 have lx:=Aq x.natAbs
 refine ⟨(x,y),by
  rfl,by
  show nl x.natAbs<=60/\nl y.natAbs<=60
  first|trivial|exact ⟨by omega,by omega⟩|exact ⟨by omega,by rw [Fw];omega,by omega⟩,?_⟩
 refine And.symm ⟨λ c4=>?_,λ c4=>?_⟩
 ·try simp only [nrm] at c4
  refine Cw ?_
  first|contradiction|(rw [TK hy];done)|(rw [LV hy];done)
 try simp only [nrm] at c4
 refine ⟨λ c5=>?_,λ c5=>?_⟩
 ·try simp only [nrm] at c5
  have hy:y=0:=by have:=DS.1 (show nl y.natAbs=0 by omega);omega
  refine Cw ?_
  first|contradiction|(rw [TK hy];done)|(rw [LV hy];done)
 try simp only [nrm] at c5
 have hy:y≠0:=by
  rintro rfl
  exact c5 (by rw [ly];simp [Cn])
 refine ⟨(((decide (x<0)) != (decide (y<0))),x.natAbs),by
  rfl,by
  first|trivial|exact ⟨by omega,by omega⟩|exact ⟨by omega,by rw [Fw];omega,by omega⟩,?_⟩
 refine ⟨((zOf ((decide (x<0)) != (decide (y<0))) x.natAbs),y.natAbs),by
  rfl,by
  show y.natAbs≠0/\nl (zOf ((decide (x<0)) != (decide (y<0))) x.natAbs).natAbs<=1000/\nl y.natAbs<=1000
  first|trivial|exact ⟨by omega,by omega⟩|exact ⟨by omega,by rw [Fw];omega,by omega⟩,?_⟩
 refine Eb ?_
 show Fr.mk' (zOf ((decide (x<0)) != (decide (y<0))) x.natAbs) y.natAbs=rOf x y
 first|contradiction|(rw [TK hy];done)|(rw [LV hy];done)
def Dc:Con:={ ι:=Int×Int,pre:=λ i=>(-9223372036854775808<=i.1/\i.1<=9223372036854775807)/\(-9223372036854775808<=i.2/\i.2<=9223372036854775807),args:=λ i=>[.one (cI i.1),.one (cI i.2)],res:=λ i=>⟨false,[some 3],[rcB (decide ((rOf i.1 i.2).z<0)),.own 3 [.int] (L (rOf i.1 i.2).z.natAbs),.own 3 [.int] (L (rOf i.1 i.2).d)]⟩ }
theorem RI:Dc.Ok Tryz.prog 23:=by
 refine fok (X:=⟨tt,[(62,CZ),(61,EA)],[],10,[]⟩) mixed AQ (CTok.cons Q9 (CTok.cons RH (CTok.nil _))) Tryz.func23 (λ _=>[]) ?_
 rintro ⟨n,d⟩ hpre
 have hpre:(-9223372036854775808<=n/\n<=9223372036854775807)/\(-9223372036854775808<=d/\d<=9223372036854775807):=hpre
 refine AP (q:=∃ i1:Int,[DA.one (cI n)]=CZ.args i1/\CZ.pre i1/\(∃ i2:Int,[DA.one (cI d)]=CZ.args i2/\CZ.pre i2/\(∃ i3:Int×Int,[dB i1,dB i2]=EA.args i3/\EA.pre i3/\((eqC (rOf i3.1 i3.2) (rOf n d)))))) (by kernel_rfl) ?_
 refine ⟨n,by
  rfl,by
  show -9223372036854775808<=n/\n<=9223372036854775807
  first|exact hpre.1|exact hpre.2|exact ⟨Nat.le_trans (DG hpre.1) (by decide),Nat.le_trans (DG hpre.2) (by decide)⟩,?_⟩
 refine ⟨d,by
  rfl,by
  show -9223372036854775808<=d/\d<=9223372036854775807
  first|exact hpre.1|exact hpre.2|exact ⟨Nat.le_trans (DG hpre.1) (by decide),Nat.le_trans (DG hpre.2) (by decide)⟩,?_⟩
 refine ⟨(n,d),by
  rfl,by
  show nl n.natAbs<=24/\nl d.natAbs<=24
  first|exact hpre.1|exact hpre.2|exact ⟨Nat.le_trans (DG hpre.1) (by decide),Nat.le_trans (DG hpre.2) (by decide)⟩,?_⟩
 exact Eb rfl
theorem Uc (e:Edg):([e.a,e.b].all AE)=(AE e.a && AE e.b):=by simp
def I3 (e f:Edg):Fr:=Fr.div (Fr.sub (hgt f (Fr.ofInt 0)) (hgt e (Fr.ofInt 0))) (Fr.sub (slp e) (slp f))
def FG (e f:Edg):Bool:=(I3 e f).good && (spn e (I3 e f) (I3 e f) && spn f (I3 e f) (I3 e f))
def Ef (e f:Edg):Fr:=if FG e f=true then I3 e f else Fr.none
def RJ (e:Edg) (y:Int):Fr:=Fr.add (Fr.ofInt e.a.1) (Fr.div (Fr.ofInt (y-e.a.2)) (slp e))
def CL (e:Edg) (y:Int):Bool:=!(decide (e.a.2=e.b.2)) && ((decide (y≥-1000) && decide (y<=1000)) && ((RJ e y).good && spn e (RJ e y) (RJ e y)))
def As (e:Edg) (y:Int):Fr:=if CL e y=true then RJ e y else Fr.none
theorem E4 {e f:Edg} (h:FG e f=false):Ef e f=Fr.none:=by unfold Ef;rw [if_neg (by rw [h];simp)]
theorem DK {e f:Edg} (h:FG e f=true):Ef e f=I3 e f:=by unfold Ef;rw [if_pos h]
theorem Dl {e:Edg} {y:Int} (h:CL e y=false):As e y=Fr.none:=by unfold As;rw [if_neg (by rw [h];simp)]
theorem CR {e:Edg} {y:Int} (h:CL e y=true):As e y=RJ e y:=by unfold As;rw [if_pos h]
def B9:Con:={ ι:=Edg,pre:=λ i=>True,args:=λ i=>[DA.agg [cI i.a.1,cI i.a.2,cI i.b.1,cI i.b.2,cI i.k,cB i.low]],res:=λ i=>⟨false,[none],[rcB i.ok]⟩ }
theorem OT:B9.Ok Tryz.prog 141:=by
 refine fok (X:=⟨tt,[(36,A8)],[],18,[]⟩) mixed AQ (CTok.cons F6 (CTok.nil _)) Tryz.func141 (λ _=>[]) ?_
 intro (e:Edg) hpre
 have hpre:True:=hpre
 refine AP (q:=∃ i1:(List V2),[DA.one (DC.sl 24 [.int,.int] ([[Dat.int e.a.1,Dat.int e.a.2],[Dat.int e.b.1,Dat.int e.b.2]]:List (List Dat)))]=A8.args i1/\A8.pre i1/\(ifB ((i1.all AE)) ((vB (decide (e.a.1<e.b.1))=vB e.ok)) ((vB false=vB e.ok)))) (by kernel_rfl) ?_
 delta ifB vB
 refine ⟨[e.a,e.b],by
  rfl,by
  first|trivial|(first|omega|assumption|exact hpre.1|exact hpre.2|(simp;done)),?_⟩
 refine ⟨λ c4=>?_,λ c4=>?_⟩
 ·try simp only [nrm] at c4
  rw [Uc] at c4
  refine congrArg Value.bool ?_;unfold Edg.ok;rw [← Bool.and_assoc,c4];simp
 try simp only [nrm] at c4
 rw [Uc] at c4
 refine congrArg Value.bool ?_;unfold Edg.ok;rw [← Bool.and_assoc,c4];simp
def Bj:Con:={ ι:=Edg,pre:=λ i=>i.ok=true,args:=λ i=>[DA.agg [cI i.a.1,cI i.a.2,cI i.b.1,cI i.b.2,cI i.k,cB i.low]],res:=λ i=>⟨false,[some 3],[rcB (decide ((slp i).z<0)),.own 3 [.int] (L (slp i).z.natAbs),.own 3 [.int] (L (slp i).d)]⟩ }
theorem Mb:Bj.Ok Tryz.prog 143:=by
 refine fok (X:=⟨tt,[(23,Dc)],[],18,[]⟩) mixed AQ (CTok.cons RI (CTok.nil _)) Tryz.func143 (λ _=>[]) ?_
 intro (e:Edg) hpre
 have hpre:e.ok=true:=hpre
 refine AP (q:=∃ i1:Int×Int,[DA.one (cI (wR (e.b.2-e.a.2))),DA.one (cI (wR (e.b.1-e.a.1)))]=Dc.args i1/\Dc.pre i1/\((eqC (rOf i1.1 i1.2) (slp e)))) (by kernel_rfl) ?_
 delta wR
 have hb:=Edg.bd hpre
 have hw1:IntKind.i64.wrap (e.b.2-e.a.2)=e.b.2-e.a.2:=AC (by omega) (by omega)
 have hw2:IntKind.i64.wrap (e.b.1-e.a.1)=e.b.1-e.a.1:=AC (by omega) (by omega)
 refine ⟨(e.b.2-e.a.2,e.b.1-e.a.1),by
  first|rfl|(rw [hw1,hw2];rfl),by
  show (-9223372036854775808<=(e.b.2-e.a.2)/\(e.b.2-e.a.2)<=9223372036854775807)/\(-9223372036854775808<=(e.b.1-e.a.1)/\(e.b.1-e.a.1)<=9223372036854775807)
  exact ⟨⟨by omega,by omega⟩,by omega,by omega⟩,?_⟩
 refine Eb ?_
 show rOf (e.b.2-e.a.2) (e.b.1-e.a.1)=slp e
 rfl
def Ca:Con:={ ι:=Edg×Fr,pre:=λ i=>i.1.ok=true,args:=λ i=>[DA.agg [cI i.1.a.1,cI i.1.a.2,cI i.1.b.1,cI i.1.b.2,cI i.1.k,cB i.1.low],dF i.2],res:=λ i=>⟨false,[some 3],[rcB (decide ((hgt i.1 i.2).z<0)),.own 3 [.int] (L (hgt i.1 i.2).z.natAbs),.own 3 [.int] (L (hgt i.1 i.2).d)]⟩ }
theorem RK:Ca.Ok Tryz.prog 145:=by
 refine fok (X:=⟨tt,[(46,AU),(143,Bj),(142,B7),(60,Cx),(63,BO)],[],19,[]⟩) mixed AQ (CTok.cons EJ (CTok.cons Mb (CTok.cons OQ (CTok.cons OO (CTok.cons Hi (CTok.nil _)))))) Tryz.func145 (λ _=>[]) ?_
 rintro ⟨e,x⟩ hpre
 have hpre:e.ok=true:=hpre
 refine AP (q:=∃ i1:Int,[DA.one (cI e.a.2)]=AU.args i1/\AU.pre i1/\(∃ i2:Edg,[DA.agg [cI e.a.1,cI e.a.2,cI e.b.1,cI e.b.2,cI e.k,cB e.low]]=Bj.args i2/\Bj.pre i2/\(∃ i3:Int,[DA.one (cI e.a.1)]=AU.args i3/\AU.pre i3/\(∃ i4:Fr×Fr,[dF x,dF (Fr.ofInt i3)]=B7.args i4/\B7.pre i4/\(∃ i5:Fr×Fr,[dF (slp i2),dF (Fr.sub i4.1 i4.2)]=Cx.args i5/\Cx.pre i5/\(∃ i6:Fr×Fr,[dF (Fr.ofInt i1),dF (Fr.mul i5.1 i5.2)]=BO.args i6/\BO.pre i6/\((eqC (Fr.add i6.1 i6.2) (hgt e x))))))))) (by kernel_rfl) ?_
 have hb:=Edg.bd hpre
 
 refine ⟨e.a.2,by
  rfl,by
  show -9223372036854775808<=e.a.2/\e.a.2<=9223372036854775807
  first|exact hpre|trivial|exact ⟨by omega,by omega⟩,?_⟩
 refine ⟨e,by
  rfl,by
  show e.ok=true
  first|exact hpre|trivial|exact ⟨by omega,by omega⟩,?_⟩
 refine ⟨e.a.1,by
  rfl,by
  show -9223372036854775808<=e.a.1/\e.a.1<=9223372036854775807
  first|exact hpre|trivial|exact ⟨by omega,by omega⟩,?_⟩
 refine ⟨(x,(Fr.ofInt e.a.1)),by
  rfl,by
  first|exact hpre|trivial|exact ⟨by omega,by omega⟩,?_⟩
 refine ⟨((slp e),(Fr.sub x (Fr.ofInt e.a.1))),by
  rfl,by
  first|exact hpre|trivial|exact ⟨by omega,by omega⟩,?_⟩
 refine ⟨((Fr.ofInt e.a.2),(Fr.mul (slp e) (Fr.sub x (Fr.ofInt e.a.1)))),by
  rfl,by
  first|exact hpre|trivial|exact ⟨by omega,by omega⟩,?_⟩
 refine Eb ?_
 show Fr.add (Fr.ofInt e.a.2) (Fr.mul (slp e) (Fr.sub x (Fr.ofInt e.a.1)))=hgt e x
 rfl
def Cb:Con:={ ι:=Edg×Fr×Fr,pre:=λ i=>i.1.ok=true,args:=λ i=>[DA.agg [cI i.1.a.1,cI i.1.a.2,cI i.1.b.1,cI i.1.b.2,cI i.1.k,cB i.1.low],dF i.2.1,dF i.2.2],res:=λ i=>⟨false,[none],[rcB (spn i.1 i.2.1 i.2.2)]⟩ }
theorem RL:Cb.Ok Tryz.prog 146:=by
 refine fok (X:=⟨tt,[(46,AU),(58,AJ)],[],23,[]⟩) mixed AQ (CTok.cons EJ (CTok.cons FY (CTok.nil _))) Tryz.func146 (λ _=>[]) ?_
 rintro ⟨e,x,y⟩ hpre
 have hpre:e.ok=true:=hpre
 refine AP (q:=∃ i1:Int,[DA.one (cI e.a.1)]=AU.args i1/\AU.pre i1/\(∃ i2:Fr×Fr,[dF (Fr.ofInt i1),dF x]=AJ.args i2/\AJ.pre i2/\(ifB ((decide ((Fr.cmp i2.1 i2.2)<=(0:Int)))) (∃ i3:Int,[DA.one (cI e.b.1)]=AU.args i3/\AU.pre i3/\(∃ i4:Fr×Fr,[dF (Fr.ofInt i3),dF y]=AJ.args i4/\AJ.pre i4/\((vB (decide ((Fr.cmp i4.1 i4.2)≥(0:Int)))=vB (spn e x y))))) ((vB false=vB (spn e x y)))))) (by kernel_rfl) ?_
 delta ifB vB
 have hb:=Edg.bd hpre
 
 refine ⟨e.a.1,by
  rfl,by
  show -9223372036854775808<=e.a.1/\e.a.1<=9223372036854775807
  first|trivial|exact ⟨by omega,by omega⟩,?_⟩
 refine ⟨((Fr.ofInt e.a.1),x),by
  rfl,by
  first|trivial|exact ⟨by omega,by omega⟩,?_⟩
 refine And.symm ⟨λ c7=>?_,λ c7=>?_⟩
 ·try simp only [nrm] at c7
  refine congrArg Value.bool ?_;unfold spn;first|(simp_all;done)|(rw [decide_eq_false (by omega)];simp_all;done)|(rw [decide_eq_true (by omega)];simp_all;done)
 try simp only [nrm] at c7
 refine ⟨e.b.1,by
  rfl,by
  show -9223372036854775808<=e.b.1/\e.b.1<=9223372036854775807
  first|trivial|exact ⟨by omega,by omega⟩,?_⟩
 refine ⟨((Fr.ofInt e.b.1),y),by
  rfl,by
  first|trivial|exact ⟨by omega,by omega⟩,?_⟩
 show Value.bool (decide ((Fr.cmp (Fr.ofInt e.b.1) y)≥(0:Int)))=Value.bool (spn e x y)
 refine congrArg Value.bool ?_;unfold spn;first|(simp_all;done)|(rw [decide_eq_false (by omega)];simp_all;done)|(rw [decide_eq_true (by omega)];simp_all;done)
theorem I4 {d:Int} (h:d≠0):(d:Rat)≠0:=λ e=>h (by have:=congrArg Rat.num e;simpa using this)
theorem ABZ (n d:Int) (h:d≠0):mkRat (zOf (decide (n<0) != decide (d<0)) n.natAbs) d.natAbs=(n:Rat)/(d:Rat):=by
 rw [div_mk (I4 h)]
 have e1:((n:Int):Rat).num=n:=by simp
 have e2:((n:Int):Rat).den=1:=by simp
 have e3:((d:Int):Rat).num=d:=by simp
 have e4:((d:Int):Rat).den=1:=by simp
 rw [e1,e2,e3,e4]
 congr 1
 ·unfold zOf
  by_cases h1:n<0 <;> by_cases h2:d<0 <;> simp [h1,h2] <;> omega
 ·omega
theorem ABa {z:Int} {d:Nat} (hd:d≠0) (h1:nl z.natAbs<=24) (h2:nl d<=24):PD (mkRat z d)=true:=by
 rw [Dw,DF hd,(DV hd).2]
 exact ⟨Nat.le_trans (Ex (Nat.div_le_self _ _)) h1,Nat.le_trans (Ex (Nat.div_le_self _ _)) h2⟩
theorem AA0 {n d:Int} (h:d≠0) (h1:nl n.natAbs<=24) (h2:nl d.natAbs<=24):(rOf n d).v=some ((n:Rat)/(d:Rat)):=by
 rw [LV h]
 unfold Fr.mk'
 rw [← ABZ n d h]
 exact FU (ABa (by omega) (by rw [Fw];exact h1) h2)
theorem PO {r s:Fr} (hr:r.d≠0) (hs:s.d≠0) (h:Fr.cmp r s=0):r=s:=by
 obtain ⟨p,hp,e1,e2⟩:=Fr.some_d hr
 obtain ⟨q,hq,e3,e4⟩:=Fr.some_d hs
 apply Fr.ext
 rw [hp,hq]
 unfold Fr.cmp NS at h
 rw [hp,hq] at h
 simp only at h
 by_cases h1:p<q
 ·simp [h1] at h
 ·by_cases h2:p=q
  ·rw [h2]
  ·simp [h1,h2] at h
theorem ACK {e:Edg} (h:e.ok=true):(slp e).v=some (((e.b.2-e.a.2:Int):Rat)/((e.b.1-e.a.1:Int):Rat)):=by
 have hb:=Edg.bd h
 exact AA0 (by omega) (Nat.le_trans (DG ⟨by omega,by omega⟩) (by decide)) (Nat.le_trans (DG ⟨by omega,by omega⟩) (by decide))
def I5:Con:={ ι:=Edg×Edg,pre:=λ i=>i.1.ok=true/\i.2.ok=true,args:=λ i=>[DA.agg [cI i.1.a.1,cI i.1.a.2,cI i.1.b.1,cI i.1.b.2,cI i.1.k,cB i.1.low],DA.agg [cI i.2.a.1,cI i.2.a.2,cI i.2.b.1,cI i.2.b.2,cI i.2.k,cB i.2.low]],res:=λ i=>⟨true,[some 3,none],[rcB (decide ((Ef i.1 i.2).z<0)),.own 3 [.int] (L (Ef i.1 i.2).z.natAbs),.own 3 [.int] (L (Ef i.1 i.2).d),rcB (FG i.1 i.2)]⟩ }
theorem Zs:I5.Ok Tryz.prog 102:=by
 refine fok (X:=⟨tt,[(141,B9),(143,Bj),(142,B7),(46,AU),(145,Ca),(144,Cy),(91,AW),(146,Cb)],[],50,[]⟩) mixed AQ (CTok.cons OT (CTok.cons Mb (CTok.cons OQ (CTok.cons EJ (CTok.cons RK (CTok.cons OP (CTok.cons EI (CTok.cons RL (CTok.nil _))))))))) Tryz.func102 (λ _=>[]) ?_
 rintro ⟨e,f⟩ hpre
 have hpre:e.ok=true/\f.ok=true:=hpre
 refine AP (q:=let Z1:=(eqM (Ef e f) ((vB false=vB (FG e f))));∃ i1:Edg,[DA.agg [cI e.a.1,cI e.a.2,cI e.b.1,cI e.b.2,cI e.k,cB e.low]]=B9.args i1/\B9.pre i1/\(ifB ((!(!i1.ok))) (∃ i2:Edg,[DA.agg [cI f.a.1,cI f.a.2,cI f.b.1,cI f.b.2,cI f.k,cB f.low]]=B9.args i2/\B9.pre i2/\(ifB ((!i2.ok)) Z1 (∃ i3:Edg,[DA.agg [cI e.a.1,cI e.a.2,cI e.b.1,cI e.b.2,cI e.k,cB e.low]]=Bj.args i3/\Bj.pre i3/\(∃ i4:Edg,[DA.agg [cI f.a.1,cI f.a.2,cI f.b.1,cI f.b.2,cI f.k,cB f.low]]=Bj.args i4/\Bj.pre i4/\(∃ i5:Fr×Fr,[dF (slp i3),dF (slp i4)]=B7.args i5/\B7.pre i5/\(∃ i6:Int,[DA.one (cI (0:Int))]=AU.args i6/\AU.pre i6/\(∃ i7:Edg×Fr,[DA.agg [cI f.a.1,cI f.a.2,cI f.b.1,cI f.b.2,cI f.k,cB f.low],dF (Fr.ofInt i6)]=Ca.args i7/\Ca.pre i7/\(∃ i8:Int,[DA.one (cI (0:Int))]=AU.args i8/\AU.pre i8/\(∃ i9:Edg×Fr,[DA.agg [cI e.a.1,cI e.a.2,cI e.b.1,cI e.b.2,cI e.k,cB e.low],dF (Fr.ofInt i8)]=Ca.args i9/\Ca.pre i9/\(∃ i10:Fr×Fr,[dF (hgt i7.1 i7.2),dF (hgt i9.1 i9.2)]=B7.args i10/\B7.pre i10/\(∃ i11:Fr×Fr,let Z2:=Fr.div i11.1 i11.2;[dF (Fr.sub i10.1 i10.2),dF (Fr.sub i5.1 i5.2)]=Cy.args i11/\Cy.pre i11/\(∃ i12:Fr,[dF Z2]=AW.args i12/\AW.pre i12/\(ifB ((!(!i12.good))) (∃ i13:Edg×Fr×Fr,[DA.agg [cI e.a.1,cI e.a.2,cI e.b.1,cI e.b.2,cI e.k,cB e.low],dF Z2,dF Z2]=Cb.args i13/\Cb.pre i13/\(ifB ((!(!(spn i13.1 i13.2.1 i13.2.2)))) (∃ i14:Edg×Fr×Fr,[DA.agg [cI f.a.1,cI f.a.2,cI f.b.1,cI f.b.2,cI f.k,cB f.low],dF Z2,dF Z2]=Cb.args i14/\Cb.pre i14/\(ifB ((!(spn i14.1 i14.2.1 i14.2.2))) Z1 ((eqD Z2 (Ef e f) ((vB true=vB (FG e f))))))) Z1)) Z1))))))))))))) Z1)) (by kernel_rfl) ?_
 conv=>zeta
 delta ifB vB
 refine ⟨e,by
  rfl,by
  first|trivial|exact hpre.1|exact hpre.2|exact ⟨by omega,by omega⟩|exact ⟨⟨by omega,by omega⟩,by omega,by omega⟩,?_⟩
 refine And.symm ⟨λ c4=>?_,λ c4=>?_⟩
 ·try simp only [nrm] at c4
  rw [hpre.1] at c4;cases c4 -- done
 try simp only [nrm] at c4
 refine ⟨f,by
  rfl,by
  first|trivial|exact hpre.1|exact hpre.2|exact ⟨by omega,by omega⟩|exact ⟨⟨by omega,by omega⟩,by omega,by omega⟩,?_⟩
 refine ⟨λ c8=>?_,λ c8=>?_⟩
 ·try simp only [nrm] at c8
  rw [hpre.2] at c8;cases c8 -- done
 try simp only [nrm] at c8
 refine ⟨e,by
  rfl,by
  show e.ok=true
  first|trivial|exact hpre.1|exact hpre.2|exact ⟨by omega,by omega⟩|exact ⟨⟨by omega,by omega⟩,by omega,by omega⟩,?_⟩
 refine ⟨f,by
  rfl,by
  show f.ok=true
  first|trivial|exact hpre.1|exact hpre.2|exact ⟨by omega,by omega⟩|exact ⟨⟨by omega,by omega⟩,by omega,by omega⟩,?_⟩
 refine ⟨((slp e),(slp f)),by
  rfl,by
  first|trivial|exact hpre.1|exact hpre.2|exact ⟨by omega,by omega⟩|exact ⟨⟨by omega,by omega⟩,by omega,by omega⟩,?_⟩
 refine ⟨(0:Int),by
  rfl,by
  show -9223372036854775808<=(0:Int)/\(0:Int)<=9223372036854775807
  first|trivial|exact hpre.1|exact hpre.2|exact ⟨by omega,by omega⟩|exact ⟨⟨by omega,by omega⟩,by omega,by omega⟩,?_⟩
 refine ⟨(f,(Fr.ofInt (0:Int))),by
  rfl,by
  show f.ok=true
  first|trivial|exact hpre.1|exact hpre.2|exact ⟨by omega,by omega⟩|exact ⟨⟨by omega,by omega⟩,by omega,by omega⟩,?_⟩
 refine ⟨(0:Int),by
  rfl,by
  show -9223372036854775808<=(0:Int)/\(0:Int)<=9223372036854775807
  first|trivial|exact hpre.1|exact hpre.2|exact ⟨by omega,by omega⟩|exact ⟨⟨by omega,by omega⟩,by omega,by omega⟩,?_⟩
 refine ⟨(e,(Fr.ofInt (0:Int))),by
  rfl,by
  show e.ok=true
  first|trivial|exact hpre.1|exact hpre.2|exact ⟨by omega,by omega⟩|exact ⟨⟨by omega,by omega⟩,by omega,by omega⟩,?_⟩
 refine ⟨((hgt f (Fr.ofInt (0:Int))),(hgt e (Fr.ofInt (0:Int)))),by
  rfl,by
  first|trivial|exact hpre.1|exact hpre.2|exact ⟨by omega,by omega⟩|exact ⟨⟨by omega,by omega⟩,by omega,by omega⟩,?_⟩
 refine ⟨((Fr.sub (hgt f (Fr.ofInt (0:Int))) (hgt e (Fr.ofInt (0:Int)))),(Fr.sub (slp e) (slp f))),by
  rfl,by
  first|trivial|exact hpre.1|exact hpre.2|exact ⟨by omega,by omega⟩|exact ⟨⟨by omega,by omega⟩,by omega,by omega⟩,?_⟩
 refine ⟨I3 e f,by
  rfl,by
  first|trivial|exact hpre.1|exact hpre.2|exact ⟨by omega,by omega⟩|exact ⟨⟨by omega,by omega⟩,by omega,by omega⟩,?_⟩
 refine And.symm ⟨λ c43=>?_,λ c43=>?_⟩
 ·try simp only [nrm] at c43
  have hB:FG e f=false:=by unfold FG;simp_all
  refine IQ ?_ ?_
  ·first|exact E4 hB|exact (DK hB).symm|(rw [hB];done)
  first|exact E4 hB|exact (DK hB).symm|(rw [hB];done)
 try simp only [nrm] at c43
 refine ⟨(e,I3 e f,I3 e f),by
  rfl,by
  show e.ok=true
  first|trivial|exact hpre.1|exact hpre.2|exact ⟨by omega,by omega⟩|exact ⟨⟨by omega,by omega⟩,by omega,by omega⟩,?_⟩
 refine And.symm ⟨λ c47=>?_,λ c47=>?_⟩
 ·try simp only [nrm] at c47
  have hB:FG e f=false:=by unfold FG;simp_all
  refine IQ ?_ ?_
  ·first|exact E4 hB|exact (DK hB).symm|(rw [hB];done)
  first|exact E4 hB|exact (DK hB).symm|(rw [hB];done)
 try simp only [nrm] at c47
 refine ⟨(f,I3 e f,I3 e f),by
  rfl,by
  show f.ok=true
  first|trivial|exact hpre.1|exact hpre.2|exact ⟨by omega,by omega⟩|exact ⟨⟨by omega,by omega⟩,by omega,by omega⟩,?_⟩
 refine ⟨λ c51=>?_,λ c51=>?_⟩
 ·try simp only [nrm] at c51
  have hB:FG e f=false:=by unfold FG;simp_all
  refine IQ ?_ ?_
  ·first|exact E4 hB|exact (DK hB).symm|(rw [hB];done)
  first|exact E4 hB|exact (DK hB).symm|(rw [hB];done)
 try simp only [nrm] at c51
 have hB:FG e f=true:=by unfold FG;simp_all
 refine Xu ?_ ?_
 ·show Fr.div (Fr.sub (hgt f (Fr.ofInt (0:Int))) (hgt e (Fr.ofInt (0:Int)))) (Fr.sub (slp e) (slp f))=Ef e f
  first|exact E4 hB|exact (DK hB).symm|(rw [hB];done)
 first|exact E4 hB|exact (DK hB).symm|(rw [hB];done)
def CC:Con:={ ι:=Edg×Int,pre:=λ i=>i.1.ok=true/\(-9223372036854775808<=i.2/\i.2<=9223372036854775807),args:=λ i=>[DA.agg [cI i.1.a.1,cI i.1.a.2,cI i.1.b.1,cI i.1.b.2,cI i.1.k,cB i.1.low],.one (cI i.2)],res:=λ i=>⟨true,[some 3,none],[rcB (decide ((As i.1 i.2).z<0)),.own 3 [.int] (L (As i.1 i.2).z.natAbs),.own 3 [.int] (L (As i.1 i.2).d),rcB (CL i.1 i.2)]⟩ }
theorem Zt:CC.Ok Tryz.prog 103:=by
 refine fok (X:=⟨tt,[(141,B9),(40,Bq),(46,AU),(143,Bj),(144,Cy),(63,BO),(91,AW),(146,Cb)],[],51,[]⟩) mixed AQ (CTok.cons OT (CTok.cons Jy (CTok.cons EJ (CTok.cons Mb (CTok.cons OP (CTok.cons Hi (CTok.cons EI (CTok.cons RL (CTok.nil _))))))))) Tryz.func103 (λ _=>[]) ?_
 rintro ⟨e,y⟩ hpre
 have hpre:e.ok=true/\(-9223372036854775808<=y/\y<=9223372036854775807):=hpre
 refine AP (q:=let Z1:=(eqM (As e y) ((vB false=vB (CL e y))));∃ i1:Edg,[DA.agg [cI e.a.1,cI e.a.2,cI e.b.1,cI e.b.2,cI e.k,cB e.low]]=B9.args i1/\B9.pre i1/\(ifB ((!(!i1.ok))) (ifB ((!(e.a.2 == e.b.2))) (∃ i2:Int×Int×Int,[DA.one (cI y),DA.one (cI (-1000:Int)),DA.one (cI (1000:Int))]=Bq.args i2/\Bq.pre i2/\(ifB ((!(decide (i2.1≥i2.2.1) && decide (i2.1<=i2.2.2)))) Z1 (∃ i3:Int,[DA.one (cI e.a.1)]=AU.args i3/\AU.pre i3/\(∃ i4:Int,[DA.one (cI (wR (y-e.a.2)))]=AU.args i4/\AU.pre i4/\(∃ i5:Edg,[DA.agg [cI e.a.1,cI e.a.2,cI e.b.1,cI e.b.2,cI e.k,cB e.low]]=Bj.args i5/\Bj.pre i5/\(∃ i6:Fr×Fr,[dF (Fr.ofInt i4),dF (slp i5)]=Cy.args i6/\Cy.pre i6/\(∃ i7:Fr×Fr,let Z2:=Fr.add i7.1 i7.2;[dF (Fr.ofInt i3),dF (Fr.div i6.1 i6.2)]=BO.args i7/\BO.pre i7/\(∃ i8:Fr,[dF Z2]=AW.args i8/\AW.pre i8/\(ifB ((!(!i8.good))) (∃ i9:Edg×Fr×Fr,[DA.agg [cI e.a.1,cI e.a.2,cI e.b.1,cI e.b.2,cI e.k,cB e.low],dF Z2,dF Z2]=Cb.args i9/\Cb.pre i9/\(ifB ((!(spn i9.1 i9.2.1 i9.2.2))) Z1 ((eqD Z2 (As e y) ((vB true=vB (CL e y))))))) Z1))))))))) Z1) Z1)) (by kernel_rfl) ?_
 conv=>zeta
 delta ifB vB wR
 have hb:=Edg.bd hpre.1
 refine ⟨e,by
  first|rfl|(rw [hw3];rfl),by
  first|trivial|exact hpre.1|exact hpre.2|exact ⟨by omega,by omega⟩|exact ⟨⟨by omega,by omega⟩,by omega,by omega⟩,?_⟩
 refine And.symm ⟨λ c4=>?_,λ c4=>?_⟩
 ·try simp only [nrm] at c4
  rw [hpre.1] at c4;cases c4 -- done
 try simp only [nrm] at c4
 refine And.symm ⟨λ c5=>?_,λ c5=>?_⟩
 ·try simp only [nrm] at c5
  have hB:CL e y=false:=by unfold CL;simp_all
  refine IQ ?_ ?_
  ·first|exact Dl hB|exact (CR hB).symm|(rw [hB];done)
  first|exact Dl hB|exact (CR hB).symm|(rw [hB];done)
 try simp only [nrm] at c5
 refine ⟨(y,(-1000:Int),(1000:Int)),by
  first|rfl|(rw [hw3];rfl),by
  first|trivial|exact hpre.1|exact hpre.2|exact ⟨by omega,by omega⟩|exact ⟨⟨by omega,by omega⟩,by omega,by omega⟩,?_⟩
 refine ⟨λ c9=>?_,λ c9=>?_⟩
 ·try simp only [nrm] at c9
  have hB:CL e y=false:=by
   have e0:(decide (y≥-1000) && decide (y<=1000))=false:=by simp;omega
   unfold CL;rw [e0];simp
  refine IQ ?_ ?_
  ·first|exact Dl hB|exact (CR hB).symm|(rw [hB];done)
  first|exact Dl hB|exact (CR hB).symm|(rw [hB];done)
 try simp only [nrm] at c9
 have hw3:IntKind.i64.wrap (y-e.a.2)=y-e.a.2:=AC (by omega) (by omega)
 refine ⟨e.a.1,by
  first|rfl|(rw [hw3];rfl),by
  show -9223372036854775808<=e.a.1/\e.a.1<=9223372036854775807
  first|trivial|exact hpre.1|exact hpre.2|exact ⟨by omega,by omega⟩|exact ⟨⟨by omega,by omega⟩,by omega,by omega⟩,?_⟩
 refine ⟨y-e.a.2,by
  first|rfl|(rw [hw3];rfl),by
  show -9223372036854775808<=(y-e.a.2)/\(y-e.a.2)<=9223372036854775807
  first|trivial|exact hpre.1|exact hpre.2|exact ⟨by omega,by omega⟩|exact ⟨⟨by omega,by omega⟩,by omega,by omega⟩,?_⟩
 refine ⟨e,by
  first|rfl|(rw [hw3];rfl),by
  show e.ok=true
  first|trivial|exact hpre.1|exact hpre.2|exact ⟨by omega,by omega⟩|exact ⟨⟨by omega,by omega⟩,by omega,by omega⟩,?_⟩
 refine ⟨((Fr.ofInt (y-e.a.2)),(slp e)),by
  first|rfl|(rw [hw3];rfl),by
  first|trivial|exact hpre.1|exact hpre.2|exact ⟨by omega,by omega⟩|exact ⟨⟨by omega,by omega⟩,by omega,by omega⟩,?_⟩
 refine ⟨((Fr.ofInt e.a.1),(Fr.div (Fr.ofInt (y-e.a.2)) (slp e))),by
  first|rfl|(rw [hw3];rfl),by
  first|trivial|exact hpre.1|exact hpre.2|exact ⟨by omega,by omega⟩|exact ⟨⟨by omega,by omega⟩,by omega,by omega⟩,?_⟩
 refine ⟨RJ e y,by
  first|rfl|(rw [hw3];rfl),by
  first|trivial|exact hpre.1|exact hpre.2|exact ⟨by omega,by omega⟩|exact ⟨⟨by omega,by omega⟩,by omega,by omega⟩,?_⟩
 refine And.symm ⟨λ c32=>?_,λ c32=>?_⟩
 ·try simp only [nrm] at c32
  have hB:CL e y=false:=by unfold CL;simp_all
  refine IQ ?_ ?_
  ·first|exact Dl hB|exact (CR hB).symm|(rw [hB];done)
  first|exact Dl hB|exact (CR hB).symm|(rw [hB];done)
 try simp only [nrm] at c32
 refine ⟨(e,RJ e y,RJ e y),by
  first|rfl|(rw [hw3];rfl),by
  show e.ok=true
  first|trivial|exact hpre.1|exact hpre.2|exact ⟨by omega,by omega⟩|exact ⟨⟨by omega,by omega⟩,by omega,by omega⟩,?_⟩
 refine ⟨λ c36=>?_,λ c36=>?_⟩
 ·try simp only [nrm] at c36
  have hB:CL e y=false:=by unfold CL;simp_all
  refine IQ ?_ ?_
  ·first|exact Dl hB|exact (CR hB).symm|(rw [hB];done)
  first|exact Dl hB|exact (CR hB).symm|(rw [hB];done)
 try simp only [nrm] at c36
 have hB:CL e y=true:=by unfold CL;simp_all
 refine Xu ?_ ?_
 ·show Fr.add (Fr.ofInt e.a.1) (Fr.div (Fr.ofInt (y-e.a.2)) (slp e))=As e y
  first|exact Dl hB|exact (CR hB).symm|(rw [hB];done)
 first|exact Dl hB|exact (CR hB).symm|(rw [hB];done)
def Zu (e:Edg):List Dat:=[.int e.a.1,.int e.a.2,.int e.b.1,.int e.b.2,.int e.k,.bool e.low]
def A5 (l:List Edg):List (List Dat):=l.map Zu
theorem AL (l:List Edg):(A5 l).length=l.length:=List.length_map ..
theorem Hk (a b:List Edg):A5 (a++b)=A5 a++A5 b:=List.map_append ..
def Ku (a b:V2) (k:Int):List Edg:=if a.1<b.1 then [⟨a,b,k,true⟩] else if b.1<a.1 then [⟨b,a,k,false⟩] else []
def Cd (l:List V2) (k:Int):Nat->List Edg
 | 0=>[]
 | i+1=>Cd l k i++Ku (l.getD i (0,0)) (l.getD ((i+1)%l.length) (0,0)) k
def FH (l:List V2) (k:Int):List Edg:=Cd l k l.length
def DL (ls:List (List V2)):Nat->List Edg
 | 0=>[]
 | i+1=>DL ls i++FH (ls.getD i []) (i:Int)
theorem Zv {l:List V2} {k:Int} {i:Nat} (h:(l.getD i (0,0)).1<(l.getD ((i+1)%l.length) (0,0)).1):A5 (Cd l k i)++[Zu ⟨l.getD i (0,0),l.getD ((i+1)%l.length) (0,0),k,true⟩]=A5 (Cd l k (i+1)):=by
 rw [Cd,Hk,Ku,if_pos h];rfl
theorem Zw {l:List V2} {k:Int} {i:Nat} (h:(l.getD ((i+1)%l.length) (0,0)).1<(l.getD i (0,0)).1):A5 (Cd l k i)++[Zu ⟨l.getD ((i+1)%l.length) (0,0),l.getD i (0,0),k,false⟩]=A5 (Cd l k (i+1)):=by
 rw [Cd,Hk,Ku,if_neg (by omega),if_pos h];rfl
theorem Zx {l:List V2} {k:Int} {i:Nat} (h1:¬ (l.getD i (0,0)).1<(l.getD ((i+1)%l.length) (0,0)).1) (h2:¬ (l.getD ((i+1)%l.length) (0,0)).1<(l.getD i (0,0)).1):A5 (Cd l k i)=A5 (Cd l k (i+1)):=by
 rw [Cd,Ku,if_neg h1,if_neg h2,List.append_nil]
theorem X0 {a b:V2} {k:Int} (ha:AE a=true) (hb:AE b=true):∀ e ∈ Ku a b k,e.ok=true:=by
 intro e he
 unfold Ku at he
 split at he
 ·rename_i h
  obtain rfl:=List.mem_singleton.1 he
  unfold Edg.ok;simp [ha,hb,h]
 ·split at he
  ·rename_i h
   obtain rfl:=List.mem_singleton.1 he
   unfold Edg.ok;simp [ha,hb,h]
  ·cases he
theorem Vs (a b:V2) (k:Int):(Ku a b k).length<=1:=by unfold Ku;split <;> (try split) <;> simp
theorem RM {l:List V2} {k:Int} (h:l.all AE=true):∀ i,i<=l.length->∀ e ∈ Cd l k i,e.ok=true
 | 0,_=>λ e he=>by cases he
 | i+1,hi=>λ e he=>by
  rcases List.mem_append.1 he with h1|h1
  ·exact RM h i (by omega) e h1
  ·exact X0 (A7 h (by omega)) (A7 h (Nat.mod_lt _ (by omega))) e h1
theorem Fa (l:List V2) (k:Int):∀ i,(Cd l k i).length<=i
 | 0=>Nat.le_refl _
 | i+1=>by
  have h1:=Fa l k i
  have h2:=Vs (l.getD i (0,0)) (l.getD ((i+1)%l.length) (0,0)) k
  simp only [Cd,List.length_append];omega
theorem Vt (l:List V2) (k:Int) (i:Nat):(A5 (Cd l k i)).length<=i:=by rw [AL];exact Fa l k i
def BU (ls:List (List V2)):Bool:=ls.all AK
theorem Fb {ls:List (List V2)} (h:BU ls=true) {i:Nat} (hi:i<ls.length):AK (ls.getD i [])=true:=List.all_eq_true.1 h _ (by simp [List.getD,hi])
theorem CG {l:List V2} (h:AK l=true):l.all AE=true/\3<=l.length/\l.length<=16:=by
 simp only [AK,Bool.and_eq_true] at h
 have h1:=h.1.1
 unfold inR at h1
 simp only [Bool.and_eq_true,decide_eq_true_eq] at h1
 exact ⟨h.1.2,by omega,by omega⟩
theorem KB {ls:List (List V2)} (h:BU ls=true):∀ i,i<=ls.length->∀ e ∈ DL ls i,e.ok=true
 | 0,_=>λ e he=>by cases he
 | i+1,hi=>λ e he=>by
  rcases List.mem_append.1 he with h1|h1
  ·exact KB h i (by omega) e h1
  ·exact RM (CG (Fb h (by omega))).1 _ (Nat.le_refl _) e h1
theorem Mc {ls:List (List V2)} (h:BU ls=true):∀ i,i<=ls.length->(DL ls i).length<=16*i
 | 0,_=>Nat.le_refl _
 | i+1,hi=>by
  have h1:=Mc h i (by omega)
  have h2:=Fa (ls.getD i []) (i:Int) (ls.getD i []).length
  have h3:=(CG (Fb h (show i<ls.length by omega))).2.2
  simp only [DL,FH,List.length_append];omega
def I6 (ls:List (List V2)):Nat->Nat
 | 0=>0
 | k+1=>I6 ls k+(ls.getD k []).length
theorem Ud (ls:List (List V2)):∀ j k,I6 ls j<=I6 ls (j+k)
 | j,0=>Nat.le_refl _
 | j,k+1=>Nat.le_trans (Ud ls j k) (Nat.le_add_right _ _)
theorem Md (ls:List (List V2)):∀ k,(DL ls k).length<=I6 ls k
 | 0=>Nat.le_refl _
 | k+1=>by
  have h1:=Md ls k
  have h2:=Fa (ls.getD k []) (k:Int) (ls.getD k []).length
  simp only [DL,FH,List.length_append,I6];omega
def edA (ls:List (List V2)):List Edg:=DL ls ls.length
def noE:Edg:=⟨(0,0),(0,0),0,false⟩
theorem X1 {ls:List (List V2)} (h:BU ls=true) {i:Nat} (hi:i<(edA ls).length):((edA ls).getD i noE).ok=true:=
 KB h _ (Nat.le_refl _) _ (by simp [List.getD,hi];exact List.getElem_mem _)
theorem Eg {es:List Edg} {i:Nat} (hi:i<es.length):(A5 es).getD i []=Zu (es.getD i noE):=by simp [A5,List.getD,hi]
theorem Ae (es:List Edg) (i:Nat):(A5 es).take i=A5 (es.take i):=by unfold A5;rw [List.map_take]
theorem Zy {es:List Edg} {i n:Nat} (hn:n<i):(es.take i).getD n noE=es.getD n noE:=by simp [List.getD,List.getElem?_take,hn]
def F8:Con:={ ι:=(List V2)×Int,pre:=λ i=>AK i.1=true,args:=λ i=>[.one (DC.sl 24 [.int,.int] (AA i.1)),.one (cI i.2)],res:=λ i=>⟨false,[none],[.own 118 [.int,.int,.int,.int,.int,.bool] (A5 (FH i.1 i.2))]⟩ }
theorem Vu:F8.Ok Tryz.prog 140:=by
 refine fok (X:=⟨tt,[],[],53,[]⟩) mixed AQ (CTok.nil _) Tryz.func140 (λ (i:(List V2)×Int)=>[(3,.mk 3 (Nat) (λ x1=>{ tm:=[(0,tX 1),(1,tI i.2),(10,tX 1),(11,tI (nI ((AA i.1).length))),(12,tI (nI x1)),(5,tX 2)],en:=[(1,.view 24 [.int,.int] (AA i.1) []),(2,.own 118 XW (A5 (Cd i.1 i.2 x1)))] }) (λ x1=>x1<=i.1.length) (λ x1=>i.1.length-x1) (λ _=>[]))]) ?_
 rintro ⟨l,k⟩ hpre
 have hpre:AK l=true:=hpre
 refine AP (q:=let Z11:=((AA l).length:Int);let Z10:=List Dat;let Z3:=nI ((AA l).length);(∃ x1:Nat,(x1<=l.length)/\((rf (vI k))/\(rf (vI Z3))/\(vI (0:Int)=vI (nI x1))/\(rf (AA l))/\(([]:List Z10)=(A5 (Cd l k x1)))))/\∀ x1:Nat,let Z6:=A5 (Cd l k x1);let Z5:=((((AA l).getD x1 []).getD 1 (.int 0))).n;let Z4:=wR ((nI x1)+(1:Int));let Z9:=Int.tmod Z4 Z3;let Z2:=(((AA l).getD x1 []).getD 0 (.int 0));let Z1:=(AA l).getD (Z9.toNat) [];let Z8:=((Z1.getD 1 (.int 0))).n;let Z7:=(Z1.getD 0 (.int 0));(x1<=l.length)->(ifB ((decide ((nI x1)<Z3))) ((0<=(nI x1)/\(nI x1)<Z11)/\((x1<(AA l).length)/\((Z3≠0)/\((0<=Z9/\Z9<Z11)/\((Z9.toNat<(AA l).length)/\(ifB ((decide (Z2.n<Z7.n))) ((Z6.length+([[Dat.int (Z2.n),Dat.int Z5,Dat.int (Z7.n),Dat.int Z8,Dat.int k,Dat.bool true]]:List Z10).length<=2199023255552)/\(∃ y2:Nat,(y2<=l.length)/\(l.length-y2<l.length-x1)/\((rf (vI k))/\(rf (vI Z3))/\(vI Z4=vI (nI y2))/\(rf (AA l))/\((Z6++([[Dat.int (Z2.n),Dat.int Z5,Dat.int (Z7.n),Dat.int Z8,Dat.int k,Dat.bool true]]:List Z10))=(A5 (Cd l k y2)))))) (ifB ((decide (Z2.n>Z7.n))) ((Z6.length+([[Dat.int (Z7.n),Dat.int Z8,Dat.int (Z2.n),Dat.int Z5,Dat.int k,Dat.bool false]]:List Z10).length<=2199023255552)/\(∃ y3:Nat,(y3<=l.length)/\(l.length-y3<l.length-x1)/\((rf (vI k))/\(rf (vI Z3))/\(vI Z4=vI (nI y3))/\(rf (AA l))/\((Z6++([[Dat.int (Z7.n),Dat.int Z8,Dat.int (Z2.n),Dat.int Z5,Dat.int k,Dat.bool false]]:List Z10))=(A5 (Cd l k y3)))))) (∃ y4:Nat,(y4<=l.length)/\(l.length-y4<l.length-x1)/\((rf (vI k))/\(rf (vI Z3))/\(vI Z4=vI (nI y4))/\(rf (AA l))/\(Z6=(A5 (Cd l k y4)))))))))))) ((Z6=A5 (FH l k))))) (by kernel_rfl) ?_
 conv=>zeta
 delta ifB vI wR nI
 have hV:=(CG hpre).1
 have h3:=(CG hpre).2.1
 have h16:=(CG hpre).2.2
 have hvl:=AB l
 refine ⟨⟨0,by
  first|trivial|omega|(simp;omega),?_⟩,?_⟩
 ·refine ⟨rfl,rfl,?_,rfl,?_⟩
  ·first|rfl|(simp;done)
  first|rfl|(simp;done)
 intro (i:Nat) hki1
 have hki1:i<=l.length:=hki1
 refine And.symm ⟨λ c8=>?_,λ c8=>?_⟩
 ·try simp only [nrm] at c8
  have hE:i=l.length:=by omega
  rw [hE];rfl
 try simp only [nrm] at c8
 have hil:i<l.length:=by omega
 have m2:(i+1)%l.length<l.length:=(Ma hil (by omega)).2.1
 have m1:(Int.tmod (IntKind.i64.wrap (((i:Nat):Int)+(1:Int))) (((AA l).length:Nat):Int)).toNat=(i+1)%l.length:=by rw [hvl];exact (Ma hil (by omega)).1
 have m3:Int.tmod (IntKind.i64.wrap (((i:Nat):Int)+(1:Int))) (((AA l).length:Nat):Int)=(((i+1)%l.length:Nat):Int):=by rw [hvl];exact (Ma hil (by omega)).2.2
 have hel:=Vt l k i
 
 refine ao (by first|omega|(rw [m3];omega)|(rw [m1];omega)|(simp only [List.length_append,List.length_cons,List.length_nil];omega)) λ o9=>?_
 refine ao (by first|omega|(rw [m3];omega)|(rw [m1];omega)|(simp only [List.length_append,List.length_cons,List.length_nil];omega)) λ o10=>?_
 refine ao (by first|omega|(rw [m3];omega)|(rw [m1];omega)|(simp only [List.length_append,List.length_cons,List.length_nil];omega)) λ o11=>?_
 refine ao (by first|omega|(rw [m3];omega)|(rw [m1];omega)|(simp only [List.length_append,List.length_cons,List.length_nil];omega)) λ o12=>?_
 refine ao (by first|omega|(rw [m3];omega)|(rw [m1];omega)|(simp only [List.length_append,List.length_cons,List.length_nil];omega)) λ o13=>?_
 refine ⟨λ c14=>?_,λ c14=>?_⟩
 ·try dsimp only at c14
  try simp only [nrm] at c14
  rw [m1,Aj hil,Aj m2] at c14
  refine ao (by first|omega|(rw [m3];omega)|(rw [m1];omega)|(simp only [List.length_append,List.length_cons,List.length_nil];omega)) λ o15=>?_
  refine ⟨i+1,by
   first|trivial|omega|(simp;omega),by
   first|omega|(simp;omega),?_⟩
  refine ⟨rfl,rfl,?_,rfl,?_⟩
  ·first|rfl|exact AS (AC (by omega) (by omega))
  rw [m1,Aj hil,Aw hil,Aj m2,Aw m2];exact Zv c14
 try dsimp only at c14
 try simp only [nrm] at c14
 rw [m1,Aj hil,Aj m2] at c14
 refine And.symm ⟨λ c24=>?_,λ c24=>?_⟩
 ·try dsimp only at c24
  try simp only [nrm] at c24
  rw [m1,Aj hil,Aj m2] at c24
  refine ⟨i+1,by
   first|trivial|omega|(simp;omega),by
   first|omega|(simp;omega),?_⟩
  refine ⟨rfl,rfl,?_,rfl,?_⟩
  ·first|rfl|exact AS (AC (by omega) (by omega))
  exact Zx (by omega) (by omega)
 try dsimp only at c24
 try simp only [nrm] at c24
 rw [m1,Aj hil,Aj m2] at c24
 refine ao (by first|omega|(rw [m3];omega)|(rw [m1];omega)|(simp only [List.length_append,List.length_cons,List.length_nil];omega)) λ o25=>?_
 refine ⟨i+1,by
  first|trivial|omega|(simp;omega),by
  first|omega|(simp;omega),?_⟩
 refine ⟨rfl,rfl,?_,rfl,?_⟩
 ·first|rfl|exact AS (AC (by omega) (by omega))
 rw [m1,Aj hil,Aw hil,Aj m2,Aw m2];exact Zw c24
def E5:Con:={ ι:=(List V2),pre:=λ i=>True,args:=λ i=>[.one (DC.sl 24 [.int,.int] (AA i))],res:=λ i=>⟨false,[none],[rcB (!(AK i))]⟩ }
theorem TL:E5.Ok Tryz.prog 98:=by
 refine fok (X:=⟨tt,[(10,BR)],[],6,[]⟩) mixed AQ (CTok.cons MZ (CTok.nil _)) Tryz.func98 (λ _=>[]) ?_
 intro (l:List V2) hpre
 have hpre:True:=hpre
 refine AP (q:=∃ i1:(List V2),[DA.one (DC.sl 24 [.int,.int] (AA l))]=BR.args i1/\BR.pre i1/\((vB (!(AK i1))=vB (!(AK l))))) (by kernel_rfl) ?_
 delta vB
 refine ⟨l,by
  rfl,by
  first|trivial|(first|omega|assumption|exact hpre.1|exact hpre.2|(simp;done)),?_⟩
 exact rfl
def F9:Con:={ ι:=(List (List V2)),pre:=λ i=>i.length<=9223372036854775807,args:=λ i=>[.one (DC.sl 25 [.sl 24 [.int,.int]] (AM i)),.one (.ro (.fn 98 []))],tag:=99,res:=λ i=>⟨false,[none],[rcI (Gx (λ z=>!(AK z)) i)]⟩ }
theorem Vv:F9.Ok Tryz.prog 129:=by
 refine fok (X:=⟨tt,[(98,E5)],[],19,[]⟩) mixed AQ (CTok.cons TL (CTok.nil _)) Tryz.func129 (λ (i:(List (List V2)))=>[(2,.mk 3 (Nat) (λ x1=>{ tm:=[(0,tX 1),(1,tX 2),(7,tI (nI ((AM i).length))),(8,tI (nI x1))],en:=[(1,.view 25 [.sl 24 [.int,.int]] (AM i) []),(2,.ro (.fn 98 []) [])] }) (λ x1=>x1<=i.length/\∀ j,j<x1->(λ z=>!(AK z)) (i.getD j [])=false) (λ x1=>i.length-x1) (λ _=>[]))]) ?_
 intro (l:List (List V2)) hpre
 have hpre:l.length<=9223372036854775807:=hpre
 refine AP (q:=let Z3:=(.fn 98 []:RO)=.fn 98 [];let Z2:=Gx (λ z=>!(AK z)) l;let Z1:=AM l;let Z4:=nI (Z1.length);(∃ x1:Nat,(x1<=l.length/\∀ j,j<x1->(λ z=>!(AK z)) (l.getD j [])=false)/\((rf (vI Z4))/\(vI (0:Int)=vI (nI x1))/\(rf Z1)/\Z3))/\∀ x1:Nat,(x1<=l.length/\∀ j,j<x1->(λ z=>!(AK z)) (l.getD j [])=false)->(ifB ((decide ((nI x1)<Z4))) ((0<=(nI x1)/\(nI x1)<(Z1.length:Int))/\((x1<Z1.length)/\(∃ i1:(List V2),[DA.one (DC.sl 24 [.int,.int] ((((Z1.getD x1 []).getD 0 (.int 0))).r))]=E5.args i1/\E5.pre i1/\(ifB ((!(AK i1))) ((vI (nI x1)=vI Z2)) (∃ y2:Nat,(y2<=l.length/\∀ j,j<y2->(λ z=>!(AK z)) (l.getD j [])=false)/\(l.length-y2<l.length-x1)/\((rf (vI Z4))/\(vI (wR ((nI x1)+(1:Int)))=vI (nI y2))/\(rf Z1)/\Z3)))))) ((vI (-1:Int)=vI Z2)))) (by kernel_rfl) ?_
 conv=>zeta
 delta ifB vI wR nI
 have hal:=Ao l
 refine ⟨⟨0,by
  exact ⟨Nat.zero_le _,λ j hj=>absurd hj (Nat.not_lt_zero j)⟩,?_⟩,?_⟩
 ·refine ⟨rfl,?_,rfl,?_⟩
  ·first|rfl|(simp;done)
  first|rfl|(simp;done)
 intro (k:Nat) hki1
 have hki1:k<=l.length/\∀ j,j<k->(λ z=>!(AK z)) (l.getD j [])=false:=hki1
 refine And.symm ⟨λ c7=>?_,λ c7=>?_⟩
 ·try simp only [nrm] at c7
  rw [J9 (d:=[]) (λ j hj=>hki1.2 j (by omega))]
 try simp only [nrm] at c7
 refine ao (by first|omega) λ o8=>?_
 refine ao (by first|omega) λ o9=>?_
 refine ⟨(l.getD k []),by
  rw [Aa (by omega)];rfl,by
  first|trivial|(first|omega|assumption|exact hpre.1|exact hpre.2|(simp;done)),?_⟩
 refine ⟨λ c13=>?_,λ c13=>?_⟩
 ·try simp only [nrm] at c13
  rw [LU (d:=[]) (by omega) hki1.2 (by show (!(AK (l.getD k [])))=true;rw [c13];rfl)]
 try simp only [nrm] at c13
 refine ⟨k+1,by
  exact ⟨by omega,UQ hki1.2 (by show (!(AK (l.getD k [])))=false;rw [c13];rfl)⟩,by
  first|omega|(simp;omega),?_⟩
 refine ⟨rfl,?_,rfl,?_⟩
 ·first|rfl|exact AS (AC (by omega) (by omega))
 first|rfl|exact AS (AC (by omega) (by omega))
def GA:Con:={ ι:=(List (List V2)),pre:=λ i=>i.length<=9223372036854775807,args:=λ i=>[.one (DC.sl 25 [.sl 24 [.int,.int]] (AM i)),.one (.ro (.fn 98 []))],tag:=99,res:=λ i=>⟨false,[none],[rcB (i.any (λ z=>!(AK z)))]⟩ }
theorem Vw:GA.Ok Tryz.prog 77:=by
 refine fok (X:=⟨tt,[(129,F9)],[],9,[]⟩) mixed AQ (CTok.cons Vv (CTok.nil _)) Tryz.func77 (λ _=>[]) ?_
 intro (l:List (List V2)) hpre
 have hpre:l.length<=9223372036854775807:=hpre
 refine AP (q:=∃ i1:(List (List V2)),[DA.one (DC.sl 25 [.sl 24 [.int,.int]] (AM l)),DA.one (DC.ro (.fn 98 []))]=F9.args i1/\F9.pre i1/\((vB (decide ((Gx (λ z=>!(AK z)) i1)≥(0:Int)))=vB (l.any (λ z=>!(AK z)))))) (by kernel_rfl) ?_
 delta vB
 refine ⟨l,by
  rfl,by
  exact hpre,?_⟩
 exact congrArg Value.bool (Xz _ _)
def CS:Con:={ ι:=(List (List V2)),pre:=λ i=>i.length<=9223372036854775807,args:=λ i=>[.one (DC.sl 25 [.sl 24 [.int,.int]] (AM i))],res:=λ i=>⟨false,[none],[rcB (BU i)]⟩ }
theorem Me:CS.Ok Tryz.prog 53:=by
 refine fok (X:=⟨tt,[(77,GA)],[],6,[]⟩) mixed AQ (CTok.cons Vw (CTok.nil _)) Tryz.func53 (λ _=>[]) ?_
 intro (l:List (List V2)) hpre
 have hpre:l.length<=9223372036854775807:=hpre
 refine AP (q:=∃ i1:(List (List V2)),[DA.one (DC.sl 25 [.sl 24 [.int,.int]] (AM l)),DA.one (DC.ro (.fn 98 []))]=GA.args i1/\GA.pre i1/\((vB (!(i1.any (λ z=>!(AK z))))=vB (BU l)))) (by kernel_rfl) ?_
 delta vB
 refine ⟨l,by
  rfl,by
  exact hpre,?_⟩
 exact congrArg Value.bool (by unfold BU;simp [List.not_any_eq_all_not])
def EB:Con:={ ι:=(List (List V2)),pre:=λ i=>BU i=true/\i.length<=1048576,args:=λ i=>[.one (DC.sl 25 [.sl 24 [.int,.int]] (AM i))],res:=λ i=>⟨false,[none],[.own 118 [.int,.int,.int,.int,.int,.bool] (A5 (edA i))]⟩ }
theorem RN:EB.Ok Tryz.prog 101:=by
 refine fok (X:=⟨tt,[(53,CS),(140,F8)],[],24,[]⟩) mixed AQ (CTok.cons Me (CTok.cons Vu (CTok.nil _))) Tryz.func101 (λ (i:(List (List V2)))=>[(5,.mk 3 (Nat) (λ x1=>{ tm:=[(10,tX 1),(11,tI (nI ((AM i).length))),(12,tI (nI x1)),(3,tX 2)],en:=[(1,.view 25 [.sl 24 [.int,.int]] (AM i) []),(2,.own 118 XW (A5 (DL i x1)))] }) (λ x1=>x1<=i.length) (λ x1=>i.length-x1) (λ _=>[]))]) ?_
 intro (l:List (List V2)) hpre
 have hpre:BU l=true/\l.length<=1048576:=hpre
 refine AP (q:=let Z1:=AM l;let Z3:=nI (Z1.length);∃ i1:(List (List V2)),[DA.one (DC.sl 25 [.sl 24 [.int,.int]] Z1)]=CS.args i1/\CS.pre i1/\(ifB ((!(BU i1))) ((([]:List (List Dat))=A5 (edA l))) ((∃ x1:Nat,(x1<=l.length)/\((rf (vI Z3))/\(vI (0:Int)=vI (nI x1))/\(rf Z1)/\(([]:List (List Dat))=(A5 (DL l x1)))))/\∀ x1:Nat,let Z2:=A5 (DL l x1);(x1<=l.length)->(ifB ((decide ((nI x1)<Z3))) ((0<=(nI x1)/\(nI x1)<(Z1.length:Int))/\((x1<Z1.length)/\(∃ i2:(List V2)×Int,[DA.one (DC.sl 24 [.int,.int] ((((Z1.getD x1 []).getD 0 (.int 0))).r)),DA.one (cI (nI x1))]=F8.args i2/\F8.pre i2/\((Z2.length+(A5 (FH i2.1 i2.2)).length<=2199023255552)/\(∃ y2:Nat,(y2<=l.length)/\(l.length-y2<l.length-x1)/\((rf (vI Z3))/\(vI (wR ((nI x1)+(1:Int)))=vI (nI y2))/\(rf Z1)/\((Z2++A5 (FH i2.1 i2.2))=(A5 (DL l y2))))))))) ((Z2=A5 (edA l))))))) (by kernel_rfl) ?_
 conv=>zeta
 delta ifB vI wR nI
 have hal:=Ao l
 refine ⟨l,by
  first|rfl|(rw [Aa (by omega)];rfl),by
  show l.length<=9223372036854775807
  first|omega|exact hP|trivial,?_⟩
 refine ⟨λ c4=>?_,λ c4=>?_⟩
 ·try simp only [nrm] at c4
  rw [hpre.1] at c4;cases c4 -- done
 try simp only [nrm] at c4
 refine ⟨⟨0,by
  first|trivial|omega|(simp;omega),?_⟩,?_⟩
 ·refine ⟨rfl,?_,rfl,?_⟩
  ·first|rfl|(simp;done)
  first|rfl|(simp;done)
 intro (k:Nat) hki6
 have hki6:k<=l.length:=hki6
 refine And.symm ⟨λ c12=>?_,λ c12=>?_⟩
 ·try simp only [nrm] at c12
  have hE:k=l.length:=by omega
  first|contradiction|(rw [hE];rfl)
 try simp only [nrm] at c12
 have hkl:k<l.length:=by omega
 have hP:=Fb hpre.1 hkl
 have h16:=(CG hP).2.2
 have hl1:=Mc hpre.1 k (by omega)
 have hl2:=Fa (l.getD k []) (k:Int) (l.getD k []).length
 rw [show Cd (l.getD k []) (k:Int) (l.getD k []).length=FH (l.getD k []) (k:Int) from rfl] at hl2
 refine ao (by first|omega|(rw [AL,AL];omega)) λ o13=>?_
 refine ao (by first|omega|(rw [AL,AL];omega)) λ o14=>?_
 refine ⟨(l.getD k [],((k:Nat):Int)),by
  first|rfl|(rw [Aa (by omega)];rfl),by
  show AK (l.getD k [])=true
  first|omega|exact hP|trivial,?_⟩
 refine ao (a:=(A5 (DL l k)).length+(A5 (FH (l.getD k []) ((k:Nat):Int))).length<=2199023255552) (by first|omega|(rw [AL,AL];omega)) λ o18=>?_
 refine ⟨k+1,by
  first|trivial|omega|(simp;omega),by
  first|omega|(simp;omega),?_⟩
 refine ⟨rfl,?_,rfl,?_⟩
 ·first|rfl|exact (Hk _ _).symm|exact AS (AC (by omega) (by omega))
 show ((A5 (DL l k))++A5 (FH (l.getD k []) ((k:Nat):Int)))=(A5 (DL l (k+1)))
 first|rfl|exact (Hk _ _).symm|exact AS (AC (by omega) (by omega))
end Go.Proofs.YtkffpiaagjcmpaaGreat
namespace Go.Proofs.YtkffpiaagjcmpaaGreat
set_option linter.unusedVariables false
set_option linter.unusedSimpArgs false
open Go.RowKit
def frD (r:Fr):List Dat:=[.bool (decide (r.z<0)),.sl (L r.z.natAbs),.sl (L r.d)]
def AG (l:List Fr):List (List Dat):=l.map frD
theorem BM (l:List Fr):(AG l).length=l.length:=List.length_map ..
theorem Mf (a b:List Fr):AG (a++b)=AG a++AG b:=List.map_append ..
abbrev Cnd:Type:=Fr×Bool
def cV (v:List V2) (n:Nat):List Cnd:=(v.take n).map λ p=>(Fr.ofInt p.1,true)
def cA (ls:List (List V2)):Nat->List Cnd
 | 0=>[]
 | k+1=>cA ls k++cV (ls.getD k []) (ls.getD k []).length
def cC (es:List Edg) (i n:Nat):List Cnd:=((es.take i).take n).map λ f=>(Ef (es.getD i noE) f,FG (es.getD i noE) f)
def cL (e:Edg) (y:Int):List Cnd:=[(As e y,CL e y)]
def cE (es:List Edg) (ly hy:Int):Nat->List Cnd
 | 0=>[]
 | i+1=>cE es ly hy i++(cC es i i++(cL (es.getD i noE) ly++cL (es.getD i noE) hy))
def evP (lo hi:Fr) (c:Cnd):Bool:=c.2 && (decide (Fr.cmp c.1 lo>0) && decide (Fr.cmp c.1 hi<0))
def evF (lo hi:Fr) (cs:List Cnd):List Fr:=(cs.filter (evP lo hi)).map (·.1)
theorem Ue (lo hi:Fr) (a b:List Cnd):evF lo hi (a++b)=evF lo hi a++evF lo hi b:=by unfold evF;rw [List.filter_append,List.map_append]
theorem Zz {lo hi:Fr} {cs:List Cnd} {x:Fr} {b:Bool} (h:evP lo hi (x,b)=true):AG (evF lo hi cs)++[frD x]=AG (evF lo hi (cs++[(x,b)])):=by
 rw [Ue,Mf];unfold evF;simp [h,AG]
theorem ABb {lo hi:Fr} {cs:List Cnd} {x:Fr} {b:Bool} (h:evP lo hi (x,b)=false):AG (evF lo hi cs)=AG (evF lo hi (cs++[(x,b)])):=by
 rw [Ue];unfold evF;simp [h]
theorem OU {lo hi x:Fr} {b:Bool} (h:b=false):evP lo hi (x,b)=false:=by unfold evP;rw [h];rfl
theorem IS {lo hi x:Fr} {b:Bool} (h:Fr.cmp x lo<=0):evP lo hi (x,b)=false:=by unfold evP;rw [decide_eq_false (show ¬ Fr.cmp (x,b).1 lo>0 by show ¬ Fr.cmp x lo>0;omega)];simp
theorem IT {lo hi x:Fr} {b:Bool} (h:0<=Fr.cmp x hi):evP lo hi (x,b)=false:=by unfold evP;rw [decide_eq_false (show ¬ Fr.cmp (x,b).1 hi<0 by show ¬ Fr.cmp x hi<0;omega)];simp
theorem Mg {lo hi x:Fr} {b:Bool} (hb:b=true) (h1:0<Fr.cmp x lo) (h2:Fr.cmp x hi<0):evP lo hi (x,b)=true:=by unfold evP;simp [hb,h1,h2]
theorem KC {lo hi:Fr} {cs cs' : List Cnd} {x:Fr} {b:Bool} (e:cs'=cs++[(x,b)]) (h:evP lo hi (x,b)=true):AG (evF lo hi cs)++[frD x]=AG (evF lo hi cs'):=by rw [e,Zz h]
theorem I7 {lo hi:Fr} {cs cs' : List Cnd} {x:Fr} {b:Bool} (e:cs'=cs++[(x,b)]) (h:evP lo hi (x,b)=false):AG (evF lo hi cs)=AG (evF lo hi cs'):=by rw [e,ABb h]
theorem PP {v:List V2} {n:Nat} (h:n<v.length) (A:List Cnd):A++cV v (n+1)=(A++cV v n)++[(Fr.ofInt (v.getD n (0,0)).1,true)]:=by
 unfold cV
 rw [List.append_assoc]
 congr 1
 rw [List.take_add_one,List.map_append]
 simp [List.getD,h]
theorem Z0 {ls:List (List V2)} {k n:Nat} (h:n=(ls.getD k []).length):cA ls (k+1)=cA ls k++cV (ls.getD k []) n:=by rw [h];rfl
theorem LW {es:List Edg} {i n:Nat} (h:n<i) (hi:i<=es.length) (A B:List Cnd):A++(B++cC es i (n+1))=(A++(B++cC es i n))++[(Ef (es.getD i noE) ((es.take i).getD n noE),FG (es.getD i noE) ((es.take i).getD n noE))]:=by
 unfold cC
 rw [List.append_assoc,List.append_assoc]
 congr 2
 have hl:n<(es.take i).length:=by rw [List.length_take];omega
 rw [List.take_add_one (l:=es.take i)]
 simp only [List.getD,List.getElem?_eq_getElem hl,Option.toList_some,List.map_append,List.map_cons,List.map_nil,Option.getD_some]
theorem AD {es:List Edg} {ly hy:Int} {i n:Nat} (h:n=i) (A:List Cnd):A++cE es ly hy (i+1)=((A++(cE es ly hy i++cC es i n))++[(As (es.getD i noE) ly,CL (es.getD i noE) ly)])++[(As (es.getD i noE) hy,CL (es.getD i noE) hy)]:=by
 subst h;simp [cE,cL]
section
variable {lo hi : Fr} {cs cs' : List Cnd} {x y : Fr} {b c : Bool}
theorem BY (e:cs'=(cs++[(x,b)])++[(y,c)]) (p:evP lo hi (x,b)=true) (q:evP lo hi (y,c)=true):(AG (evF lo hi cs)++[frD x])++[frD y]=AG (evF lo hi cs'):=by rw [KC rfl p,KC e q]
theorem BZ (e:cs'=(cs++[(x,b)])++[(y,c)]) (p:evP lo hi (x,b)=true) (q:evP lo hi (y,c)=false):AG (evF lo hi cs)++[frD x]=AG (evF lo hi cs'):=by rw [KC rfl p,I7 e q]
theorem Ba (e:cs'=(cs++[(x,b)])++[(y,c)]) (p:evP lo hi (x,b)=false) (q:evP lo hi (y,c)=true):AG (evF lo hi cs)++[frD y]=AG (evF lo hi cs'):=by rw [I7 rfl p,KC e q]
theorem Bb (e:cs'=(cs++[(x,b)])++[(y,c)]) (p:evP lo hi (x,b)=false) (q:evP lo hi (y,c)=false):AG (evF lo hi cs)=AG (evF lo hi cs'):=by rw [I7 rfl p,I7 e q]
end
theorem PQ (lo hi:Fr) (cs:List Cnd):(evF lo hi cs).length<=cs.length:=by unfold evF;rw [List.length_map];exact List.length_filter_le _ _
theorem X2 (v:List V2) (n:Nat):(cV v n).length<=v.length:=by unfold cV;rw [List.length_map,List.length_take];omega
theorem TM (ls:List (List V2)):∀ k,(cA ls k).length<=I6 ls k
 | 0=>Nat.le_refl _
 | k+1=>by
  have h1:=TM ls k
  have h2:=X2 (ls.getD k []) (ls.getD k []).length
  rw [cA,List.length_append,I6];omega
theorem X3 (es:List Edg) (i n:Nat):(cC es i n).length<=i:=by unfold cC;rw [List.length_map,List.length_take,List.length_take];omega
theorem X4 (es:List Edg) (ly hy:Int):∀ i,i<=es.length->(cE es ly hy i).length<=i*(es.length+2)
 | 0,_=>Nat.zero_le _
 | i+1,h=>by
  have h1:=X4 es ly hy i (by omega)
  have h2:=X3 es i i
  rw [Nat.succ_mul]
  simp only [cE,List.length_append,cL,List.length_cons,List.length_nil];omega
def TN (ls:List (List V2)):Prop:=BU ls=true/\ls.length<=1048576/\I6 ls ls.length<=1048576
theorem By {ls:List (List V2)} (h:TN ls) {lo hi:Fr} {k n:Nat} (hk:k<ls.length):(AG (evF lo hi (cA ls k++cV (ls.getD k []) n))).length<=1048576:=by
 have h1:=PQ lo hi (cA ls k++cV (ls.getD k []) n)
 have h2:=TM ls k
 have h3:=X2 (ls.getD k []) n
 have h4:=Ud ls (k+1) (ls.length-(k+1))
 rw [show k+1+(ls.length-(k+1))=ls.length by omega] at h4
 have h5:I6 ls (k+1)=I6 ls k+(ls.getD k []).length:=rfl
 have h6:=h.2.2
 rw [List.length_append] at h1
 rw [BM];omega
theorem AA1 {ls:List (List V2)} (h:TN ls):(edA ls).length<=1048576:=Nat.le_trans (Md ls ls.length) h.2.2
theorem PR {ls:List (List V2)} (h:TN ls) {lo hi:Fr} {ly hy:Int} {i:Nat} (hi' : i<=(edA ls).length) (n:Nat):(AG (evF lo hi (cA ls ls.length++(cE (edA ls) ly hy i++cC (edA ls) i n)))).length<=1200000000000/\(AG (evF lo hi (cA ls ls.length++cE (edA ls) ly hy i))).length<=1200000000000:=by
 have h1:=PQ lo hi (cA ls ls.length++(cE (edA ls) ly hy i++cC (edA ls) i n))
 have h1':=PQ lo hi (cA ls ls.length++cE (edA ls) ly hy i)
 have h2:=TM ls ls.length
 have h3:=X3 (edA ls) i n
 have h4:=X4 (edA ls) ly hy i hi'
 have h5:=AA1 h
 have h6:=h.2.2
 have h7:=Nat.mul_le_mul (show i<=1048576 by omega) (show (edA ls).length+2<=1048578 by omega)
 rw [List.length_append,List.length_append] at h1
 rw [List.length_append] at h1'
 rw [BM,BM]
 constructor <;> omega
def IU:List Fr->Fr->List Fr
 | [],r=>[r]
 | a::l,r=>if Fr.cmp a r<0 then a::IU l r else if Fr.cmp a r=0 then a::l else r::a::l
def Bp (acc l:List Fr):List Fr:=l.foldl IU acc
theorem I8 {n:Int} (h:-9223372036854775808<=n/\n<=9223372036854775807):(Fr.ofInt n).d≠0:=by rw [(I0 (DG h)).2];decide
def BC (l:List Fr):Prop:=∀ x ∈ l,x.d≠0
theorem Mh (lo hi:Fr) (cs:List Cnd):BC (evF lo hi cs):=λ x hx hd=>by
 unfold evF at hx
 obtain ⟨c,hc,rfl⟩:=List.mem_map.1 hx
 have h:=(List.mem_filter.1 hc).2
 unfold evP at h
 rw [Fr.cmp_bad (.inl hd)] at h
 simp at h
theorem X5 {lo hi:Fr} (cs:List Cnd) (h1:lo.d≠0) (h2:hi.d≠0):BC (evF lo hi cs++[lo,hi]):=λ x hx=>by
 rcases List.mem_append.1 hx with h|h
 ·exact Mh _ _ _ x h
 ·simp only [List.mem_cons,List.not_mem_nil,or_false] at h
  rcases h with rfl|rfl
  ·exact h1
  ·exact h2
theorem BL {l:List Fr} {k:Nat} (h:k<l.length):(AG l).getD k []=frD (l.getD k Fr.none):=by simp [AG,List.getD,h]
theorem IV {r s:Fr} {p q:Rat} (hr:r.v=some p) (hs:s.v=some q):Fr.cmp r s<0↔p<q:=by
 unfold Fr.cmp NS
 rw [hr,hs]
 simp only
 split
 ·rename_i h;simp [h]
 ·rename_i h
  split <;> simp [h]
theorem KD {r s:Fr} (hr:r.d≠0) (hs:s.d≠0):Fr.cmp s r=- Fr.cmp r s:=by
 obtain ⟨p,hp,_⟩:=Fr.some_d hr
 obtain ⟨q,hq,_⟩:=Fr.some_d hs
 unfold Fr.cmp NS
 rw [hp,hq]
 simp only
 by_cases h1:p<q
 ·have h2:¬ q<p:=by grind
  have h3:¬ q=p:=by grind
  simp [h1,h2,h3]
 ·by_cases h2:p=q
  ·subst h2;simp [h1]
  ·have h3:q<p:=by grind
   simp [h1,h2,h3]
theorem PS {a b c:Fr} (h1:Fr.cmp a b<0) (h2:Fr.cmp b c<0):Fr.cmp a c<0:=by
 have nz:∀ {x y:Fr},Fr.cmp x y<0->x.d≠0/\y.d≠0:=λ {x y} h=>⟨λ e=>by rw [Fr.cmp_bad (.inl e)] at h;omega,λ e=>by rw [Fr.cmp_bad (.inr e)] at h;omega⟩
 obtain ⟨p,hp,_⟩:=Fr.some_d (nz h1).1
 obtain ⟨q,hq,_⟩:=Fr.some_d (nz h1).2
 obtain ⟨r,hr,_⟩:=Fr.some_d (nz h2).2
 rw [IV hp hq] at h1
 rw [IV hq hr] at h2
 rw [IV hp hr]
 grind
theorem Fc (a:Fr):Fr.cmp a a=0:=by
 by_cases h:a.d=0
 ·exact Fr.cmp_bad (.inl h)
 ·obtain ⟨p,hp,_⟩:=Fr.some_d h
  unfold Fr.cmp NS;rw [hp];simp
def asc (l:List Fr):Prop:=l.Pairwise λ a b=>Fr.cmp a b<0
theorem I9 {r x:Fr} (hr:r.d≠0):∀ {l:List Fr},BC l->(x ∈ IU l r↔x=r∨x ∈ l)
 | [],_=>by simp [IU]
 | a::l,h=>by
  have ha:=h a (by simp)
  have ih:=I9 (x:=x) hr (l:=l) λ y hy=>h y (by simp [hy])
  rw [IU]
  split
  ·simp only [List.mem_cons,ih];grind
  ·split
   ·rename_i h0
    have:=PO ha hr h0
    subst this;simp
   ·simp
theorem Vx {r:Fr} (hr:r.d≠0) {l:List Fr} (h:BC l):BC (IU l r):=λ x hx=>by
 rcases (I9 hr h).1 hx with rfl|hx
 ·exact hr
 ·exact h x hx
theorem RP {r:Fr} (hr:r.d≠0):∀ {l:List Fr},BC l->asc l->asc (IU l r)
 | [],_,_=>by unfold IU asc;exact List.pairwise_singleton _ _
 | a::l,h,hs=>by
  have ha:=h a (by simp)
  have hg:BC l:=λ y hy=>h y (by simp [hy])
  obtain ⟨h1,h2⟩:=List.pairwise_cons.1 hs
  rw [IU]
  split
  ·rename_i hlt
   refine List.pairwise_cons.2 ⟨λ b hb=>?_,RP hr hg h2⟩
   rcases (I9 hr hg).1 hb with rfl|hb
   ·exact hlt
   ·exact h1 b hb
  ·split
   ·exact hs
   ·rename_i hn h0
    have hra:Fr.cmp r a<0:=by rw [KD ha hr];omega
    refine List.pairwise_cons.2 ⟨λ b hb=>?_,hs⟩
    rcases List.mem_cons.1 hb with rfl|hb
    ·exact hra
    ·exact PS hra (h1 b hb)
theorem Fd {l:List Fr} (hl:BC l):∀ {acc:List Fr},BC acc->asc acc->BC (Bp acc l)/\asc (Bp acc l)/\∀ x,x ∈ Bp acc l↔x ∈ acc∨x ∈ l:=by
 induction l with
 | nil=>intro acc h1 h2;exact ⟨h1,h2,λ x=>by simp [Bp]⟩
 | cons a l ih=>
  intro acc h1 h2
  have ha:=hl a (by simp)
  obtain ⟨g1,g2,g3⟩:=ih (λ y hy=>hl y (by simp [hy])) (Vx ha h1) (RP ha h1 h2)
  refine ⟨g1,g2,λ x=>?_⟩
  show x ∈ Bp (IU acc a) l↔_
  rw [g3 x,I9 ha h1]
  simp only [List.mem_cons];grind
theorem LX:∀ {a b:List Fr},asc a->asc b->(∀ x,x ∈ a↔x ∈ b)->a=b
 | [],[],_,_,_=>rfl
 | [],b::bs,_,_,h=>by have:=(h b).2 (by simp);simp at this
 | a::t,[],_,_,h=>by have:=(h a).1 (by simp);simp at this
 | a::t,b::bs,ha,hb,h=>by
  obtain ⟨a1,a2⟩:=List.pairwise_cons.1 ha
  obtain ⟨b1,b2⟩:=List.pairwise_cons.1 hb
  have irr:∀ x:Fr,¬ Fr.cmp x x<0:=λ x h=>by rw [Fc] at h;omega
  have e:a=b:=by
   rcases List.mem_cons.1 ((h a).1 (by simp)) with e|e
   ·exact e
   ·rcases List.mem_cons.1 ((h b).2 (by simp)) with e' | e'
    ·exact e'.symm
    ·exact absurd (PS (a1 b e') (b1 a e)) (irr a)
  subst e
  congr 1
  refine LX a2 b2 λ x=>⟨λ hx=>?_,λ hx=>?_⟩
  ·rcases List.mem_cons.1 ((h x).1 (by simp [hx])) with e|e
   ·subst e;exact absurd (a1 x hx) (irr x)
   ·exact e
  ·rcases List.mem_cons.1 ((h x).2 (by simp [hx])) with e|e
   ·subst e;exact absurd (b1 x hx) (irr x)
   ·exact e
theorem Vy {lo hi:Fr} (hlt:Fr.cmp lo hi<0) (h1:lo.d≠0) (h2:hi.d≠0) {l:List Fr} (hl:BC l):Bp [] (l++[lo,hi])=Bp [lo,hi] l:=by
 have hg:BC (l++[lo,hi]):=λ x hx=>by
  rcases List.mem_append.1 hx with h|h
  ·exact hl x h
  ·simp only [List.mem_cons,List.not_mem_nil,or_false] at h
   rcases h with rfl|rfl
   ·exact h1
   ·exact h2
 have hg2:BC [lo,hi]:=λ x hx=>hg x (List.mem_append.2 (.inr hx))
 obtain ⟨_,a2,a3⟩:=Fd hg (acc:=[]) (λ x hx=>by simp at hx) List.Pairwise.nil
 obtain ⟨_,b2,b3⟩:=Fd hl (acc:=[lo,hi]) hg2 (List.pairwise_cons.2 ⟨λ b hb=>by simp at hb;subst hb;exact hlt,List.pairwise_singleton _ _⟩)
 refine LX a2 b2 λ x=>?_
 rw [a3,b3,List.mem_append];simp [or_comm]
theorem PT {a b:Int} (ha:-9223372036854775808<=a/\a<=9223372036854775807) (hb:-9223372036854775808<=b/\b<=9223372036854775807) (h:a<b):Fr.cmp (Fr.ofInt a) (Fr.ofInt b)<0:=by
 rw [IV (LQ (DG ha)) (LQ (DG hb))]
 exact Rat.intCast_lt_intCast.2 h
theorem X6 (l:List Fr) (r:Fr):(IU l r).length<=l.length+1:=by
 induction l with
 | nil=>simp [IU]
 | cons a l ih=>
  rw [IU]
  split
  ·simp only [List.length_cons];omega
  ·split <;> simp only [List.length_cons] <;> omega
theorem OV (l:List Fr):∀ acc:List Fr,(Bp acc l).length<=acc.length+l.length:=by
 induction l with
 | nil=>intro acc;simp [Bp]
 | cons a l ih=>
  intro acc
  have h1:=ih (IU acc a)
  have h2:=X6 acc a
  show (Bp (IU acc a) l).length<=_
  simp only [List.length_cons];omega
def evR (lx ly hx hy:Int) (ls:List (List V2)):List Fr:=if BU ls=true/\lx<hx then Bp [Fr.ofInt lx,Fr.ofInt hx] (evF (Fr.ofInt lx) (Fr.ofInt hx) (cA ls ls.length++cE (edA ls) ly hy (edA ls).length)) else []
section
variable {lx ly hx hy : Int} {ls : List (List V2)}
theorem X7 (h:¬ (BU ls=true/\lx<hx)):evR lx ly hx hy ls=[]:=by unfold evR;rw [if_neg h]
theorem AAA (h:BU ls=true) (h2:lx<hx) (hl:-9223372036854775808<=lx/\lx<=9223372036854775807) (hh:-9223372036854775808<=hx/\hx<=9223372036854775807):Bp [] (evF (Fr.ofInt lx) (Fr.ofInt hx) (cA ls ls.length++cE (edA ls) ly hy (edA ls).length)++[Fr.ofInt lx,Fr.ofInt hx])=evR lx ly hx hy ls:=by
 unfold evR
 rw [if_pos ⟨h,h2⟩]
 exact Vy (PT hl hh h2) (I8 hl) (I8 hh) (Mh _ _ _)
end
end Go.Proofs.YtkffpiaagjcmpaaGreat
