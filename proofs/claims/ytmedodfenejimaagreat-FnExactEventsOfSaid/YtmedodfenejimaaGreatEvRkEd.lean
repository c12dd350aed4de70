import Derived.Test.YtmedodfenejimaaGreatEvRkJ
namespace Go.Proofs.YtmedodfenejimaaGreat
set_option maxRecDepth 100000
set_option linter.unusedVariables false
set_option linter.unusedSimpArgs false
open Go.RowKit
def rOf (n d:Int):Fr:=if d=0 then Fr.none else Fr.mk' (zOf (decide (n<0) != decide (d<0)) n.natAbs) d.natAbs
theorem NL {n d:Int} (h:d=0):rOf n d=Fr.none:=by unfold rOf;rw [if_pos h]
theorem G9 {n d:Int} (h:d≠0):rOf n d=Fr.mk' (zOf (decide (n<0) != decide (d<0)) n.natAbs) d.natAbs:=by unfold rOf;rw [if_neg h]
theorem J2 {x:Int} (h:nl x.natAbs<=60):BV (decide (x<0)) (L x.natAbs)=true:=by rw [Ob,decide_eq_true h]
theorem VA (x y:Int):D9 (zOf (decide (x<0) != decide (y<0)) x.natAbs) y.natAbs=rOf x y:=by
 by_cases h:y=0
 ·rw [NL h,Ps (by omega)]
 ·rw [G9 h,Ft (by omega)]
structure Edg where
 a:V2
 b:V2
 k:Int
 low:Bool
def Edg.ok (e:Edg):Bool:=A0 e.a && (A0 e.b && decide (e.a.1<e.b.1))
def slp (e:Edg):Fr:=rOf (e.b.2-e.a.2) (e.b.1-e.a.1)
def hgt (e:Edg) (x:Fr):Fr:=Fr.add (Fr.ofInt e.a.2) (Fr.mul (slp e) (Fr.sub x (Fr.ofInt e.a.1)))
def spn (e:Edg) (lo hi:Fr):Bool:=decide (Fr.cmp (Fr.ofInt e.a.1) lo<=0) && decide (Fr.cmp (Fr.ofInt e.b.1) hi≥0)
theorem Edg.bd {e:Edg} (h:e.ok=true):((-1000<=e.a.1/\e.a.1<=1000)/\-1000<=e.a.2/\e.a.2<=1000)/\((-1000<=e.b.1/\e.b.1<=1000)/\-1000<=e.b.2/\e.b.2<=1000)/\e.a.1<e.b.1:=by
 unfold Edg.ok at h
 simp only [Bool.and_eq_true,decide_eq_true_eq] at h
 have h1:=Me h.1
 have h2:=Me h.2.1
 exact ⟨⟨⟨h1.1,h1.2.1⟩,h1.2.2⟩,⟨⟨h2.1,h2.2.1⟩,h2.2.2⟩,h.2.2⟩
theorem Edg.vecs {e:Edg} : e.ok=(A0 e.a && (A0 e.b && decide (e.a.1<e.b.1))):=rfl
def F1:Con:={ ι:=Int×Int,pre:=λ i=>nl i.1.natAbs<=60/\nl i.2.natAbs<=60,args:=λ i=>[dB i.1,dB i.2],res:=λ i=>⟨false,[none],[rcB true]⟩ }
theorem SG:F1.Ok Tryz.prog 339:=by
 refine fok (X:=⟨tt,[(347,Cl)],[],11,[]⟩) mixed AN (CTok.cons Od (CTok.nil _)) Tryz.func339 (λ _=>[]) ?_
 rintro ⟨x,y⟩ hpre
 have hpre:nl x.natAbs<=60/\nl y.natAbs<=60:=hpre
 refine AP (q:=∃ i1:Bool×(List (List Dat)),[dB x]=Cl.args i1/\Cl.pre i1/\(ifB ((BV i1.1 i1.2)) (∃ i2:Bool×(List (List Dat)),[dB y]=Cl.args i2/\Cl.pre i2/\((vB (BV i2.1 i2.2)=vB true))) ((vB false=vB true)))) (by kernel_rfl) ?_
 delta ifB vB
 have e1:=J2 (x:=x) hpre.1
 have e2:=J2 (x:=y) hpre.2
 refine ⟨(decide (x<0),(L x.natAbs)),by
  rfl,by
  show (L x.natAbs).length<=9223372036854775807
  rw [AK];omega,?_⟩
 refine And.symm ⟨λ c4=>?_,λ c4=>?_⟩
 ·try simp only [nrm] at c4
  first|rfl|(rw [e2];done)|(rw [e1] at c4;cases c4)
 try simp only [nrm] at c4
 refine ⟨(decide (y<0),(L y.natAbs)),by
  rfl,by
  show (L y.natAbs).length<=9223372036854775807
  rw [AK];omega,?_⟩
 show Value.bool (BV (decide (y<0)) (L y.natAbs))=Value.bool true
 first|rfl|(rw [e2];done)|(rw [e1] at c4;cases c4)
def EB:Con:={ ι:=Int×Int,pre:=λ i=>nl i.1.natAbs<=24/\nl i.2.natAbs<=24,args:=λ i=>[dB i.1,dB i.2],res:=λ i=>⟨false,[some 3],[rcB (decide ((rOf i.1 i.2).z<0)),.own 3 [.int] (L (rOf i.1 i.2).z.natAbs),.own 3 [.int] (L (rOf i.1 i.2).d)]⟩ }
theorem On:EB.Ok Tryz.prog 307:=by
 refine fok (X:=⟨tt,[(339,F1),(264,Ap),(268,BA)],[],27,[]⟩) mixed AN (CTok.cons SG (CTok.cons Eg (CTok.cons Fk (CTok.nil _)))) Tryz.func307 (λ _=>[]) ?_
 rintro ⟨x,y⟩ hpre
 have hpre:nl x.natAbs<=24/\nl y.natAbs<=24:=hpre
 refine AP (q:=∃ i1:Int×Int,[dB x,dB y]=F1.args i1/\F1.pre i1/\(ifB ((!(!true))) (ifB (((nI ((L y.natAbs).length)) == (0:Int))) ((eqN (rOf x y))) (∃ i2:Bool×Nat,[DA.one (cB ((decide (x<0)) != (decide (y<0)))),DA.one (cS (L x.natAbs))]=Ap.args i2/\Ap.pre i2/\(∃ i3:Int×Nat,[dB (zOf i2.1 i2.2),DA.one (cS (L y.natAbs))]=BA.args i3/\BA.pre i3/\((eqC (Fr.mk' i3.1 i3.2) (rOf x y)))))) ((eqN (rOf x y))))) (by kernel_rfl) ?_
 delta ifB nI
 have ly:=AK y.natAbs
 have lx:=AK x.natAbs
 refine ⟨(x,y),by
  rfl,by
  show nl x.natAbs<=60/\nl y.natAbs<=60
  first|trivial|exact ⟨by omega,by omega⟩|exact ⟨by omega,by rw [DT];omega,by omega⟩,?_⟩
 refine And.symm ⟨λ c4=>?_,λ c4=>?_⟩
 ·try simp only [nrm] at c4
  refine BE ?_
  first|contradiction|(rw [NL hy];done)|(rw [G9 hy];done)
 try simp only [nrm] at c4
 refine ⟨λ c5=>?_,λ c5=>?_⟩
 ·try simp only [nrm] at c5
  have hy:y=0:=by have:=CV.1 (show nl y.natAbs=0 by omega);omega
  refine BE ?_
  first|contradiction|(rw [NL hy];done)|(rw [G9 hy];done)
 try simp only [nrm] at c5
 have hy:y≠0:=by
  rintro rfl
  exact c5 (by rw [ly];simp [CC])
 refine ⟨(((decide (x<0)) != (decide (y<0))),x.natAbs),by
  rfl,by
  first|trivial|exact ⟨by omega,by omega⟩|exact ⟨by omega,by rw [DT];omega,by omega⟩,?_⟩
 refine ⟨((zOf ((decide (x<0)) != (decide (y<0))) x.natAbs),y.natAbs),by
  rfl,by
  show y.natAbs≠0/\nl (zOf ((decide (x<0)) != (decide (y<0))) x.natAbs).natAbs<=1000/\nl y.natAbs<=1000
  first|trivial|exact ⟨by omega,by omega⟩|exact ⟨by omega,by rw [DT];omega,by omega⟩,?_⟩
 refine CE ?_
 show Fr.mk' (zOf ((decide (x<0)) != (decide (y<0))) x.natAbs) y.natAbs=rOf x y
 first|contradiction|(rw [NL hy];done)|(rw [G9 hy];done)
def HD:Con:={ ι:=Int×Int,pre:=λ i=>(-9223372036854775808<=i.1/\i.1<=9223372036854775807)/\(-9223372036854775808<=i.2/\i.2<=9223372036854775807),args:=λ i=>[.one (cI i.1),.one (cI i.2)],res:=λ i=>⟨false,[some 3],[rcB (decide ((rOf i.1 i.2).z<0)),.own 3 [.int] (L (rOf i.1 i.2).z.natAbs),.own 3 [.int] (L (rOf i.1 i.2).d)]⟩ }
theorem UA:HD.Ok Tryz.prog 267:=by
 refine fok (X:=⟨tt,[(195,Ck),(307,EB)],[],10,[]⟩) mixed AN (CTok.cons Oc (CTok.cons On (CTok.nil _))) Tryz.func267 (λ _=>[]) ?_
 rintro ⟨n,d⟩ hpre
 have hpre:(-9223372036854775808<=n/\n<=9223372036854775807)/\(-9223372036854775808<=d/\d<=9223372036854775807):=hpre
 refine AP (q:=∃ i1:Int,[DA.one (cI n)]=Ck.args i1/\Ck.pre i1/\(∃ i2:Int,[DA.one (cI d)]=Ck.args i2/\Ck.pre i2/\(∃ i3:Int×Int,[dB i1,dB i2]=EB.args i3/\EB.pre i3/\((eqC (rOf i3.1 i3.2) (rOf n d)))))) (by kernel_rfl) ?_
 refine ⟨n,by
  rfl,by
  show -9223372036854775808<=n/\n<=9223372036854775807
  first|exact hpre.1|exact hpre.2|exact ⟨Nat.le_trans (BR hpre.1) (by decide),Nat.le_trans (BR hpre.2) (by decide)⟩,?_⟩
 refine ⟨d,by
  rfl,by
  show -9223372036854775808<=d/\d<=9223372036854775807
  first|exact hpre.1|exact hpre.2|exact ⟨Nat.le_trans (BR hpre.1) (by decide),Nat.le_trans (BR hpre.2) (by decide)⟩,?_⟩
 refine ⟨(n,d),by
  rfl,by
  show nl n.natAbs<=24/\nl d.natAbs<=24
  first|exact hpre.1|exact hpre.2|exact ⟨Nat.le_trans (BR hpre.1) (by decide),Nat.le_trans (BR hpre.2) (by decide)⟩,?_⟩
 exact CE rfl
def Dn:Con:={ ι:=Int×Int,pre:=λ i=>nl i.1.natAbs<=24/\nl i.2.natAbs<=24,args:=λ i=>[dB i.1,dB i.2],res:=λ i=>⟨false,[some 3],[rcB (decide ((rOf i.1 i.2).z<0)),.own 3 [.int] (L (rOf i.1 i.2).z.natAbs),.own 3 [.int] (L (rOf i.1 i.2).d)]⟩ }
theorem NM:Dn.Ok Tryz.prog 201:=by
 refine fok (X:=⟨tt,[(207,BO),(202,Ax)],[],24,[]⟩) mixed AN (CTok.cons IS (CTok.cons G8 (CTok.nil _))) Tryz.func201 (λ _=>[]) ?_
 rintro ⟨x,y⟩ hpre
 have hpre:nl x.natAbs<=24/\nl y.natAbs<=24:=hpre
 refine AP (q:=∃ i1:Bool×(List (List Dat)),[dB x]=BO.args i1/\BO.pre i1/\(ifB ((!(!(BV i1.1 i1.2)))) (∃ i2:Bool×(List (List Dat)),[dB y]=BO.args i2/\BO.pre i2/\(ifB ((!(BV i2.1 i2.2))) ((eqN (rOf x y))) (∃ i3:Bool×Nat×Nat×Int,[DA.one (cB ((decide (x<0)) != (decide (y<0)))),DA.one (cS (L x.natAbs)),DA.one (cS (L y.natAbs))]=Ax.args i3/\Ax.pre i3/\((eqC (D9 i3.2.2.2 i3.2.2.1) (rOf x y)))))) ((eqN (rOf x y))))) (by kernel_rfl) ?_
 delta ifB
 have e1:=J2 (x:=x) (Nat.le_trans hpre.1 (by decide))
 have e2:=J2 (x:=y) (Nat.le_trans hpre.2 (by decide))
 have ly:=AK y.natAbs
 have lx:=AK x.natAbs
 refine ⟨(decide (x<0),(L x.natAbs)),by
  rfl,by
  show (L x.natAbs).length<=9223372036854775807
  first|trivial|(rw [AK];omega)|exact ⟨by omega,by omega,rfl⟩,?_⟩
 refine And.symm ⟨λ c4=>?_,λ c4=>?_⟩
 ·try simp only [nrm] at c4
  rw [e1] at c4;cases c4 -- done
 try simp only [nrm] at c4
 refine ⟨(decide (y<0),(L y.natAbs)),by
  rfl,by
  show (L y.natAbs).length<=9223372036854775807
  first|trivial|(rw [AK];omega)|exact ⟨by omega,by omega,rfl⟩,?_⟩
 refine ⟨λ c8=>?_,λ c8=>?_⟩
 ·try simp only [nrm] at c8
  rw [e2] at c8;cases c8 -- done
 try simp only [nrm] at c8
 refine ⟨(((decide (x<0)) != (decide (y<0))),x.natAbs,y.natAbs,(zOf ((decide (x<0)) != (decide (y<0))) x.natAbs)),by
  rfl,by
  show nl x.natAbs<=1000/\nl y.natAbs<=1000/\zOf ((decide (x<0)) != (decide (y<0))) x.natAbs=(zOf ((decide (x<0)) != (decide (y<0))) x.natAbs)
  first|trivial|(rw [AK];omega)|exact ⟨by omega,by omega,rfl⟩,?_⟩
 refine CE ?_
 show D9 (zOf ((decide (x<0)) != (decide (y<0))) x.natAbs) y.natAbs=rOf x y
 first|exact VA _ _|contradiction
def BN:Con:={ ι:=Int×Int,pre:=λ i=>(-9223372036854775808<=i.1/\i.1<=9223372036854775807)/\(-9223372036854775808<=i.2/\i.2<=9223372036854775807),args:=λ i=>[.one (cI i.1),.one (cI i.2)],res:=λ i=>⟨false,[some 3],[rcB (decide ((rOf i.1 i.2).z<0)),.own 3 [.int] (L (rOf i.1 i.2).z.natAbs),.own 3 [.int] (L (rOf i.1 i.2).d)]⟩ }
theorem JA:BN.Ok Tryz.prog 140:=by
 refine fok (X:=⟨tt,[(137,BP),(201,Dn)],[],10,[]⟩) mixed AN (CTok.cons IT (CTok.cons NM (CTok.nil _))) Tryz.func140 (λ _=>[]) ?_
 rintro ⟨n,d⟩ hpre
 have hpre:(-9223372036854775808<=n/\n<=9223372036854775807)/\(-9223372036854775808<=d/\d<=9223372036854775807):=hpre
 refine AP (q:=∃ i1:Int,[DA.one (cI n)]=BP.args i1/\BP.pre i1/\(∃ i2:Int,[DA.one (cI d)]=BP.args i2/\BP.pre i2/\(∃ i3:Int×Int,[dB i1,dB i2]=Dn.args i3/\Dn.pre i3/\((eqC (rOf i3.1 i3.2) (rOf n d)))))) (by kernel_rfl) ?_
 refine ⟨n,by
  rfl,by
  show -9223372036854775808<=n/\n<=9223372036854775807
  first|exact hpre.1|exact hpre.2|exact ⟨Nat.le_trans (BR hpre.1) (by decide),Nat.le_trans (BR hpre.2) (by decide)⟩,?_⟩
 refine ⟨d,by
  rfl,by
  show -9223372036854775808<=d/\d<=9223372036854775807
  first|exact hpre.1|exact hpre.2|exact ⟨Nat.le_trans (BR hpre.1) (by decide),Nat.le_trans (BR hpre.2) (by decide)⟩,?_⟩
 refine ⟨(n,d),by
  rfl,by
  show nl n.natAbs<=24/\nl d.natAbs<=24
  first|exact hpre.1|exact hpre.2|exact ⟨Nat.le_trans (BR hpre.1) (by decide),Nat.le_trans (BR hpre.2) (by decide)⟩,?_⟩
 exact CE rfl
theorem Qz (e:Edg):([e.a,e.b].all A0)=(A0 e.a && A0 e.b):=by simp
def GD (e f:Edg):Fr:=Fr.div (Fr.sub (hgt f (Fr.ofInt 0)) (hgt e (Fr.ofInt 0))) (Fr.sub (slp e) (slp f))
def DD (e f:Edg):Bool:=(GD e f).good && (spn e (GD e f) (GD e f) && spn f (GD e f) (GD e f))
def Cb (e f:Edg):Fr:=if DD e f=true then GD e f else Fr.none
def Jq (e:Edg) (y:Int):Fr:=Fr.add (Fr.ofInt e.a.1) (Fr.div (Fr.ofInt (y-e.a.2)) (slp e))
def Bm (e:Edg) (y:Int):Bool:=!(decide (e.a.2=e.b.2)) && ((decide (y≥-1000) && decide (y<=1000)) && ((Jq e y).good && spn e (Jq e y) (Jq e y)))
def As (e:Edg) (y:Int):Fr:=if Bm e y=true then Jq e y else Fr.none
theorem B5 {e f:Edg} (h:DD e f=false):Cb e f=Fr.none:=by unfold Cb;rw [if_neg (by rw [h];simp)]
theorem BY {e f:Edg} (h:DD e f=true):Cb e f=GD e f:=by unfold Cb;rw [if_pos h]
theorem Bu {e:Edg} {y:Int} (h:Bm e y=false):As e y=Fr.none:=by unfold As;rw [if_neg (by rw [h];simp)]
theorem BL {e:Edg} {y:Int} (h:Bm e y=true):As e y=Jq e y:=by unfold As;rw [if_pos h]
def CG:Con:={ ι:=Edg,pre:=λ i=>True,args:=λ i=>[DA.agg [cI i.a.1,cI i.a.2,cI i.b.1,cI i.b.2,cI i.k,cB i.low]],res:=λ i=>⟨false,[none],[rcB i.ok]⟩ }
theorem MS:CG.Ok Tryz.prog 218:=by
 refine fok (X:=⟨tt,[(212,Er)],[],18,[]⟩) mixed AN (CTok.cons P0 (CTok.nil _)) Tryz.func218 (λ _=>[]) ?_
 intro (e:Edg) hpre
 have hpre:True:=hpre
 refine AP (q:=∃ i1:(List V2),[DA.one (DC.sl 39 [.int,.int] ([[Dat.int e.a.1,Dat.int e.a.2],[Dat.int e.b.1,Dat.int e.b.2]]:List (List Dat)))]=Er.args i1/\Er.pre i1/\(ifB ((i1.all A0)) ((vB (decide (e.a.1<e.b.1))=vB e.ok)) ((vB false=vB e.ok)))) (by kernel_rfl) ?_
 delta ifB vB
 refine ⟨[e.a,e.b],by
  rfl,by
  first|trivial|(first|omega|assumption|exact hpre.1|exact hpre.2|(simp;done)),?_⟩
 refine ⟨λ c4=>?_,λ c4=>?_⟩
 ·try simp only [nrm] at c4
  rw [Qz] at c4
  refine congrArg Value.bool ?_;unfold Edg.ok;rw [← Bool.and_assoc,c4];simp
 try simp only [nrm] at c4
 rw [Qz] at c4
 refine congrArg Value.bool ?_;unfold Edg.ok;rw [← Bool.and_assoc,c4];simp
def A8:Con:={ ι:=Edg,pre:=λ i=>True,args:=λ i=>[DA.agg [cI i.a.1,cI i.a.2,cI i.b.1,cI i.b.2,cI i.k,cB i.low]],res:=λ i=>⟨false,[none],[rcB i.ok]⟩ }
theorem HE:A8.Ok Tryz.prog 139:=by
 refine fok (X:=⟨tt,[(135,Dj)],[],20,[]⟩) mixed AN (CTok.cons SC (CTok.nil _)) Tryz.func139 (λ _=>[]) ?_
 intro (e:Edg) hpre
 have hpre:True:=hpre
 refine AP (q:=∃ i1:Int×Int,[DA.agg [cI e.a.1,cI e.a.2]]=Dj.args i1/\Dj.pre i1/\(ifB ((A0 (i1.1,i1.2))) (∃ i2:Int×Int,[DA.agg [cI e.b.1,cI e.b.2]]=Dj.args i2/\Dj.pre i2/\(ifB ((A0 (i2.1,i2.2))) ((vB (decide (e.a.1<e.b.1))=vB e.ok)) ((vB false=vB e.ok)))) ((vB false=vB e.ok)))) (by kernel_rfl) ?_
 delta ifB vB
 refine ⟨(e.a.1,e.a.2),by
  rfl,by
  first|trivial|(first|omega|assumption|exact hpre.1|exact hpre.2|(simp;done)),?_⟩
 refine And.symm ⟨λ c4=>?_,λ c4=>?_⟩
 ·try simp only [nrm] at c4
  refine congrArg Value.bool ?_;rw [Edg.vecs];simp_all
 try simp only [nrm] at c4
 refine ⟨(e.b.1,e.b.2),by
  rfl,by
  first|trivial|(first|omega|assumption|exact hpre.1|exact hpre.2|(simp;done)),?_⟩
 refine ⟨λ c8=>?_,λ c8=>?_⟩
 ·try simp only [nrm] at c8
  refine congrArg Value.bool ?_;rw [Edg.vecs];simp_all
 try simp only [nrm] at c8
 refine congrArg Value.bool ?_;rw [Edg.vecs];simp_all
def Bp:Con:={ ι:=Edg,pre:=λ i=>i.ok=true,args:=λ i=>[DA.agg [cI i.a.1,cI i.a.2,cI i.b.1,cI i.b.2,cI i.k,cB i.low]],res:=λ i=>⟨false,[some 3],[rcB (decide ((slp i).z<0)),.own 3 [.int] (L (slp i).z.natAbs),.own 3 [.int] (L (slp i).d)]⟩ }
theorem LL:Bp.Ok Tryz.prog 220:=by
 refine fok (X:=⟨tt,[(267,HD)],[],18,[]⟩) mixed AN (CTok.cons UA (CTok.nil _)) Tryz.func220 (λ _=>[]) ?_
 intro (e:Edg) hpre
 have hpre:e.ok=true:=hpre
 refine AP (q:=∃ i1:Int×Int,[DA.one (cI (wR (e.b.2-e.a.2))),DA.one (cI (wR (e.b.1-e.a.1)))]=HD.args i1/\HD.pre i1/\((eqC (rOf i1.1 i1.2) (slp e)))) (by kernel_rfl) ?_
 delta wR
 have hb:=Edg.bd hpre
 have hw1:IntKind.i64.wrap (e.b.2-e.a.2)=e.b.2-e.a.2:=AB (by omega) (by omega)
 have hw2:IntKind.i64.wrap (e.b.1-e.a.1)=e.b.1-e.a.1:=AB (by omega) (by omega)
 refine ⟨(e.b.2-e.a.2,e.b.1-e.a.1),by
  first|rfl|(rw [hw1,hw2];rfl),by
  show (-9223372036854775808<=(e.b.2-e.a.2)/\(e.b.2-e.a.2)<=9223372036854775807)/\(-9223372036854775808<=(e.b.1-e.a.1)/\(e.b.1-e.a.1)<=9223372036854775807)
  exact ⟨⟨by omega,by omega⟩,by omega,by omega⟩,?_⟩
 refine CE ?_
 show rOf (e.b.2-e.a.2) (e.b.1-e.a.1)=slp e
 rfl
def Cn:Con:={ ι:=Edg×Fr,pre:=λ i=>i.1.ok=true,args:=λ i=>[DA.agg [cI i.1.a.1,cI i.1.a.2,cI i.1.b.1,cI i.1.b.2,cI i.1.k,cB i.1.low],dF i.2],res:=λ i=>⟨false,[some 3],[rcB (decide ((hgt i.1 i.2).z<0)),.own 3 [.int] (L (hgt i.1 i.2).z.natAbs),.own 3 [.int] (L (hgt i.1 i.2).d)]⟩ }
theorem Oo:Cn.Ok Tryz.prog 222:=by
 refine fok (X:=⟨tt,[(129,Ab),(220,Bp),(219,CF),(269,Fl),(224,Bx)],[],19,[]⟩) mixed AN (CTok.cons FR (CTok.cons LL (CTok.cons MN (CTok.cons Rx (CTok.cons I5 (CTok.nil _)))))) Tryz.func222 (λ _=>[]) ?_
 rintro ⟨e,x⟩ hpre
 have hpre:e.ok=true:=hpre
 refine AP (q:=∃ i1:Int,[DA.one (cI e.a.2)]=Ab.args i1/\Ab.pre i1/\(∃ i2:Edg,[DA.agg [cI e.a.1,cI e.a.2,cI e.b.1,cI e.b.2,cI e.k,cB e.low]]=Bp.args i2/\Bp.pre i2/\(∃ i3:Int,[DA.one (cI e.a.1)]=Ab.args i3/\Ab.pre i3/\(∃ i4:Fr×Fr,[dF x,dF (Fr.ofInt i3)]=CF.args i4/\CF.pre i4/\(∃ i5:Fr×Fr,[dF (slp i2),dF (Fr.sub i4.1 i4.2)]=Fl.args i5/\Fl.pre i5/\(∃ i6:Fr×Fr,[dF (Fr.ofInt i1),dF (Fr.mul i5.1 i5.2)]=Bx.args i6/\Bx.pre i6/\((eqC (Fr.add i6.1 i6.2) (hgt e x))))))))) (by kernel_rfl) ?_
 have hb:=Edg.bd hpre
 
 refine ⟨e.a.2,by
  rfl,by
  show -9223372036854775808<=e.a.2/\e.a.2<=9223372036854775807
  first|exact hpre|trivial|exact ⟨by omega,by omega⟩,?_⟩
 refine ⟨e,by
  rfl,by
  show e.ok=true
  first|exact hpre|trivial|exact ⟨by omega,by omega⟩,?_⟩
 refine ⟨e.a.1,by
  rfl,by
  show -9223372036854775808<=e.a.1/\e.a.1<=9223372036854775807
  first|exact hpre|trivial|exact ⟨by omega,by omega⟩,?_⟩
 refine ⟨(x,(Fr.ofInt e.a.1)),by
  rfl,by
  first|exact hpre|trivial|exact ⟨by omega,by omega⟩,?_⟩
 refine ⟨((slp e),(Fr.sub x (Fr.ofInt e.a.1))),by
  rfl,by
  first|exact hpre|trivial|exact ⟨by omega,by omega⟩,?_⟩
 refine ⟨((Fr.ofInt e.a.2),(Fr.mul (slp e) (Fr.sub x (Fr.ofInt e.a.1)))),by
  rfl,by
  first|exact hpre|trivial|exact ⟨by omega,by omega⟩,?_⟩
 refine CE ?_
 show Fr.add (Fr.ofInt e.a.2) (Fr.mul (slp e) (Fr.sub x (Fr.ofInt e.a.1)))=hgt e x
 rfl
def Co:Con:={ ι:=Edg×Fr×Fr,pre:=λ i=>i.1.ok=true,args:=λ i=>[DA.agg [cI i.1.a.1,cI i.1.a.2,cI i.1.b.1,cI i.1.b.2,cI i.1.k,cB i.1.low],dF i.2.1,dF i.2.2],res:=λ i=>⟨false,[none],[rcB (spn i.1 i.2.1 i.2.2)]⟩ }
theorem Oq:Co.Ok Tryz.prog 223:=by
 refine fok (X:=⟨tt,[(129,Ab),(153,AT)],[],23,[]⟩) mixed AN (CTok.cons FR (CTok.cons I6 (CTok.nil _))) Tryz.func223 (λ _=>[]) ?_
 rintro ⟨e,x,y⟩ hpre
 have hpre:e.ok=true:=hpre
 refine AP (q:=∃ i1:Int,[DA.one (cI e.a.1)]=Ab.args i1/\Ab.pre i1/\(∃ i2:Fr×Fr,[dF (Fr.ofInt i1),dF x]=AT.args i2/\AT.pre i2/\(ifB ((decide ((Fr.cmp i2.1 i2.2)<=(0:Int)))) (∃ i3:Int,[DA.one (cI e.b.1)]=Ab.args i3/\Ab.pre i3/\(∃ i4:Fr×Fr,[dF (Fr.ofInt i3),dF y]=AT.args i4/\AT.pre i4/\((vB (decide ((Fr.cmp i4.1 i4.2)≥(0:Int)))=vB (spn e x y))))) ((vB false=vB (spn e x y)))))) (by kernel_rfl) ?_
 delta ifB vB
 have hb:=Edg.bd hpre
 
 refine ⟨e.a.1,by
  rfl,by
  show -9223372036854775808<=e.a.1/\e.a.1<=9223372036854775807
  first|trivial|exact ⟨by omega,by omega⟩,?_⟩
 refine ⟨((Fr.ofInt e.a.1),x),by
  rfl,by
  first|trivial|exact ⟨by omega,by omega⟩,?_⟩
 refine And.symm ⟨λ c7=>?_,λ c7=>?_⟩
 ·try simp only [nrm] at c7
  refine congrArg Value.bool ?_;unfold spn;first|(simp_all;done)|(rw [decide_eq_false (by omega)];simp_all;done)|(rw [decide_eq_true (by omega)];simp_all;done)
 try simp only [nrm] at c7
 refine ⟨e.b.1,by
  rfl,by
  show -9223372036854775808<=e.b.1/\e.b.1<=9223372036854775807
  first|trivial|exact ⟨by omega,by omega⟩,?_⟩
 refine ⟨((Fr.ofInt e.b.1),y),by
  rfl,by
  first|trivial|exact ⟨by omega,by omega⟩,?_⟩
 show Value.bool (decide ((Fr.cmp (Fr.ofInt e.b.1) y)≥(0:Int)))=Value.bool (spn e x y)
 refine congrArg Value.bool ?_;unfold spn;first|(simp_all;done)|(rw [decide_eq_false (by omega)];simp_all;done)|(rw [decide_eq_true (by omega)];simp_all;done)
def CP:Con:={ ι:=Edg×Fr,pre:=λ i=>i.1.ok=true,args:=λ i=>[DA.agg [cI i.1.a.1,cI i.1.a.2,cI i.1.b.1,cI i.1.b.2,cI i.1.k,cB i.1.low],dF i.2],res:=λ i=>⟨false,[some 3],[rcB (decide ((hgt i.1 i.2).z<0)),.own 3 [.int] (L (hgt i.1 i.2).z.natAbs),.own 3 [.int] (L (hgt i.1 i.2).d)]⟩ }
theorem NN:CP.Ok Tryz.prog 143:=by
 refine fok (X:=⟨tt,[(139,A8),(90,AR),(142,Bs),(140,BN),(206,Em),(145,CZ)],[],38,[]⟩) mixed AN (CTok.cons HE (CTok.cons CY (CTok.cons LI (CTok.cons JA (CTok.cons Pv (CTok.cons LH (CTok.nil _))))))) Tryz.func143 (λ _=>[]) ?_
 rintro ⟨e,x⟩ hpre
 have hpre:e.ok=true:=hpre
 refine AP (q:=∃ i1:Edg,[DA.agg [cI e.a.1,cI e.a.2,cI e.b.1,cI e.b.2,cI e.k,cB e.low]]=A8.args i1/\A8.pre i1/\(ifB ((!i1.ok)) ((eqN (hgt e x))) (∃ i2:Int,[DA.one (cI e.a.1)]=AR.args i2/\AR.pre i2/\(∃ i3:Fr×Fr,[dF x,dF (Fr.ofInt i2)]=Bs.args i3/\Bs.pre i3/\(∃ i4:Int,[DA.one (cI e.a.2)]=AR.args i4/\AR.pre i4/\(∃ i5:Int×Int,[DA.one (cI (wR (e.b.2-e.a.2))),DA.one (cI (wR (e.b.1-e.a.1)))]=BN.args i5/\BN.pre i5/\(∃ i6:Fr×Fr,[dF (Fr.sub i3.1 i3.2),dF (rOf i5.1 i5.2)]=Em.args i6/\Em.pre i6/\(∃ i7:Fr×Fr,[dF (Fr.ofInt i4),dF (Fr.mul i6.1 i6.2)]=CZ.args i7/\CZ.pre i7/\((eqC (Fr.add i7.1 i7.2) (hgt e x))))))))))) (by kernel_rfl) ?_
 delta ifB wR
 have hb:=Edg.bd hpre
 have hw1:IntKind.i64.wrap (e.b.2-e.a.2)=e.b.2-e.a.2:=AB (by omega) (by omega)
 have hw2:IntKind.i64.wrap (e.b.1-e.a.1)=e.b.1-e.a.1:=AB (by omega) (by omega)
 refine ⟨e,by
  first|rfl|(rw [hw1,hw2];rfl),by
  first|trivial|exact ⟨by omega,by omega⟩|exact ⟨⟨by omega,by omega⟩,by omega,by omega⟩,?_⟩
 refine ⟨λ c4=>?_,λ c4=>?_⟩
 ·try simp only [nrm] at c4
  rw [hpre] at c4;cases c4 -- done
 try simp only [nrm] at c4
 refine ⟨e.a.1,by
  first|rfl|(rw [hw1,hw2];rfl),by
  show -9223372036854775808<=e.a.1/\e.a.1<=9223372036854775807
  first|trivial|exact ⟨by omega,by omega⟩|exact ⟨⟨by omega,by omega⟩,by omega,by omega⟩,?_⟩
 refine ⟨(x,(Fr.ofInt e.a.1)),by
  first|rfl|(rw [hw1,hw2];rfl),by
  first|trivial|exact ⟨by omega,by omega⟩|exact ⟨⟨by omega,by omega⟩,by omega,by omega⟩,?_⟩
 refine ⟨e.a.2,by
  first|rfl|(rw [hw1,hw2];rfl),by
  show -9223372036854775808<=e.a.2/\e.a.2<=9223372036854775807
  first|trivial|exact ⟨by omega,by omega⟩|exact ⟨⟨by omega,by omega⟩,by omega,by omega⟩,?_⟩
 refine ⟨(e.b.2-e.a.2,e.b.1-e.a.1),by
  first|rfl|(rw [hw1,hw2];rfl),by
  show (-9223372036854775808<=(e.b.2-e.a.2)/\(e.b.2-e.a.2)<=9223372036854775807)/\(-9223372036854775808<=(e.b.1-e.a.1)/\(e.b.1-e.a.1)<=9223372036854775807)
  first|trivial|exact ⟨by omega,by omega⟩|exact ⟨⟨by omega,by omega⟩,by omega,by omega⟩,?_⟩
 refine ⟨((Fr.sub x (Fr.ofInt e.a.1)),(rOf (e.b.2-e.a.2) (e.b.1-e.a.1))),by
  first|rfl|(rw [hw1,hw2];rfl),by
  first|trivial|exact ⟨by omega,by omega⟩|exact ⟨⟨by omega,by omega⟩,by omega,by omega⟩,?_⟩
 refine ⟨((Fr.ofInt e.a.2),(Fr.mul (Fr.sub x (Fr.ofInt e.a.1)) (rOf (e.b.2-e.a.2) (e.b.1-e.a.1)))),by
  first|rfl|(rw [hw1,hw2];rfl),by
  first|trivial|exact ⟨by omega,by omega⟩|exact ⟨⟨by omega,by omega⟩,by omega,by omega⟩,?_⟩
 refine CE ?_
 show Fr.add (Fr.ofInt e.a.2) (Fr.mul (Fr.sub x (Fr.ofInt e.a.1)) (rOf (e.b.2-e.a.2) (e.b.1-e.a.1)))=hgt e x
 unfold hgt;rw [Fr.mul_com];rfl
def CH:Con:={ ι:=Edg×Fr×Fr,pre:=λ i=>i.1.ok=true,args:=λ i=>[DA.agg [cI i.1.a.1,cI i.1.a.2,cI i.1.b.1,cI i.1.b.2,cI i.1.k,cB i.1.low],dF i.2.1,dF i.2.2],res:=λ i=>⟨false,[none],[rcB (i.2.1.good && (i.2.2.good && spn i.1 i.2.1 i.2.2))]⟩ }
theorem MT:CH.Ok Tryz.prog 144:=by
 refine fok (X:=⟨tt,[(139,A8),(146,AO),(90,AR),(94,Am)],[],35,[]⟩) mixed AN (CTok.cons HE (CTok.cons EN (CTok.cons CY (CTok.cons Fz (CTok.nil _))))) Tryz.func144 (λ _=>[]) ?_
 rintro ⟨e,x,y⟩ hpre
 have hpre:e.ok=true:=hpre
 refine AP (q:=let Z3:=x.good && (y.good && spn e x y);let Z2:=List (List Dat);let Z1:=(vB false=vB Z3);∃ i1:Edg,[DA.agg [cI e.a.1,cI e.a.2,cI e.b.1,cI e.b.2,cI e.k,cB e.low]]=A8.args i1/\A8.pre i1/\(ifB (i1.ok) (∃ i2:Bool×Z2×Z2×Bool,[dF x]=AO.args i2/\AO.pre i2/\(ifB (i2.2.2.2) (∃ i3:Bool×Z2×Z2×Bool,[dF y]=AO.args i3/\AO.pre i3/\(ifB (i3.2.2.2) (∃ i4:Int,[DA.one (cI e.a.1)]=AR.args i4/\AR.pre i4/\(∃ i5:Fr×Fr,[dF (Fr.ofInt i4),dF x]=Am.args i5/\Am.pre i5/\(ifB ((decide ((Fr.cmp i5.1 i5.2)<=(0:Int)))) (∃ i6:Int,[DA.one (cI e.b.1)]=AR.args i6/\AR.pre i6/\(∃ i7:Fr×Fr,[dF (Fr.ofInt i6),dF y]=Am.args i7/\Am.pre i7/\((vB (decide ((Fr.cmp i7.1 i7.2)≥(0:Int)))=vB Z3)))) Z1))) Z1)) Z1)) Z1)) (by kernel_rfl) ?_
 conv=>zeta
 delta ifB vB
 have hb:=Edg.bd hpre
 have h1x:=x.nlz
 have h2x:=x.nld
 have l1x:=AK x.d
 have l2x:=AK x.z.natAbs
 have h1y:=y.nlz
 have h2y:=y.nld
 have l1y:=AK y.d
 have l2y:=AK y.z.natAbs
 refine ⟨e,by
  rfl,by
  first|trivial|exact ⟨by omega,by omega⟩|exact ⟨BK _ (by omega),BK _ (by omega),by omega,by omega,BC _⟩,?_⟩
 refine And.symm ⟨λ c4=>?_,λ c4=>?_⟩
 ·try simp only [nrm] at c4
  rw [hpre] at c4;cases c4 -- done
 try simp only [nrm] at c4
 refine ⟨(decide (x.z<0),(L x.z.natAbs),(L x.d),x.good),by
  rfl,by
  try dsimp only [AO]
  first|trivial|exact ⟨by omega,by omega⟩|exact ⟨BK _ (by omega),BK _ (by omega),by omega,by omega,BC _⟩,?_⟩
 refine And.symm ⟨λ c8=>?_,λ c8=>?_⟩
 ·try simp only [nrm] at c8
  refine congrArg Value.bool ?_;unfold spn;first|(simp_all;done)|(rw [decide_eq_false (by omega)];simp_all;done)|(rw [decide_eq_true (by omega)];simp_all;done)
 try simp only [nrm] at c8
 refine ⟨(decide (y.z<0),(L y.z.natAbs),(L y.d),y.good),by
  rfl,by
  try dsimp only [AO]
  first|trivial|exact ⟨by omega,by omega⟩|exact ⟨BK _ (by omega),BK _ (by omega),by omega,by omega,BC _⟩,?_⟩
 refine And.symm ⟨λ c12=>?_,λ c12=>?_⟩
 ·try simp only [nrm] at c12
  refine congrArg Value.bool ?_;unfold spn;first|(simp_all;done)|(rw [decide_eq_false (by omega)];simp_all;done)|(rw [decide_eq_true (by omega)];simp_all;done)
 try simp only [nrm] at c12
 refine ⟨e.a.1,by
  rfl,by
  show -9223372036854775808<=e.a.1/\e.a.1<=9223372036854775807
  first|trivial|exact ⟨by omega,by omega⟩|exact ⟨BK _ (by omega),BK _ (by omega),by omega,by omega,BC _⟩,?_⟩
 refine ⟨((Fr.ofInt e.a.1),x),by
  rfl,by
  first|trivial|exact ⟨by omega,by omega⟩|exact ⟨BK _ (by omega),BK _ (by omega),by omega,by omega,BC _⟩,?_⟩
 refine And.symm ⟨λ c19=>?_,λ c19=>?_⟩
 ·try simp only [nrm] at c19
  refine congrArg Value.bool ?_;unfold spn;first|(simp_all;done)|(rw [decide_eq_false (by omega)];simp_all;done)|(rw [decide_eq_true (by omega)];simp_all;done)
 try simp only [nrm] at c19
 refine ⟨e.b.1,by
  rfl,by
  show -9223372036854775808<=e.b.1/\e.b.1<=9223372036854775807
  first|trivial|exact ⟨by omega,by omega⟩|exact ⟨BK _ (by omega),BK _ (by omega),by omega,by omega,BC _⟩,?_⟩
 refine ⟨((Fr.ofInt e.b.1),y),by
  rfl,by
  first|trivial|exact ⟨by omega,by omega⟩|exact ⟨BK _ (by omega),BK _ (by omega),by omega,by omega,BC _⟩,?_⟩
 show Value.bool (decide ((Fr.cmp (Fr.ofInt e.b.1) y)≥(0:Int)))=Value.bool (x.good && (y.good && spn e x y))
 refine congrArg Value.bool ?_;unfold spn;first|(simp_all;done)|(rw [decide_eq_false (by omega)];simp_all;done)|(rw [decide_eq_true (by omega)];simp_all;done)
theorem IW {d:Int} (h:d≠0):(d:Rat)≠0:=λ e=>h (by have:=congrArg Rat.num e;simpa using this)
theorem UB (n d:Int) (h:d≠0):mkRat (zOf (decide (n<0) != decide (d<0)) n.natAbs) d.natAbs=(n:Rat)/(d:Rat):=by
 rw [div_mk (IW h)]
 have e1:((n:Int):Rat).num=n:=by simp
 have e2:((n:Int):Rat).den=1:=by simp
 have e3:((d:Int):Rat).num=d:=by simp
 have e4:((d:Int):Rat).den=1:=by simp
 rw [e1,e2,e3,e4]
 congr 1
 ·unfold zOf
  by_cases h1:n<0 <;> by_cases h2:d<0 <;> simp [h1,h2] <;> omega
 ·omega
theorem WM {z:Int} {d:Nat} (hd:d≠0) (h1:nl z.natAbs<=24) (h2:nl d<=24):OU (mkRat z d)=true:=by
 rw [Dw,D5 hd,(EG hd).2]
 exact ⟨Nat.le_trans (Ci (Nat.div_le_self _ _)) h1,Nat.le_trans (Ci (Nat.div_le_self _ _)) h2⟩
theorem XH {n d:Int} (h:d≠0) (h1:nl n.natAbs<=24) (h2:nl d.natAbs<=24):(rOf n d).v=some ((n:Rat)/(d:Rat)):=by
 rw [G9 h]
 unfold Fr.mk'
 rw [← UB n d h]
 exact FJ (WM (by omega) (by rw [DT];exact h1) h2)
theorem SH {n d:Int} (h:d≠0):rOf n d=El ((n:Rat)/(d:Rat)):=by
 rw [G9 h];unfold Fr.mk';rw [UB n d h]
theorem J3 {r s:Fr} (hr:r.d≠0) (hs:s.d≠0) (h:Fr.cmp r s=0):r=s:=by
 obtain ⟨p,hp,e1,e2⟩:=Fr.some_d hr
 obtain ⟨q,hq,e3,e4⟩:=Fr.some_d hs
 apply Fr.ext
 rw [hp,hq]
 unfold Fr.cmp Pg at h
 rw [hp,hq] at h
 simp only at h
 by_cases h1:p<q
 ·simp [h1] at h
 ·by_cases h2:p=q
  ·rw [h2]
  ·simp [h1,h2] at h
theorem UC {e:Edg} (h:e.ok=true):(slp e).v=some (((e.b.2-e.a.2:Int):Rat)/((e.b.1-e.a.1:Int):Rat)):=by
 have hb:=Edg.bd h
 exact XH (by omega) (Nat.le_trans (BR ⟨by omega,by omega⟩) (by decide)) (Nat.le_trans (BR ⟨by omega,by omega⟩) (by decide))
theorem Vj {e:Edg} (h:e.ok=true):(slp e).d≠0:=by
 rw [Fr.d_some (UC h)];exact Rat.den_nz _
theorem VB {e f:Edg} (he:e.ok=true) (hf:f.ok=true) (h:Fr.cmp (slp e) (slp f)=0):DD e f=false:=by
 have e1:=J3 (Vj he) (Vj hf) h
 have:GD e f=Fr.none:=by
  unfold GD
  rw [← e1]
  have h0:(Fr.sub (slp e) (slp e)).v=some 0:=by
   unfold Fr.sub Fr.bin
   rw [UC he]
   simp only
   rw [Rat.sub_self]
   exact FJ (Dw.2 ⟨by show nl 0<=24;rw [CC];decide,by show nl 1<=24;rw [NF];decide⟩)
  exact Fr.div_zero h0 rfl
 unfold DD
 rw [this];rfl
theorem UD {m dy dx:Int} (h1:dy≠0) (h2:dx≠0):(m:Rat)/((dy:Rat)/(dx:Rat))=((m*dx:Int):Rat)/(dy:Rat):=by
 have h3:=IW h1
 have h4:=IW h2
 rw [Rat.intCast_mul]
 grind
theorem UE {e:Edg} {y:Int} (h:e.ok=true) (hy:-1000<=y/\y<=1000) (hn:e.a.2≠e.b.2):Fr.add (Fr.ofInt e.a.1) (rOf ((y-e.a.2)*(e.b.1-e.a.1)) (e.b.2-e.a.2))=Jq e y:=by
 have hb:=Edg.bd h
 unfold Jq
 congr 1
 have h1:(Fr.ofInt (y-e.a.2)).v=some (((y-e.a.2:Int)):Rat):=IK (Nat.le_trans (BR ⟨by omega,by omega⟩) (by decide))
 have h0:¬ (((e.b.2-e.a.2:Int):Rat)/((e.b.1-e.a.1:Int):Rat))=0:=by
  have h3:=IW (show e.b.2-e.a.2≠0 by omega)
  have h4:=IW (show e.b.1-e.a.1≠0 by omega)
  grind
 rw [SH (by omega)]
 unfold Fr.div Fr.bin
 rw [h1,UC h]
 simp only
 rw [if_neg h0,UD (by omega) (by omega)]
def IX:Con:={ ι:=Edg×Edg,pre:=λ i=>i.1.ok=true/\i.2.ok=true,args:=λ i=>[DA.agg [cI i.1.a.1,cI i.1.a.2,cI i.1.b.1,cI i.1.b.2,cI i.1.k,cB i.1.low],DA.agg [cI i.2.a.1,cI i.2.a.2,cI i.2.b.1,cI i.2.b.2,cI i.2.k,cB i.2.low]],res:=λ i=>⟨true,[some 3,none],[rcB (decide ((Cb i.1 i.2).z<0)),.own 3 [.int] (L (Cb i.1 i.2).z.natAbs),.own 3 [.int] (L (Cb i.1 i.2).d),rcB (DD i.1 i.2)]⟩ }
theorem VC:IX.Ok Tryz.prog 155:=by
 refine fok (X:=⟨tt,[(218,CG),(220,Bp),(219,CF),(129,Ab),(222,Cn),(221,C8),(214,Ad),(223,Co)],[],50,[]⟩) mixed AN (CTok.cons MS (CTok.cons LL (CTok.cons MN (CTok.cons FR (CTok.cons Oo (CTok.cons MM (CTok.cons EJ (CTok.cons Oq (CTok.nil _))))))))) Tryz.func155 (λ _=>[]) ?_
 rintro ⟨e,f⟩ hpre
 have hpre:e.ok=true/\f.ok=true:=hpre
 refine AP (q:=let Z1:=(eqM (Cb e f) ((vB false=vB (DD e f))));∃ i1:Edg,[DA.agg [cI e.a.1,cI e.a.2,cI e.b.1,cI e.b.2,cI e.k,cB e.low]]=CG.args i1/\CG.pre i1/\(ifB ((!(!i1.ok))) (∃ i2:Edg,[DA.agg [cI f.a.1,cI f.a.2,cI f.b.1,cI f.b.2,cI f.k,cB f.low]]=CG.args i2/\CG.pre i2/\(ifB ((!i2.ok)) Z1 (∃ i3:Edg,[DA.agg [cI e.a.1,cI e.a.2,cI e.b.1,cI e.b.2,cI e.k,cB e.low]]=Bp.args i3/\Bp.pre i3/\(∃ i4:Edg,[DA.agg [cI f.a.1,cI f.a.2,cI f.b.1,cI f.b.2,cI f.k,cB f.low]]=Bp.args i4/\Bp.pre i4/\(∃ i5:Fr×Fr,[dF (slp i3),dF (slp i4)]=CF.args i5/\CF.pre i5/\(∃ i6:Int,[DA.one (cI (0:Int))]=Ab.args i6/\Ab.pre i6/\(∃ i7:Edg×Fr,[DA.agg [cI f.a.1,cI f.a.2,cI f.b.1,cI f.b.2,cI f.k,cB f.low],dF (Fr.ofInt i6)]=Cn.args i7/\Cn.pre i7/\(∃ i8:Int,[DA.one (cI (0:Int))]=Ab.args i8/\Ab.pre i8/\(∃ i9:Edg×Fr,[DA.agg [cI e.a.1,cI e.a.2,cI e.b.1,cI e.b.2,cI e.k,cB e.low],dF (Fr.ofInt i8)]=Cn.args i9/\Cn.pre i9/\(∃ i10:Fr×Fr,[dF (hgt i7.1 i7.2),dF (hgt i9.1 i9.2)]=CF.args i10/\CF.pre i10/\(∃ i11:Fr×Fr,let Z2:=Fr.div i11.1 i11.2;[dF (Fr.sub i10.1 i10.2),dF (Fr.sub i5.1 i5.2)]=C8.args i11/\C8.pre i11/\(∃ i12:Fr,[dF Z2]=Ad.args i12/\Ad.pre i12/\(ifB ((!(!i12.good))) (∃ i13:Edg×Fr×Fr,[DA.agg [cI e.a.1,cI e.a.2,cI e.b.1,cI e.b.2,cI e.k,cB e.low],dF Z2,dF Z2]=Co.args i13/\Co.pre i13/\(ifB ((!(!(spn i13.1 i13.2.1 i13.2.2)))) (∃ i14:Edg×Fr×Fr,[DA.agg [cI f.a.1,cI f.a.2,cI f.b.1,cI f.b.2,cI f.k,cB f.low],dF Z2,dF Z2]=Co.args i14/\Co.pre i14/\(ifB ((!(spn i14.1 i14.2.1 i14.2.2))) Z1 ((eqD Z2 (Cb e f) ((vB true=vB (DD e f))))))) Z1)) Z1))))))))))))) Z1)) (by kernel_rfl) ?_
 conv=>zeta
 delta ifB vB
 refine ⟨e,by
  rfl,by
  first|trivial|exact hpre.1|exact hpre.2|exact ⟨by omega,by omega⟩|exact ⟨⟨by omega,by omega⟩,by omega,by omega⟩,?_⟩
 refine And.symm ⟨λ c4=>?_,λ c4=>?_⟩
 ·try simp only [nrm] at c4
  rw [hpre.1] at c4;cases c4 -- done
 try simp only [nrm] at c4
 refine ⟨f,by
  rfl,by
  first|trivial|exact hpre.1|exact hpre.2|exact ⟨by omega,by omega⟩|exact ⟨⟨by omega,by omega⟩,by omega,by omega⟩,?_⟩
 refine ⟨λ c8=>?_,λ c8=>?_⟩
 ·try simp only [nrm] at c8
  rw [hpre.2] at c8;cases c8 -- done
 try simp only [nrm] at c8
 refine ⟨e,by
  rfl,by
  show e.ok=true
  first|trivial|exact hpre.1|exact hpre.2|exact ⟨by omega,by omega⟩|exact ⟨⟨by omega,by omega⟩,by omega,by omega⟩,?_⟩
 refine ⟨f,by
  rfl,by
  show f.ok=true
  first|trivial|exact hpre.1|exact hpre.2|exact ⟨by omega,by omega⟩|exact ⟨⟨by omega,by omega⟩,by omega,by omega⟩,?_⟩
 refine ⟨((slp e),(slp f)),by
  rfl,by
  first|trivial|exact hpre.1|exact hpre.2|exact ⟨by omega,by omega⟩|exact ⟨⟨by omega,by omega⟩,by omega,by omega⟩,?_⟩
 refine ⟨(0:Int),by
  rfl,by
  show -9223372036854775808<=(0:Int)/\(0:Int)<=9223372036854775807
  first|trivial|exact hpre.1|exact hpre.2|exact ⟨by omega,by omega⟩|exact ⟨⟨by omega,by omega⟩,by omega,by omega⟩,?_⟩
 refine ⟨(f,(Fr.ofInt (0:Int))),by
  rfl,by
  show f.ok=true
  first|trivial|exact hpre.1|exact hpre.2|exact ⟨by omega,by omega⟩|exact ⟨⟨by omega,by omega⟩,by omega,by omega⟩,?_⟩
 refine ⟨(0:Int),by
  rfl,by
  show -9223372036854775808<=(0:Int)/\(0:Int)<=9223372036854775807
  first|trivial|exact hpre.1|exact hpre.2|exact ⟨by omega,by omega⟩|exact ⟨⟨by omega,by omega⟩,by omega,by omega⟩,?_⟩
 refine ⟨(e,(Fr.ofInt (0:Int))),by
  rfl,by
  show e.ok=true
  first|trivial|exact hpre.1|exact hpre.2|exact ⟨by omega,by omega⟩|exact ⟨⟨by omega,by omega⟩,by omega,by omega⟩,?_⟩
 refine ⟨((hgt f (Fr.ofInt (0:Int))),(hgt e (Fr.ofInt (0:Int)))),by
  rfl,by
  first|trivial|exact hpre.1|exact hpre.2|exact ⟨by omega,by omega⟩|exact ⟨⟨by omega,by omega⟩,by omega,by omega⟩,?_⟩
 refine ⟨((Fr.sub (hgt f (Fr.ofInt (0:Int))) (hgt e (Fr.ofInt (0:Int)))),(Fr.sub (slp e) (slp f))),by
  rfl,by
  first|trivial|exact hpre.1|exact hpre.2|exact ⟨by omega,by omega⟩|exact ⟨⟨by omega,by omega⟩,by omega,by omega⟩,?_⟩
 refine ⟨GD e f,by
  rfl,by
  first|trivial|exact hpre.1|exact hpre.2|exact ⟨by omega,by omega⟩|exact ⟨⟨by omega,by omega⟩,by omega,by omega⟩,?_⟩
 refine And.symm ⟨λ c43=>?_,λ c43=>?_⟩
 ·try simp only [nrm] at c43
  have hB:DD e f=false:=by unfold DD;simp_all
  refine Dg ?_ ?_
  ·first|exact B5 hB|exact (BY hB).symm|(rw [hB];done)
  first|exact B5 hB|exact (BY hB).symm|(rw [hB];done)
 try simp only [nrm] at c43
 refine ⟨(e,GD e f,GD e f),by
  rfl,by
  show e.ok=true
  first|trivial|exact hpre.1|exact hpre.2|exact ⟨by omega,by omega⟩|exact ⟨⟨by omega,by omega⟩,by omega,by omega⟩,?_⟩
 refine And.symm ⟨λ c47=>?_,λ c47=>?_⟩
 ·try simp only [nrm] at c47
  have hB:DD e f=false:=by unfold DD;simp_all
  refine Dg ?_ ?_
  ·first|exact B5 hB|exact (BY hB).symm|(rw [hB];done)
  first|exact B5 hB|exact (BY hB).symm|(rw [hB];done)
 try simp only [nrm] at c47
 refine ⟨(f,GD e f,GD e f),by
  rfl,by
  show f.ok=true
  first|trivial|exact hpre.1|exact hpre.2|exact ⟨by omega,by omega⟩|exact ⟨⟨by omega,by omega⟩,by omega,by omega⟩,?_⟩
 refine ⟨λ c51=>?_,λ c51=>?_⟩
 ·try simp only [nrm] at c51
  have hB:DD e f=false:=by unfold DD;simp_all
  refine Dg ?_ ?_
  ·first|exact B5 hB|exact (BY hB).symm|(rw [hB];done)
  first|exact B5 hB|exact (BY hB).symm|(rw [hB];done)
 try simp only [nrm] at c51
 have hB:DD e f=true:=by unfold DD;simp_all
 refine NE ?_ ?_
 ·show Fr.div (Fr.sub (hgt f (Fr.ofInt (0:Int))) (hgt e (Fr.ofInt (0:Int)))) (Fr.sub (slp e) (slp f))=Cb e f
  first|exact B5 hB|exact (BY hB).symm|(rw [hB];done)
 first|exact B5 hB|exact (BY hB).symm|(rw [hB];done)
def IY:Con:={ ι:=Edg×Edg,pre:=λ i=>i.1.ok=true/\i.2.ok=true,args:=λ i=>[DA.agg [cI i.1.a.1,cI i.1.a.2,cI i.1.b.1,cI i.1.b.2,cI i.1.k,cB i.1.low],DA.agg [cI i.2.a.1,cI i.2.a.2,cI i.2.b.1,cI i.2.b.2,cI i.2.k,cB i.2.low]],res:=λ i=>⟨true,[some 3,none],[rcB (decide ((Cb i.1 i.2).z<0)),.own 3 [.int] (L (Cb i.1 i.2).z.natAbs),.own 3 [.int] (L (Cb i.1 i.2).d),rcB (DD i.1 i.2)]⟩ }
theorem VD:IY.Ok Tryz.prog 92:=by
 refine fok (X:=⟨tt,[(139,A8),(140,BN),(94,Am),(90,AR),(143,CP),(142,Bs),(141,Eo),(144,CH)],[],80,[]⟩) mixed AN (CTok.cons HE (CTok.cons JA (CTok.cons Fz (CTok.cons CY (CTok.cons NN (CTok.cons LI (CTok.cons Pw (CTok.cons MT (CTok.nil _))))))))) Tryz.func92 (λ _=>[]) ?_
 rintro ⟨e,f⟩ hpre
 have hpre:e.ok=true/\f.ok=true:=hpre
 refine AP (q:=let Z1:=(eqM (Cb e f) ((vB false=vB (DD e f))));∃ i1:Edg,[DA.agg [cI e.a.1,cI e.a.2,cI e.b.1,cI e.b.2,cI e.k,cB e.low]]=A8.args i1/\A8.pre i1/\(ifB ((!(!i1.ok))) (∃ i2:Edg,[DA.agg [cI f.a.1,cI f.a.2,cI f.b.1,cI f.b.2,cI f.k,cB f.low]]=A8.args i2/\A8.pre i2/\(ifB ((!i2.ok)) Z1 (∃ i3:Int×Int,[DA.one (cI (wR (e.b.2-e.a.2))),DA.one (cI (wR (e.b.1-e.a.1)))]=BN.args i3/\BN.pre i3/\(∃ i4:Int×Int,[DA.one (cI (wR (f.b.2-f.a.2))),DA.one (cI (wR (f.b.1-f.a.1)))]=BN.args i4/\BN.pre i4/\(∃ i5:Fr×Fr,[dF (rOf i3.1 i3.2),dF (rOf i4.1 i4.2)]=Am.args i5/\Am.pre i5/\(ifB (((Fr.cmp i5.1 i5.2) == (0:Int))) Z1 (∃ i6:Int,[DA.one (cI (0:Int))]=AR.args i6/\AR.pre i6/\(∃ i7:Edg×Fr,[DA.agg [cI f.a.1,cI f.a.2,cI f.b.1,cI f.b.2,cI f.k,cB f.low],dF (Fr.ofInt i6)]=CP.args i7/\CP.pre i7/\(∃ i8:Edg×Fr,[DA.agg [cI e.a.1,cI e.a.2,cI e.b.1,cI e.b.2,cI e.k,cB e.low],dF (Fr.ofInt i6)]=CP.args i8/\CP.pre i8/\(∃ i9:Fr×Fr,[dF (hgt i7.1 i7.2),dF (hgt i8.1 i8.2)]=Bs.args i9/\Bs.pre i9/\(∃ i10:Fr×Fr,[dF (rOf i3.1 i3.2),dF (rOf i4.1 i4.2)]=Bs.args i10/\Bs.pre i10/\(∃ i11:Fr×Fr,let Z2:=Fr.div i11.1 i11.2;[dF (Fr.sub i9.1 i9.2),dF (Fr.sub i10.1 i10.2)]=Eo.args i11/\Eo.pre i11/\(∃ i12:Edg×Fr×Fr,[DA.agg [cI e.a.1,cI e.a.2,cI e.b.1,cI e.b.2,cI e.k,cB e.low],dF Z2,dF Z2]=CH.args i12/\CH.pre i12/\(ifB ((!(!(i12.2.1.good && (i12.2.2.good && spn i12.1 i12.2.1 i12.2.2))))) (∃ i13:Edg×Fr×Fr,[DA.agg [cI f.a.1,cI f.a.2,cI f.b.1,cI f.b.2,cI f.k,cB f.low],dF Z2,dF Z2]=CH.args i13/\CH.pre i13/\(ifB ((!(i13.2.1.good && (i13.2.2.good && spn i13.1 i13.2.1 i13.2.2)))) Z1 ((eqD Z2 (Cb e f) ((vB true=vB (DD e f))))))) Z1)))))))))))))) Z1)) (by kernel_rfl) ?_
 conv=>zeta
 delta ifB vB wR
 have hb:=Edg.bd hpre.1
 have hf:=Edg.bd hpre.2
 have hw1:IntKind.i64.wrap (e.b.2-e.a.2)=e.b.2-e.a.2:=AB (by omega) (by omega)
 have hw2:IntKind.i64.wrap (e.b.1-e.a.1)=e.b.1-e.a.1:=AB (by omega) (by omega)
 have hw3:IntKind.i64.wrap (f.b.2-f.a.2)=f.b.2-f.a.2:=AB (by omega) (by omega)
 have hw4:IntKind.i64.wrap (f.b.1-f.a.1)=f.b.1-f.a.1:=AB (by omega) (by omega)
 refine ⟨e,by
  first|rfl|(rw [hw1,hw2];rfl)|(rw [hw3,hw4];rfl),by
  first|trivial|exact hpre.1|exact hpre.2|exact ⟨by omega,by omega⟩|exact ⟨⟨by omega,by omega⟩,by omega,by omega⟩,?_⟩
 refine And.symm ⟨λ c4=>?_,λ c4=>?_⟩
 ·try simp only [nrm] at c4
  rw [hpre.1] at c4;cases c4 -- done
 try simp only [nrm] at c4
 refine ⟨f,by
  first|rfl|(rw [hw1,hw2];rfl)|(rw [hw3,hw4];rfl),by
  first|trivial|exact hpre.1|exact hpre.2|exact ⟨by omega,by omega⟩|exact ⟨⟨by omega,by omega⟩,by omega,by omega⟩,?_⟩
 refine ⟨λ c8=>?_,λ c8=>?_⟩
 ·try simp only [nrm] at c8
  rw [hpre.2] at c8;cases c8 -- done
 try simp only [nrm] at c8
 refine ⟨(e.b.2-e.a.2,e.b.1-e.a.1),by
  first|rfl|(rw [hw1,hw2];rfl)|(rw [hw3,hw4];rfl),by
  show (-9223372036854775808<=(e.b.2-e.a.2)/\(e.b.2-e.a.2)<=9223372036854775807)/\(-9223372036854775808<=(e.b.1-e.a.1)/\(e.b.1-e.a.1)<=9223372036854775807)
  first|trivial|exact hpre.1|exact hpre.2|exact ⟨by omega,by omega⟩|exact ⟨⟨by omega,by omega⟩,by omega,by omega⟩,?_⟩
 refine ⟨(f.b.2-f.a.2,f.b.1-f.a.1),by
  first|rfl|(rw [hw1,hw2];rfl)|(rw [hw3,hw4];rfl),by
  show (-9223372036854775808<=(f.b.2-f.a.2)/\(f.b.2-f.a.2)<=9223372036854775807)/\(-9223372036854775808<=(f.b.1-f.a.1)/\(f.b.1-f.a.1)<=9223372036854775807)
  first|trivial|exact hpre.1|exact hpre.2|exact ⟨by omega,by omega⟩|exact ⟨⟨by omega,by omega⟩,by omega,by omega⟩,?_⟩
 refine ⟨(slp e,slp f),by
  first|rfl|(rw [hw1,hw2];rfl)|(rw [hw3,hw4];rfl),by
  first|trivial|exact hpre.1|exact hpre.2|exact ⟨by omega,by omega⟩|exact ⟨⟨by omega,by omega⟩,by omega,by omega⟩,?_⟩
 refine ⟨λ c22=>?_,λ c22=>?_⟩
 ·try simp only [nrm] at c22
  have hB:=VB hpre.1 hpre.2 c22
  refine Dg ?_ ?_
  ·first|exact B5 hB|exact (BY hB).symm|(rw [hB];done)
  first|exact B5 hB|exact (BY hB).symm|(rw [hB];done)
 try simp only [nrm] at c22
 refine ⟨(0:Int),by
  first|rfl|(rw [hw1,hw2];rfl)|(rw [hw3,hw4];rfl),by
  show -9223372036854775808<=(0:Int)/\(0:Int)<=9223372036854775807
  first|trivial|exact hpre.1|exact hpre.2|exact ⟨by omega,by omega⟩|exact ⟨⟨by omega,by omega⟩,by omega,by omega⟩,?_⟩
 refine ⟨(f,(Fr.ofInt (0:Int))),by
  first|rfl|(rw [hw1,hw2];rfl)|(rw [hw3,hw4];rfl),by
  show f.ok=true
  first|trivial|exact hpre.1|exact hpre.2|exact ⟨by omega,by omega⟩|exact ⟨⟨by omega,by omega⟩,by omega,by omega⟩,?_⟩
 refine ⟨(e,(Fr.ofInt (0:Int))),by
  first|rfl|(rw [hw1,hw2];rfl)|(rw [hw3,hw4];rfl),by
  show e.ok=true
  first|trivial|exact hpre.1|exact hpre.2|exact ⟨by omega,by omega⟩|exact ⟨⟨by omega,by omega⟩,by omega,by omega⟩,?_⟩
 refine ⟨((hgt f (Fr.ofInt (0:Int))),(hgt e (Fr.ofInt (0:Int)))),by
  first|rfl|(rw [hw1,hw2];rfl)|(rw [hw3,hw4];rfl),by
  first|trivial|exact hpre.1|exact hpre.2|exact ⟨by omega,by omega⟩|exact ⟨⟨by omega,by omega⟩,by omega,by omega⟩,?_⟩
 refine ⟨(slp e,slp f),by
  first|rfl|(rw [hw1,hw2];rfl)|(rw [hw3,hw4];rfl),by
  first|trivial|exact hpre.1|exact hpre.2|exact ⟨by omega,by omega⟩|exact ⟨⟨by omega,by omega⟩,by omega,by omega⟩,?_⟩
 refine ⟨((Fr.sub (hgt f (Fr.ofInt (0:Int))) (hgt e (Fr.ofInt (0:Int)))),(Fr.sub (slp e) (slp f))),by
  first|rfl|(rw [hw1,hw2];rfl)|(rw [hw3,hw4];rfl),by
  first|trivial|exact hpre.1|exact hpre.2|exact ⟨by omega,by omega⟩|exact ⟨⟨by omega,by omega⟩,by omega,by omega⟩,?_⟩
 refine ⟨(e,GD e f,GD e f),by
  first|rfl|(rw [hw1,hw2];rfl)|(rw [hw3,hw4];rfl),by
  show e.ok=true
  first|trivial|exact hpre.1|exact hpre.2|exact ⟨by omega,by omega⟩|exact ⟨⟨by omega,by omega⟩,by omega,by omega⟩,?_⟩
 refine And.symm ⟨λ c48=>?_,λ c48=>?_⟩
 ·try simp only [nrm] at c48
  have hB:DD e f=false:=by unfold DD;rcases c48 with h|h|h <;> simp [h]
  refine Dg ?_ ?_
  ·first|exact B5 hB|exact (BY hB).symm|(rw [hB];done)
  first|exact B5 hB|exact (BY hB).symm|(rw [hB];done)
 try simp only [nrm] at c48
 refine ⟨(f,GD e f,GD e f),by
  first|rfl|(rw [hw1,hw2];rfl)|(rw [hw3,hw4];rfl),by
  show f.ok=true
  first|trivial|exact hpre.1|exact hpre.2|exact ⟨by omega,by omega⟩|exact ⟨⟨by omega,by omega⟩,by omega,by omega⟩,?_⟩
 refine ⟨λ c52=>?_,λ c52=>?_⟩
 ·try simp only [nrm] at c52
  have hB:DD e f=false:=by unfold DD;simp_all
  refine Dg ?_ ?_
  ·first|exact B5 hB|exact (BY hB).symm|(rw [hB];done)
  first|exact B5 hB|exact (BY hB).symm|(rw [hB];done)
 try simp only [nrm] at c52
 have hB:DD e f=true:=by unfold DD;simp_all
 refine NE ?_ ?_
 ·show Fr.div (Fr.sub (hgt f (Fr.ofInt (0:Int))) (hgt e (Fr.ofInt (0:Int)))) (Fr.sub (slp e) (slp f))=Cb e f
  first|exact B5 hB|exact (BY hB).symm|(rw [hB];done)
 first|exact B5 hB|exact (BY hB).symm|(rw [hB];done)
def CM:Con:={ ι:=Edg×Int,pre:=λ i=>i.1.ok=true/\(-9223372036854775808<=i.2/\i.2<=9223372036854775807),args:=λ i=>[DA.agg [cI i.1.a.1,cI i.1.a.2,cI i.1.b.1,cI i.1.b.2,cI i.1.k,cB i.1.low],.one (cI i.2)],res:=λ i=>⟨true,[some 3,none],[rcB (decide ((As i.1 i.2).z<0)),.own 3 [.int] (L (As i.1 i.2).z.natAbs),.own 3 [.int] (L (As i.1 i.2).d),rcB (Bm i.1 i.2)]⟩ }
theorem VE:CM.Ok Tryz.prog 156:=by
 refine fok (X:=⟨tt,[(218,CG),(85,C5),(129,Ab),(220,Bp),(221,C8),(224,Bx),(214,Ad),(223,Co)],[],51,[]⟩) mixed AN (CTok.cons MS (CTok.cons MD (CTok.cons FR (CTok.cons LL (CTok.cons MM (CTok.cons I5 (CTok.cons EJ (CTok.cons Oq (CTok.nil _))))))))) Tryz.func156 (λ _=>[]) ?_
 rintro ⟨e,y⟩ hpre
 have hpre:e.ok=true/\(-9223372036854775808<=y/\y<=9223372036854775807):=hpre
 refine AP (q:=let Z1:=(eqM (As e y) ((vB false=vB (Bm e y))));∃ i1:Edg,[DA.agg [cI e.a.1,cI e.a.2,cI e.b.1,cI e.b.2,cI e.k,cB e.low]]=CG.args i1/\CG.pre i1/\(ifB ((!(!i1.ok))) (ifB ((!(e.a.2 == e.b.2))) (∃ i2:Int×Int×Int,[DA.one (cI y),DA.one (cI (-1000:Int)),DA.one (cI (1000:Int))]=C5.args i2/\C5.pre i2/\(ifB ((!(decide (i2.1≥i2.2.1) && decide (i2.1<=i2.2.2)))) Z1 (∃ i3:Int,[DA.one (cI e.a.1)]=Ab.args i3/\Ab.pre i3/\(∃ i4:Int,[DA.one (cI (wR (y-e.a.2)))]=Ab.args i4/\Ab.pre i4/\(∃ i5:Edg,[DA.agg [cI e.a.1,cI e.a.2,cI e.b.1,cI e.b.2,cI e.k,cB e.low]]=Bp.args i5/\Bp.pre i5/\(∃ i6:Fr×Fr,[dF (Fr.ofInt i4),dF (slp i5)]=C8.args i6/\C8.pre i6/\(∃ i7:Fr×Fr,let Z2:=Fr.add i7.1 i7.2;[dF (Fr.ofInt i3),dF (Fr.div i6.1 i6.2)]=Bx.args i7/\Bx.pre i7/\(∃ i8:Fr,[dF Z2]=Ad.args i8/\Ad.pre i8/\(ifB ((!(!i8.good))) (∃ i9:Edg×Fr×Fr,[DA.agg [cI e.a.1,cI e.a.2,cI e.b.1,cI e.b.2,cI e.k,cB e.low],dF Z2,dF Z2]=Co.args i9/\Co.pre i9/\(ifB ((!(spn i9.1 i9.2.1 i9.2.2))) Z1 ((eqD Z2 (As e y) ((vB true=vB (Bm e y))))))) Z1))))))))) Z1) Z1)) (by kernel_rfl) ?_
 conv=>zeta
 delta ifB vB wR
 have hb:=Edg.bd hpre.1
 refine ⟨e,by
  first|rfl|(rw [hw3];rfl),by
  first|trivial|exact hpre.1|exact hpre.2|exact ⟨by omega,by omega⟩|exact ⟨⟨by omega,by omega⟩,by omega,by omega⟩,?_⟩
 refine And.symm ⟨λ c4=>?_,λ c4=>?_⟩
 ·try simp only [nrm] at c4
  rw [hpre.1] at c4;cases c4 -- done
 try simp only [nrm] at c4
 refine And.symm ⟨λ c5=>?_,λ c5=>?_⟩
 ·try simp only [nrm] at c5
  have hB:Bm e y=false:=by unfold Bm;simp_all
  refine Dg ?_ ?_
  ·first|exact Bu hB|exact (BL hB).symm|(rw [hB];done)
  first|exact Bu hB|exact (BL hB).symm|(rw [hB];done)
 try simp only [nrm] at c5
 refine ⟨(y,(-1000:Int),(1000:Int)),by
  first|rfl|(rw [hw3];rfl),by
  first|trivial|exact hpre.1|exact hpre.2|exact ⟨by omega,by omega⟩|exact ⟨⟨by omega,by omega⟩,by omega,by omega⟩,?_⟩
 refine ⟨λ c9=>?_,λ c9=>?_⟩
 ·try simp only [nrm] at c9
  have hB:Bm e y=false:=by
   have e0:(decide (y≥-1000) && decide (y<=1000))=false:=by simp;omega
   unfold Bm;rw [e0];simp
  refine Dg ?_ ?_
  ·first|exact Bu hB|exact (BL hB).symm|(rw [hB];done)
  first|exact Bu hB|exact (BL hB).symm|(rw [hB];done)
 try simp only [nrm] at c9
 have hw3:IntKind.i64.wrap (y-e.a.2)=y-e.a.2:=AB (by omega) (by omega)
 refine ⟨e.a.1,by
  first|rfl|(rw [hw3];rfl),by
  show -9223372036854775808<=e.a.1/\e.a.1<=9223372036854775807
  first|trivial|exact hpre.1|exact hpre.2|exact ⟨by omega,by omega⟩|exact ⟨⟨by omega,by omega⟩,by omega,by omega⟩,?_⟩
 refine ⟨y-e.a.2,by
  first|rfl|(rw [hw3];rfl),by
  show -9223372036854775808<=(y-e.a.2)/\(y-e.a.2)<=9223372036854775807
  first|trivial|exact hpre.1|exact hpre.2|exact ⟨by omega,by omega⟩|exact ⟨⟨by omega,by omega⟩,by omega,by omega⟩,?_⟩
 refine ⟨e,by
  first|rfl|(rw [hw3];rfl),by
  show e.ok=true
  first|trivial|exact hpre.1|exact hpre.2|exact ⟨by omega,by omega⟩|exact ⟨⟨by omega,by omega⟩,by omega,by omega⟩,?_⟩
 refine ⟨((Fr.ofInt (y-e.a.2)),(slp e)),by
  first|rfl|(rw [hw3];rfl),by
  first|trivial|exact hpre.1|exact hpre.2|exact ⟨by omega,by omega⟩|exact ⟨⟨by omega,by omega⟩,by omega,by omega⟩,?_⟩
 refine ⟨((Fr.ofInt e.a.1),(Fr.div (Fr.ofInt (y-e.a.2)) (slp e))),by
  first|rfl|(rw [hw3];rfl),by
  first|trivial|exact hpre.1|exact hpre.2|exact ⟨by omega,by omega⟩|exact ⟨⟨by omega,by omega⟩,by omega,by omega⟩,?_⟩
 refine ⟨Jq e y,by
  first|rfl|(rw [hw3];rfl),by
  first|trivial|exact hpre.1|exact hpre.2|exact ⟨by omega,by omega⟩|exact ⟨⟨by omega,by omega⟩,by omega,by omega⟩,?_⟩
 refine And.symm ⟨λ c32=>?_,λ c32=>?_⟩
 ·try simp only [nrm] at c32
  have hB:Bm e y=false:=by unfold Bm;simp_all
  refine Dg ?_ ?_
  ·first|exact Bu hB|exact (BL hB).symm|(rw [hB];done)
  first|exact Bu hB|exact (BL hB).symm|(rw [hB];done)
 try simp only [nrm] at c32
 refine ⟨(e,Jq e y,Jq e y),by
  first|rfl|(rw [hw3];rfl),by
  show e.ok=true
  first|trivial|exact hpre.1|exact hpre.2|exact ⟨by omega,by omega⟩|exact ⟨⟨by omega,by omega⟩,by omega,by omega⟩,?_⟩
 refine ⟨λ c36=>?_,λ c36=>?_⟩
 ·try simp only [nrm] at c36
  have hB:Bm e y=false:=by unfold Bm;simp_all
  refine Dg ?_ ?_
  ·first|exact Bu hB|exact (BL hB).symm|(rw [hB];done)
  first|exact Bu hB|exact (BL hB).symm|(rw [hB];done)
 try simp only [nrm] at c36
 have hB:Bm e y=true:=by unfold Bm;simp_all
 refine NE ?_ ?_
 ·show Fr.add (Fr.ofInt e.a.1) (Fr.div (Fr.ofInt (y-e.a.2)) (slp e))=As e y
  first|exact Bu hB|exact (BL hB).symm|(rw [hB];done)
 first|exact Bu hB|exact (BL hB).symm|(rw [hB];done)
def Gd:Con:={ ι:=Edg×Int,pre:=λ i=>i.1.ok=true/\(-9223372036854775808<=i.2/\i.2<=9223372036854775807),args:=λ i=>[DA.agg [cI i.1.a.1,cI i.1.a.2,cI i.1.b.1,cI i.1.b.2,cI i.1.k,cB i.1.low],.one (cI i.2)],res:=λ i=>⟨true,[some 3,none],[rcB (decide ((As i.1 i.2).z<0)),.own 3 [.int] (L (As i.1 i.2).z.natAbs),.own 3 [.int] (L (As i.1 i.2).d),rcB (Bm i.1 i.2)]⟩ }
theorem VF:Gd.Ok Tryz.prog 93:=by
 refine fok (X:=⟨tt,[(139,A8),(80,Dc),(90,AR),(140,BN),(145,CZ),(144,CH)],[],58,[]⟩) mixed AN (CTok.cons HE (CTok.cons OP (CTok.cons CY (CTok.cons JA (CTok.cons LH (CTok.cons MT (CTok.nil _))))))) Tryz.func93 (λ _=>[]) ?_
 rintro ⟨e,y⟩ hpre
 have hpre:e.ok=true/\(-9223372036854775808<=y/\y<=9223372036854775807):=hpre
 refine AP (q:=let Z1:=(eqM (As e y) ((vB false=vB (Bm e y))));∃ i1:Edg,[DA.agg [cI e.a.1,cI e.a.2,cI e.b.1,cI e.b.2,cI e.k,cB e.low]]=A8.args i1/\A8.pre i1/\(ifB ((!(!i1.ok))) (ifB ((!(e.a.2 == e.b.2))) (∃ i2:Int×Int×Int,[DA.one (cI y),DA.one (cI (-1000:Int)),DA.one (cI (1000:Int))]=Dc.args i2/\Dc.pre i2/\(ifB ((!(decide (i2.1≥i2.2.1) && decide (i2.1<=i2.2.2)))) Z1 (∃ i3:Int,[DA.one (cI e.a.1)]=AR.args i3/\AR.pre i3/\(∃ i4:Int×Int,[DA.one (cI (wR ((wR (y-e.a.2))*(wR (e.b.1-e.a.1))))),DA.one (cI (wR (e.b.2-e.a.2)))]=BN.args i4/\BN.pre i4/\(∃ i5:Fr×Fr,let Z2:=Fr.add i5.1 i5.2;[dF (Fr.ofInt i3),dF (rOf i4.1 i4.2)]=CZ.args i5/\CZ.pre i5/\(∃ i6:Edg×Fr×Fr,[DA.agg [cI e.a.1,cI e.a.2,cI e.b.1,cI e.b.2,cI e.k,cB e.low],dF Z2,dF Z2]=CH.args i6/\CH.pre i6/\(ifB ((!(i6.2.1.good && (i6.2.2.good && spn i6.1 i6.2.1 i6.2.2)))) Z1 ((eqD Z2 (As e y) ((vB true=vB (Bm e y)))))))))))) Z1) Z1)) (by kernel_rfl) ?_
 conv=>zeta
 delta ifB vB wR
 have hb:=Edg.bd hpre.1
 have hw1:IntKind.i64.wrap (e.b.2-e.a.2)=e.b.2-e.a.2:=AB (by omega) (by omega)
 have hw2:IntKind.i64.wrap (e.b.1-e.a.1)=e.b.1-e.a.1:=AB (by omega) (by omega)
 refine ⟨e,by
  first|rfl|(rw [hw3,hw2,hw4,hw1];rfl)|(rw [hL];rfl),by
  first|trivial|exact hpre.1|exact hpre.2|exact ⟨by omega,by omega⟩|exact ⟨⟨by omega,by omega⟩,by omega,by omega⟩,?_⟩
 refine And.symm ⟨λ c4=>?_,λ c4=>?_⟩
 ·try simp only [nrm] at c4
  rw [hpre.1] at c4;cases c4 -- done
 try simp only [nrm] at c4
 refine And.symm ⟨λ c5=>?_,λ c5=>?_⟩
 ·try simp only [nrm] at c5
  have hB:Bm e y=false:=by unfold Bm;simp_all
  refine Dg ?_ ?_
  ·first|exact Bu hB|exact (BL hB).symm|(rw [hB];done)
  first|exact Bu hB|exact (BL hB).symm|(rw [hB];done)
 try simp only [nrm] at c5
 refine ⟨(y,(-1000:Int),(1000:Int)),by
  first|rfl|(rw [hw3,hw2,hw4,hw1];rfl)|(rw [hL];rfl),by
  first|trivial|exact hpre.1|exact hpre.2|exact ⟨by omega,by omega⟩|exact ⟨⟨by omega,by omega⟩,by omega,by omega⟩,?_⟩
 refine ⟨λ c9=>?_,λ c9=>?_⟩
 ·try simp only [nrm] at c9
  have hB:Bm e y=false:=by
   have e0:(decide (y≥-1000) && decide (y<=1000))=false:=by simp;omega
   unfold Bm;rw [e0];simp
  refine Dg ?_ ?_
  ·first|exact Bu hB|exact (BL hB).symm|(rw [hB];done)
  first|exact Bu hB|exact (BL hB).symm|(rw [hB];done)
 try simp only [nrm] at c9
 have hw3:IntKind.i64.wrap (y-e.a.2)=y-e.a.2:=AB (by omega) (by omega)
 have hm:=Nat.mul_le_mul (show (y-e.a.2).natAbs<=2000 by omega) (show (e.b.1-e.a.1).natAbs<=2000 by omega)
 rw [← Int.natAbs_mul] at hm
 have hw4:IntKind.i64.wrap ((y-e.a.2)*(e.b.1-e.a.1))=(y-e.a.2)*(e.b.1-e.a.1):=AB (by omega) (by omega)
 have hL:=UE hpre.1 c9 c5
 refine ⟨e.a.1,by
  first|rfl|(rw [hw3,hw2,hw4,hw1];rfl)|(rw [hL];rfl),by
  show -9223372036854775808<=e.a.1/\e.a.1<=9223372036854775807
  first|trivial|exact hpre.1|exact hpre.2|exact ⟨by omega,by omega⟩|exact ⟨⟨by omega,by omega⟩,by omega,by omega⟩,?_⟩
 refine ⟨((y-e.a.2)*(e.b.1-e.a.1),e.b.2-e.a.2),by
  first|rfl|(rw [hw3,hw2,hw4,hw1];rfl)|(rw [hL];rfl),by
  try dsimp only [BN]
  first|trivial|exact hpre.1|exact hpre.2|exact ⟨by omega,by omega⟩|exact ⟨⟨by omega,by omega⟩,by omega,by omega⟩,?_⟩
 refine ⟨((Fr.ofInt e.a.1),(rOf ((y-e.a.2)*(e.b.1-e.a.1)) (e.b.2-e.a.2))),by
  first|rfl|(rw [hw3,hw2,hw4,hw1];rfl)|(rw [hL];rfl),by
  first|trivial|exact hpre.1|exact hpre.2|exact ⟨by omega,by omega⟩|exact ⟨⟨by omega,by omega⟩,by omega,by omega⟩,?_⟩
 refine ⟨(e,Jq e y,Jq e y),by
  first|rfl|(rw [hw3,hw2,hw4,hw1];rfl)|(rw [hL];rfl),by
  show e.ok=true
  first|trivial|exact hpre.1|exact hpre.2|exact ⟨by omega,by omega⟩|exact ⟨⟨by omega,by omega⟩,by omega,by omega⟩,?_⟩
 refine ⟨λ c26=>?_,λ c26=>?_⟩
 ·try simp only [nrm] at c26
  have hB:Bm e y=false:=by unfold Bm;rcases c26 with h|h|h <;> simp [h]
  refine Dg ?_ ?_
  ·first|exact Bu hB|exact (BL hB).symm|(rw [hB];done)
  first|exact Bu hB|exact (BL hB).symm|(rw [hB];done)
 try simp only [nrm] at c26
 have hB:Bm e y=true:=by unfold Bm;simp_all
 refine NE ?_ ?_
 ·show Fr.add (Fr.ofInt e.a.1) (rOf ((y-e.a.2)*(e.b.1-e.a.1)) (e.b.2-e.a.2))=As e y
  rw [hL,BL hB]
 first|exact Bu hB|exact (BL hB).symm|(rw [hB];done)
def VG (e:Edg):List Dat:=[.int e.a.1,.int e.a.2,.int e.b.1,.int e.b.2,.int e.k,.bool e.low]
def Ai (l:List Edg):List (List Dat):=l.map VG
theorem AA (l:List Edg):(Ai l).length=l.length:=List.length_map ..
theorem EO (a b:List Edg):Ai (a++b)=Ai a++Ai b:=List.map_append ..
def Jk (a b:V2) (k:Int):List Edg:=if a.1<b.1 then [⟨a,b,k,true⟩] else if b.1<a.1 then [⟨b,a,k,false⟩] else []
def Bo (l:List V2) (k:Int):Nat->List Edg
 | 0=>[]
 | i+1=>Bo l k i++Jk (l.getD i (0,0)) (l.getD ((i+1)%l.length) (0,0)) k
def Cc (l:List V2) (k:Int):List Edg:=Bo l k l.length
def B0 (ls:List (List V2)):Nat->List Edg
 | 0=>[]
 | i+1=>B0 ls i++Cc (ls.getD i []) (i:Int)
theorem Q0 {l:List V2} {k:Int} {i:Nat} (h:(l.getD i (0,0)).1<(l.getD ((i+1)%l.length) (0,0)).1):Ai (Bo l k i)++[VG ⟨l.getD i (0,0),l.getD ((i+1)%l.length) (0,0),k,true⟩]=Ai (Bo l k (i+1)):=by
 rw [Bo,EO,Jk,if_pos h];rfl
theorem Q1 {l:List V2} {k:Int} {i:Nat} (h:(l.getD ((i+1)%l.length) (0,0)).1<(l.getD i (0,0)).1):Ai (Bo l k i)++[VG ⟨l.getD ((i+1)%l.length) (0,0),l.getD i (0,0),k,false⟩]=Ai (Bo l k (i+1)):=by
 rw [Bo,EO,Jk,if_neg (by omega),if_pos h];rfl
theorem Q2 {l:List V2} {k:Int} {i:Nat} (h1:¬ (l.getD i (0,0)).1<(l.getD ((i+1)%l.length) (0,0)).1) (h2:¬ (l.getD ((i+1)%l.length) (0,0)).1<(l.getD i (0,0)).1):Ai (Bo l k i)=Ai (Bo l k (i+1)):=by
 rw [Bo,Jk,if_neg h1,if_neg h2,List.append_nil]
theorem UF {a b:V2} {k:Int} (ha:A0 a=true) (hb:A0 b=true):∀ e ∈ Jk a b k,e.ok=true:=by
 intro e he
 unfold Jk at he
 split at he
 ·rename_i h
  obtain rfl:=List.mem_singleton.1 he
  unfold Edg.ok;simp [ha,hb,h]
 ·split at he
  ·rename_i h
   obtain rfl:=List.mem_singleton.1 he
   unfold Edg.ok;simp [ha,hb,h]
  ·cases he
theorem SI (a b:V2) (k:Int):(Jk a b k).length<=1:=by unfold Jk;split <;> (try split) <;> simp
theorem Or {l:List V2} {k:Int} (h:l.all A0=true):∀ i,i<=l.length->∀ e ∈ Bo l k i,e.ok=true
 | 0,_=>λ e he=>by cases he
 | i+1,hi=>λ e he=>by
  rcases List.mem_append.1 he with h1|h1
  ·exact Or h i (by omega) e h1
  ·exact UF (Ep h (by omega)) (Ep h (Nat.mod_lt _ (by omega))) e h1
theorem EP (l:List V2) (k:Int):∀ i,(Bo l k i).length<=i
 | 0=>Nat.le_refl _
 | i+1=>by
  have h1:=EP l k i
  have h2:=SI (l.getD i (0,0)) (l.getD ((i+1)%l.length) (0,0)) k
  simp only [Bo,List.length_append];omega
theorem MU (l:List V2) (k:Int) (i:Nat):(Ai (Bo l k i)).length<=i:=by rw [AA];exact EP l k i
def BZ (ls:List (List V2)):Bool:=ls.all Ae
theorem FU {ls:List (List V2)} (h:BZ ls=true) {i:Nat} (hi:i<ls.length):Ae (ls.getD i [])=true:=List.all_eq_true.1 h _ (by simp [List.getD,hi])
theorem BS {l:List V2} (h:Ae l=true):l.all A0=true/\3<=l.length/\l.length<=16:=by
 simp only [Ae,Bool.and_eq_true] at h
 have h1:=h.1.1
 unfold inR at h1
 simp only [Bool.and_eq_true,decide_eq_true_eq] at h1
 exact ⟨h.1.2,by omega,by omega⟩
theorem MV {ls:List (List V2)} (h:BZ ls=true):∀ i,i<=ls.length->∀ e ∈ B0 ls i,e.ok=true
 | 0,_=>λ e he=>by cases he
 | i+1,hi=>λ e he=>by
  rcases List.mem_append.1 he with h1|h1
  ·exact MV h i (by omega) e h1
  ·exact Or (BS (FU h (by omega))).1 _ (Nat.le_refl _) e h1
theorem Hq {ls:List (List V2)} (h:BZ ls=true):∀ i,i<=ls.length->(B0 ls i).length<=16*i
 | 0,_=>Nat.le_refl _
 | i+1,hi=>by
  have h1:=Hq h i (by omega)
  have h2:=EP (ls.getD i []) (i:Int) (ls.getD i []).length
  have h3:=(BS (FU h (show i<ls.length by omega))).2.2
  simp only [B0,Cc,List.length_append];omega
def E6 (ls:List (List V2)):Nat->Nat
 | 0=>0
 | k+1=>E6 ls k+(ls.getD k []).length
theorem NO (ls:List (List V2)):∀ j k,E6 ls j<=E6 ls (j+k)
 | j,0=>Nat.le_refl _
 | j,k+1=>Nat.le_trans (NO ls j k) (Nat.le_add_right _ _)
theorem LM (ls:List (List V2)):∀ k,(B0 ls k).length<=E6 ls k
 | 0=>Nat.le_refl _
 | k+1=>by
  have h1:=LM ls k
  have h2:=EP (ls.getD k []) (k:Int) (ls.getD k []).length
  simp only [B0,Cc,List.length_append,E6];omega
def edA (ls:List (List V2)):List Edg:=B0 ls ls.length
def noE:Edg:=⟨(0,0),(0,0),0,false⟩
theorem NP {ls:List (List V2)} (h:BZ ls=true) {i:Nat} (hi:i<(edA ls).length):((edA ls).getD i noE).ok=true:=
 MV h _ (Nat.le_refl _) _ (by simp [List.getD,hi];exact List.getElem_mem _)
theorem Cx {es:List Edg} {i:Nat} (hi:i<es.length):(Ai es).getD i []=VG (es.getD i noE):=by simp [Ai,List.getD,hi]
theorem AJ (es:List Edg) (i:Nat):(Ai es).take i=Ai (es.take i):=by unfold Ai;rw [List.map_take]
theorem Q3 {es:List Edg} {i n:Nat} (hn:n<i):(es.take i).getD n noE=es.getD n noE:=by simp [List.getD,List.getElem?_take,hn]
def F3:Con:={ ι:=(List V2)×Int,pre:=λ i=>Ae i.1=true,args:=λ i=>[.one (DC.sl 39 [.int,.int] (An i.1)),.one (cI i.2)],res:=λ i=>⟨false,[none],[.own 140 [.int,.int,.int,.int,.int,.bool] (Ai (Cc i.1 i.2))]⟩ }
theorem SJ:F3.Ok Tryz.prog 217:=by
 refine fok (X:=⟨tt,[],[],53,[]⟩) mixed AN (CTok.nil _) Tryz.func217 (λ (i:(List V2)×Int)=>[(3,.mk 3 (Nat) (λ x1=>{ tm:=[(0,tX 1),(1,tI i.2),(10,tX 1),(11,tI (nI ((An i.1).length))),(12,tI (nI x1)),(5,tX 2)],en:=[(1,.view 39 [.int,.int] (An i.1) []),(2,.own 140 Ko (Ai (Bo i.1 i.2 x1)))] }) (λ x1=>x1<=i.1.length) (λ x1=>i.1.length-x1) (λ _=>[]))]) ?_
 rintro ⟨l,k⟩ hpre
 have hpre:Ae l=true:=hpre
 refine AP (q:=let Z11:=((An l).length:Int);let Z10:=List Dat;let Z3:=nI ((An l).length);(∃ x1:Nat,(x1<=l.length)/\((rf (vI k))/\(rf (vI Z3))/\(vI (0:Int)=vI (nI x1))/\(rf (An l))/\(([]:List Z10)=(Ai (Bo l k x1)))))/\∀ x1:Nat,let Z6:=Ai (Bo l k x1);let Z5:=((((An l).getD x1 []).getD 1 (.int 0))).n;let Z4:=wR ((nI x1)+(1:Int));let Z9:=Int.tmod Z4 Z3;let Z2:=(((An l).getD x1 []).getD 0 (.int 0));let Z1:=(An l).getD (Z9.toNat) [];let Z8:=((Z1.getD 1 (.int 0))).n;let Z7:=(Z1.getD 0 (.int 0));(x1<=l.length)->(ifB ((decide ((nI x1)<Z3))) ((0<=(nI x1)/\(nI x1)<Z11)/\((x1<(An l).length)/\((Z3≠0)/\((0<=Z9/\Z9<Z11)/\((Z9.toNat<(An l).length)/\(ifB ((decide (Z2.n<Z7.n))) ((Z6.length+([[Dat.int (Z2.n),Dat.int Z5,Dat.int (Z7.n),Dat.int Z8,Dat.int k,Dat.bool true]]:List Z10).length<=2199023255552)/\(∃ y2:Nat,(y2<=l.length)/\(l.length-y2<l.length-x1)/\((rf (vI k))/\(rf (vI Z3))/\(vI Z4=vI (nI y2))/\(rf (An l))/\((Z6++([[Dat.int (Z2.n),Dat.int Z5,Dat.int (Z7.n),Dat.int Z8,Dat.int k,Dat.bool true]]:List Z10))=(Ai (Bo l k y2)))))) (ifB ((decide (Z2.n>Z7.n))) ((Z6.length+([[Dat.int (Z7.n),Dat.int Z8,Dat.int (Z2.n),Dat.int Z5,Dat.int k,Dat.bool false]]:List Z10).length<=2199023255552)/\(∃ y3:Nat,(y3<=l.length)/\(l.length-y3<l.length-x1)/\((rf (vI k))/\(rf (vI Z3))/\(vI Z4=vI (nI y3))/\(rf (An l))/\((Z6++([[Dat.int (Z7.n),Dat.int Z8,Dat.int (Z2.n),Dat.int Z5,Dat.int k,Dat.bool false]]:List Z10))=(Ai (Bo l k y3)))))) (∃ y4:Nat,(y4<=l.length)/\(l.length-y4<l.length-x1)/\((rf (vI k))/\(rf (vI Z3))/\(vI Z4=vI (nI y4))/\(rf (An l))/\(Z6=(Ai (Bo l k y4)))))))))))) ((Z6=Ai (Cc l k))))) (by kernel_rfl) ?_
 conv=>zeta
 delta ifB vI wR nI
 have hV:=(BS hpre).1
 have h3:=(BS hpre).2.1
 have h16:=(BS hpre).2.2
 have hvl:=AF l
 refine ⟨⟨0,by
  first|trivial|omega|(simp;omega),?_⟩,?_⟩
 ·refine ⟨rfl,rfl,?_,rfl,?_⟩
  ·first|rfl|(simp;done)
  first|rfl|(simp;done)
 intro (i:Nat) hki1
 have hki1:i<=l.length:=hki1
 refine And.symm ⟨λ c8=>?_,λ c8=>?_⟩
 ·try simp only [nrm] at c8
  have hE:i=l.length:=by omega
  rw [hE];rfl
 try simp only [nrm] at c8
 have hil:i<l.length:=by omega
 have m2:(i+1)%l.length<l.length:=(FT hil (by omega)).2.1
 have m1:(Int.tmod (IntKind.i64.wrap (((i:Nat):Int)+(1:Int))) (((An l).length:Nat):Int)).toNat=(i+1)%l.length:=by rw [hvl];exact (FT hil (by omega)).1
 have m3:Int.tmod (IntKind.i64.wrap (((i:Nat):Int)+(1:Int))) (((An l).length:Nat):Int)=(((i+1)%l.length:Nat):Int):=by rw [hvl];exact (FT hil (by omega)).2.2
 have hel:=MU l k i
 
 refine ao (by first|omega|(rw [m3];omega)|(rw [m1];omega)|(simp only [List.length_append,List.length_cons,List.length_nil];omega)) λ o9=>?_
 refine ao (by first|omega|(rw [m3];omega)|(rw [m1];omega)|(simp only [List.length_append,List.length_cons,List.length_nil];omega)) λ o10=>?_
 refine ao (by first|omega|(rw [m3];omega)|(rw [m1];omega)|(simp only [List.length_append,List.length_cons,List.length_nil];omega)) λ o11=>?_
 refine ao (by first|omega|(rw [m3];omega)|(rw [m1];omega)|(simp only [List.length_append,List.length_cons,List.length_nil];omega)) λ o12=>?_
 refine ao (by first|omega|(rw [m3];omega)|(rw [m1];omega)|(simp only [List.length_append,List.length_cons,List.length_nil];omega)) λ o13=>?_
 refine ⟨λ c14=>?_,λ c14=>?_⟩
 ·try dsimp only at c14
  try simp only [nrm] at c14
  rw [m1,BF hil,BF m2] at c14
  refine ao (by first|omega|(rw [m3];omega)|(rw [m1];omega)|(simp only [List.length_append,List.length_cons,List.length_nil];omega)) λ o15=>?_
  refine ⟨i+1,by
   first|trivial|omega|(simp;omega),by
   first|omega|(simp;omega),?_⟩
  refine ⟨rfl,rfl,?_,rfl,?_⟩
  ·first|rfl|exact AU (AB (by omega) (by omega))
  rw [m1,BF hil,Gc hil,BF m2,Gc m2];exact Q0 c14
 try dsimp only at c14
 try simp only [nrm] at c14
 rw [m1,BF hil,BF m2] at c14
 refine And.symm ⟨λ c24=>?_,λ c24=>?_⟩
 ·try dsimp only at c24
  try simp only [nrm] at c24
  rw [m1,BF hil,BF m2] at c24
  refine ⟨i+1,by
   first|trivial|omega|(simp;omega),by
   first|omega|(simp;omega),?_⟩
  refine ⟨rfl,rfl,?_,rfl,?_⟩
  ·first|rfl|exact AU (AB (by omega) (by omega))
  exact Q2 (by omega) (by omega)
 try dsimp only at c24
 try simp only [nrm] at c24
 rw [m1,BF hil,BF m2] at c24
 refine ao (by first|omega|(rw [m3];omega)|(rw [m1];omega)|(simp only [List.length_append,List.length_cons,List.length_nil];omega)) λ o25=>?_
 refine ⟨i+1,by
  first|trivial|omega|(simp;omega),by
  first|omega|(simp;omega),?_⟩
 refine ⟨rfl,rfl,?_,rfl,?_⟩
 ·first|rfl|exact AU (AB (by omega) (by omega))
 rw [m1,BF hil,Gc hil,BF m2,Gc m2];exact Q1 c24
def F4:Con:={ ι:=(List V2)×Int,pre:=λ i=>Ae i.1=true,args:=λ i=>[.one (DC.sl 39 [.int,.int] (An i.1)),.one (cI i.2)],res:=λ i=>⟨false,[none],[.own 140 [.int,.int,.int,.int,.int,.bool] (Ai (Cc i.1 i.2))]⟩ }
theorem SK:F4.Ok Tryz.prog 138:=by
 refine fok (X:=⟨tt,[],[],51,[]⟩) mixed AN (CTok.nil _) Tryz.func138 (λ (i:(List V2)×Int)=>[(3,.mk 3 (Nat) (λ x1=>{ tm:=[(0,tX 1),(1,tI i.2),(10,tX 1),(11,tI (nI ((An i.1).length))),(12,tI (nI x1)),(5,tX 2)],en:=[(1,.view 39 [.int,.int] (An i.1) []),(2,.own 140 Ko (Ai (Bo i.1 i.2 x1)))] }) (λ x1=>x1<=i.1.length) (λ x1=>i.1.length-x1) (λ _=>[]))]) ?_
 rintro ⟨l,k⟩ hpre
 have hpre:Ae l=true:=hpre
 refine AP (q:=let Z12:=((An l).length:Int);let Z10:=List Dat;let Z5:=nI ((An l).length);(∃ x1:Nat,(x1<=l.length)/\((rf (vI k))/\(rf (vI Z5))/\(vI (0:Int)=vI (nI x1))/\(rf (An l))/\(([]:List Z10)=(Ai (Bo l k x1)))))/\∀ x1:Nat,let Z9:=Ai (Bo l k x1);let Z6:=wR ((nI x1)+(1:Int));let Z11:=Int.tmod Z6 Z5;let Z4:=((((An l).getD x1 []).getD 1 (.int 0))).n;let Z3:=(((An l).getD x1 []).getD 0 (.int 0));let Z1:=(An l).getD (Z11.toNat) [];let Z8:=((Z1.getD 1 (.int 0))).n;let Z7:=(Z1.getD 0 (.int 0));let Z13:=(decide (Z3.n>Z7.n));let Z2:=Z9++([[Dat.int (Z3.n),Dat.int Z4,Dat.int (Z7.n),Dat.int Z8,Dat.int k,Dat.bool true]]:List Z10);(x1<=l.length)->(ifB ((decide ((nI x1)<Z5))) ((0<=(nI x1)/\(nI x1)<Z12)/\((x1<(An l).length)/\((Z5≠0)/\((0<=Z11/\Z11<Z12)/\((Z11.toNat<(An l).length)/\(ifB ((decide (Z3.n<Z7.n))) ((Z9.length+([[Dat.int (Z3.n),Dat.int Z4,Dat.int (Z7.n),Dat.int Z8,Dat.int k,Dat.bool true]]:List Z10).length<=2199023255552)/\(ifB Z13 ((Z2.length+([[Dat.int (Z7.n),Dat.int Z8,Dat.int (Z3.n),Dat.int Z4,Dat.int k,Dat.bool false]]:List Z10).length<=2199023255552)/\(∃ y2:Nat,(y2<=l.length)/\(l.length-y2<l.length-x1)/\((rf (vI k))/\(rf (vI Z5))/\(vI Z6=vI (nI y2))/\(rf (An l))/\((Z2++([[Dat.int (Z7.n),Dat.int Z8,Dat.int (Z3.n),Dat.int Z4,Dat.int k,Dat.bool false]]:List Z10))=(Ai (Bo l k y2)))))) (∃ y3:Nat,(y3<=l.length)/\(l.length-y3<l.length-x1)/\((rf (vI k))/\(rf (vI Z5))/\(vI Z6=vI (nI y3))/\(rf (An l))/\(Z2=(Ai (Bo l k y3))))))) (ifB Z13 ((Z9.length+([[Dat.int (Z7.n),Dat.int Z8,Dat.int (Z3.n),Dat.int Z4,Dat.int k,Dat.bool false]]:List Z10).length<=2199023255552)/\(∃ y4:Nat,(y4<=l.length)/\(l.length-y4<l.length-x1)/\((rf (vI k))/\(rf (vI Z5))/\(vI Z6=vI (nI y4))/\(rf (An l))/\((Z9++([[Dat.int (Z7.n),Dat.int Z8,Dat.int (Z3.n),Dat.int Z4,Dat.int k,Dat.bool false]]:List Z10))=(Ai (Bo l k y4)))))) (∃ y5:Nat,(y5<=l.length)/\(l.length-y5<l.length-x1)/\((rf (vI k))/\(rf (vI Z5))/\(vI Z6=vI (nI y5))/\(rf (An l))/\(Z9=(Ai (Bo l k y5)))))))))))) ((Z9=Ai (Cc l k))))) (by kernel_rfl) ?_
 conv=>zeta
 delta ifB vI wR nI
 have hV:=(BS hpre).1
 have h3:=(BS hpre).2.1
 have h16:=(BS hpre).2.2
 have hvl:=AF l
 refine ⟨⟨0,by
  first|trivial|omega|(simp;omega),?_⟩,?_⟩
 ·refine ⟨rfl,rfl,?_,rfl,?_⟩
  ·first|rfl|(simp;done)
  first|rfl|(simp;done)
 intro (i:Nat) hki1
 have hki1:i<=l.length:=hki1
 refine And.symm ⟨λ c8=>?_,λ c8=>?_⟩
 ·try simp only [nrm] at c8
  have hE:i=l.length:=by omega
  rw [hE];rfl
 try simp only [nrm] at c8
 have hil:i<l.length:=by omega
 have m2:(i+1)%l.length<l.length:=(FT hil (by omega)).2.1
 have m1:(Int.tmod (IntKind.i64.wrap (((i:Nat):Int)+(1:Int))) (((An l).length:Nat):Int)).toNat=(i+1)%l.length:=by rw [hvl];exact (FT hil (by omega)).1
 have m3:Int.tmod (IntKind.i64.wrap (((i:Nat):Int)+(1:Int))) (((An l).length:Nat):Int)=(((i+1)%l.length:Nat):Int):=by rw [hvl];exact (FT hil (by omega)).2.2
 have hel:=MU l k i
 
 refine ao (by first|omega|(rw [m3];omega)|(rw [m1];omega)|(simp only [List.length_append,List.length_cons,List.length_nil];omega)) λ o9=>?_
 refine ao (by first|omega|(rw [m3];omega)|(rw [m1];omega)|(simp only [List.length_append,List.length_cons,List.length_nil];omega)) λ o10=>?_
 refine ao (by first|omega|(rw [m3];omega)|(rw [m1];omega)|(simp only [List.length_append,List.length_cons,List.length_nil];omega)) λ o11=>?_
 refine ao (by first|omega|(rw [m3];omega)|(rw [m1];omega)|(simp only [List.length_append,List.length_cons,List.length_nil];omega)) λ o12=>?_
 refine ao (by first|omega|(rw [m3];omega)|(rw [m1];omega)|(simp only [List.length_append,List.length_cons,List.length_nil];omega)) λ o13=>?_
 refine ⟨λ c14=>?_,λ c14=>?_⟩
 ·try dsimp only at c14
  try simp only [nrm] at c14
  rw [m1,BF hil,BF m2] at c14
  refine ao (by first|omega|(rw [m3];omega)|(rw [m1];omega)|(simp only [List.length_append,List.length_cons,List.length_nil];omega)) λ o15=>?_
  refine ⟨λ c16=>?_,λ c16=>?_⟩
  ·try dsimp only at c16
   try simp only [nrm] at c16
   rw [m1,BF hil,BF m2] at c16
   exfalso;omega -- done
  try dsimp only at c16
  try simp only [nrm] at c16
  rw [m1,BF hil,BF m2] at c16
  refine ⟨i+1,by
   first|trivial|omega|(simp;omega),by
   first|omega|(simp;omega),?_⟩
  refine ⟨rfl,rfl,?_,rfl,?_⟩
  ·first|rfl|exact AU (AB (by omega) (by omega))
  rw [m1,BF hil,Gc hil,BF m2,Gc m2];exact Q0 c14
 try dsimp only at c14
 try simp only [nrm] at c14
 rw [m1,BF hil,BF m2] at c14
 refine And.symm ⟨λ c34=>?_,λ c34=>?_⟩
 ·try dsimp only at c34
  try simp only [nrm] at c34
  rw [m1,BF hil,BF m2] at c34
  refine ⟨i+1,by
   first|trivial|omega|(simp;omega),by
   first|omega|(simp;omega),?_⟩
  refine ⟨rfl,rfl,?_,rfl,?_⟩
  ·first|rfl|exact AU (AB (by omega) (by omega))
  exact Q2 (by omega) (by omega)
 try dsimp only at c34
 try simp only [nrm] at c34
 rw [m1,BF hil,BF m2] at c34
 refine ao (by first|omega|(rw [m3];omega)|(rw [m1];omega)|(simp only [List.length_append,List.length_cons,List.length_nil];omega)) λ o35=>?_
 refine ⟨i+1,by
  first|trivial|omega|(simp;omega),by
  first|omega|(simp;omega),?_⟩
 refine ⟨rfl,rfl,?_,rfl,?_⟩
 ·first|rfl|exact AU (AB (by omega) (by omega))
 rw [m1,BF hil,Gc hil,BF m2,Gc m2];exact Q1 c34
def Es:Con:={ ι:=(List V2),pre:=λ i=>True,args:=λ i=>[.one (DC.sl 39 [.int,.int] (An i))],res:=λ i=>⟨false,[none],[rcB (!(Ae i))]⟩ }
theorem P1:Es.Ok Tryz.prog 149:=by
 refine fok (X:=⟨tt,[(150,Eq)],[],6,[]⟩) mixed AN (CTok.cons Pz (CTok.nil _)) Tryz.func149 (λ _=>[]) ?_
 intro (l:List V2) hpre
 have hpre:True:=hpre
 refine AP (q:=∃ i1:(List V2),[DA.one (DC.sl 39 [.int,.int] (An l))]=Eq.args i1/\Eq.pre i1/\((vB (!(Ae i1))=vB (!(Ae l))))) (by kernel_rfl) ?_
 delta vB
 refine ⟨l,by
  rfl,by
  first|trivial|(first|omega|assumption|exact hpre.1|exact hpre.2|(simp;done)),?_⟩
 exact rfl
def F5:Con:={ ι:=(List (List V2)),pre:=λ i=>i.length<=9223372036854775807,args:=λ i=>[.one (DC.sl 40 [.sl 39 [.int,.int]] (AW i)),.one (.ro (.fn 149 []))],tag:=150,res:=λ i=>⟨false,[none],[rcI (NK (λ z=>!(Ae z)) i)]⟩ }
theorem SL:F5.Ok Tryz.prog 186:=by
 refine fok (X:=⟨tt,[(149,Es)],[],19,[]⟩) mixed AN (CTok.cons P1 (CTok.nil _)) Tryz.func186 (λ (i:(List (List V2)))=>[(2,.mk 3 (Nat) (λ x1=>{ tm:=[(0,tX 1),(1,tX 2),(7,tI (nI ((AW i).length))),(8,tI (nI x1))],en:=[(1,.view 40 [.sl 39 [.int,.int]] (AW i) []),(2,.ro (.fn 149 []) [])] }) (λ x1=>x1<=i.length/\∀ j,j<x1->(λ z=>!(Ae z)) (i.getD j [])=false) (λ x1=>i.length-x1) (λ _=>[]))]) ?_
 intro (l:List (List V2)) hpre
 have hpre:l.length<=9223372036854775807:=hpre
 refine AP (q:=let Z3:=NK (λ z=>!(Ae z)) l;let Z2:=(.fn 149 []:RO)=.fn 149 [];let Z1:=AW l;let Z4:=nI (Z1.length);(∃ x1:Nat,(x1<=l.length/\∀ j,j<x1->(λ z=>!(Ae z)) (l.getD j [])=false)/\((rf (vI Z4))/\(vI (0:Int)=vI (nI x1))/\(rf Z1)/\Z2))/\∀ x1:Nat,(x1<=l.length/\∀ j,j<x1->(λ z=>!(Ae z)) (l.getD j [])=false)->(ifB ((decide ((nI x1)<Z4))) ((0<=(nI x1)/\(nI x1)<(Z1.length:Int))/\((x1<Z1.length)/\(∃ i1:(List V2),[DA.one (DC.sl 39 [.int,.int] ((((Z1.getD x1 []).getD 0 (.int 0))).r))]=Es.args i1/\Es.pre i1/\(ifB ((!(Ae i1))) ((vI (nI x1)=vI Z3)) (∃ y2:Nat,(y2<=l.length/\∀ j,j<y2->(λ z=>!(Ae z)) (l.getD j [])=false)/\(l.length-y2<l.length-x1)/\((rf (vI Z4))/\(vI (wR ((nI x1)+(1:Int)))=vI (nI y2))/\(rf Z1)/\Z2)))))) ((vI (-1:Int)=vI Z3)))) (by kernel_rfl) ?_
 conv=>zeta
 delta ifB vI wR nI
 have hal:=BG l
 refine ⟨⟨0,by
  exact ⟨Nat.zero_le _,λ j hj=>absurd hj (Nat.not_lt_zero j)⟩,?_⟩,?_⟩
 ·refine ⟨rfl,?_,rfl,?_⟩
  ·first|rfl|(simp;done)
  first|rfl|(simp;done)
 intro (k:Nat) hki1
 have hki1:k<=l.length/\∀ j,j<k->(λ z=>!(Ae z)) (l.getD j [])=false:=hki1
 refine And.symm ⟨λ c7=>?_,λ c7=>?_⟩
 ·try simp only [nrm] at c7
  rw [SF (d:=[]) (λ j hj=>hki1.2 j (by omega))]
 try simp only [nrm] at c7
 refine ao (by first|omega) λ o8=>?_
 refine ao (by first|omega) λ o9=>?_
 refine ⟨(l.getD k []),by
  rw [AL (by omega)];rfl,by
  first|trivial|(first|omega|assumption|exact hpre.1|exact hpre.2|(simp;done)),?_⟩
 refine ⟨λ c13=>?_,λ c13=>?_⟩
 ·try simp only [nrm] at c13
  rw [U9 (d:=[]) (by omega) hki1.2 (by show (!(Ae (l.getD k [])))=true;rw [c13];rfl)]
 try simp only [nrm] at c13
 refine ⟨k+1,by
  exact ⟨by omega,II hki1.2 (by show (!(Ae (l.getD k [])))=false;rw [c13];rfl)⟩,by
  first|omega|(simp;omega),?_⟩
 refine ⟨rfl,?_,rfl,?_⟩
 ·first|rfl|exact AU (AB (by omega) (by omega))
 first|rfl|exact AU (AB (by omega) (by omega))
def F6:Con:={ ι:=(List (List V2)),pre:=λ i=>i.length<=9223372036854775807,args:=λ i=>[.one (DC.sl 40 [.sl 39 [.int,.int]] (AW i)),.one (.ro (.fn 149 []))],tag:=150,res:=λ i=>⟨false,[none],[rcB (i.any (λ z=>!(Ae z)))]⟩ }
theorem SM:F6.Ok Tryz.prog 124:=by
 refine fok (X:=⟨tt,[(186,F5)],[],9,[]⟩) mixed AN (CTok.cons SL (CTok.nil _)) Tryz.func124 (λ _=>[]) ?_
 intro (l:List (List V2)) hpre
 have hpre:l.length<=9223372036854775807:=hpre
 refine AP (q:=∃ i1:(List (List V2)),[DA.one (DC.sl 40 [.sl 39 [.int,.int]] (AW l)),DA.one (DC.ro (.fn 149 []))]=F5.args i1/\F5.pre i1/\((vB (decide ((NK (λ z=>!(Ae z)) i1)≥(0:Int)))=vB (l.any (λ z=>!(Ae z)))))) (by kernel_rfl) ?_
 delta vB
 refine ⟨l,by
  rfl,by
  exact hpre,?_⟩
 exact congrArg Value.bool (T8 _ _)
def Cd:Con:={ ι:=(List (List V2)),pre:=λ i=>i.length<=9223372036854775807,args:=λ i=>[.one (DC.sl 40 [.sl 39 [.int,.int]] (AW i))],res:=λ i=>⟨false,[none],[rcB (BZ i)]⟩ }
theorem LN:Cd.Ok Tryz.prog 96:=by
 refine fok (X:=⟨tt,[(124,F6)],[],6,[]⟩) mixed AN (CTok.cons SM (CTok.nil _)) Tryz.func96 (λ _=>[]) ?_
 intro (l:List (List V2)) hpre
 have hpre:l.length<=9223372036854775807:=hpre
 refine AP (q:=∃ i1:(List (List V2)),[DA.one (DC.sl 40 [.sl 39 [.int,.int]] (AW l)),DA.one (DC.ro (.fn 149 []))]=F6.args i1/\F6.pre i1/\((vB (!(i1.any (λ z=>!(Ae z))))=vB (BZ l)))) (by kernel_rfl) ?_
 delta vB
 refine ⟨l,by
  rfl,by
  exact hpre,?_⟩
 exact congrArg Value.bool (by unfold BZ;simp [List.not_any_eq_all_not])
def EC:Con:={ ι:=(List (List V2)),pre:=λ i=>BZ i=true/\i.length<=1048576,args:=λ i=>[.one (DC.sl 40 [.sl 39 [.int,.int]] (AW i))],res:=λ i=>⟨false,[none],[.own 140 [.int,.int,.int,.int,.int,.bool] (Ai (edA i))]⟩ }
theorem Ot:EC.Ok Tryz.prog 154:=by
 refine fok (X:=⟨tt,[(96,Cd),(217,F3)],[],24,[]⟩) mixed AN (CTok.cons LN (CTok.cons SJ (CTok.nil _))) Tryz.func154 (λ (i:(List (List V2)))=>[(5,.mk 3 (Nat) (λ x1=>{ tm:=[(10,tX 1),(11,tI (nI ((AW i).length))),(12,tI (nI x1)),(3,tX 2)],en:=[(1,.view 40 [.sl 39 [.int,.int]] (AW i) []),(2,.own 140 Ko (Ai (B0 i x1)))] }) (λ x1=>x1<=i.length) (λ x1=>i.length-x1) (λ _=>[]))]) ?_
 intro (l:List (List V2)) hpre
 have hpre:BZ l=true/\l.length<=1048576:=hpre
 refine AP (q:=let Z1:=AW l;let Z3:=nI (Z1.length);∃ i1:(List (List V2)),[DA.one (DC.sl 40 [.sl 39 [.int,.int]] Z1)]=Cd.args i1/\Cd.pre i1/\(ifB ((!(BZ i1))) ((([]:List (List Dat))=Ai (edA l))) ((∃ x1:Nat,(x1<=l.length)/\((rf (vI Z3))/\(vI (0:Int)=vI (nI x1))/\(rf Z1)/\(([]:List (List Dat))=(Ai (B0 l x1)))))/\∀ x1:Nat,let Z2:=Ai (B0 l x1);(x1<=l.length)->(ifB ((decide ((nI x1)<Z3))) ((0<=(nI x1)/\(nI x1)<(Z1.length:Int))/\((x1<Z1.length)/\(∃ i2:(List V2)×Int,[DA.one (DC.sl 39 [.int,.int] ((((Z1.getD x1 []).getD 0 (.int 0))).r)),DA.one (cI (nI x1))]=F3.args i2/\F3.pre i2/\((Z2.length+(Ai (Cc i2.1 i2.2)).length<=2199023255552)/\(∃ y2:Nat,(y2<=l.length)/\(l.length-y2<l.length-x1)/\((rf (vI Z3))/\(vI (wR ((nI x1)+(1:Int)))=vI (nI y2))/\(rf Z1)/\((Z2++Ai (Cc i2.1 i2.2))=(Ai (B0 l y2))))))))) ((Z2=Ai (edA l))))))) (by kernel_rfl) ?_
 conv=>zeta
 delta ifB vI wR nI
 have hal:=BG l
 refine ⟨l,by
  first|rfl|(rw [AL (by omega)];rfl),by
  show l.length<=9223372036854775807
  first|omega|exact hP|trivial,?_⟩
 refine ⟨λ c4=>?_,λ c4=>?_⟩
 ·try simp only [nrm] at c4
  rw [hpre.1] at c4;cases c4 -- done
 try simp only [nrm] at c4
 refine ⟨⟨0,by
  first|trivial|omega|(simp;omega),?_⟩,?_⟩
 ·refine ⟨rfl,?_,rfl,?_⟩
  ·first|rfl|(simp;done)
  first|rfl|(simp;done)
 intro (k:Nat) hki6
 have hki6:k<=l.length:=hki6
 refine And.symm ⟨λ c12=>?_,λ c12=>?_⟩
 ·try simp only [nrm] at c12
  have hE:k=l.length:=by omega
  first|contradiction|(rw [hE];rfl)
 try simp only [nrm] at c12
 have hkl:k<l.length:=by omega
 have hP:=FU hpre.1 hkl
 have h16:=(BS hP).2.2
 have hl1:=Hq hpre.1 k (by omega)
 have hl2:=EP (l.getD k []) (k:Int) (l.getD k []).length
 rw [show Bo (l.getD k []) (k:Int) (l.getD k []).length=Cc (l.getD k []) (k:Int) from rfl] at hl2
 refine ao (by first|omega|(rw [AA,AA];omega)) λ o13=>?_
 refine ao (by first|omega|(rw [AA,AA];omega)) λ o14=>?_
 refine ⟨(l.getD k [],((k:Nat):Int)),by
  first|rfl|(rw [AL (by omega)];rfl),by
  show Ae (l.getD k [])=true
  first|omega|exact hP|trivial,?_⟩
 refine ao (a:=(Ai (B0 l k)).length+(Ai (Cc (l.getD k []) ((k:Nat):Int))).length<=2199023255552) (by first|omega|(rw [AA,AA];omega)) λ o18=>?_
 refine ⟨k+1,by
  first|trivial|omega|(simp;omega),by
  first|omega|(simp;omega),?_⟩
 refine ⟨rfl,?_,rfl,?_⟩
 ·first|rfl|exact (EO _ _).symm|exact AU (AB (by omega) (by omega))
 show ((Ai (B0 l k))++Ai (Cc (l.getD k []) ((k:Nat):Int)))=(Ai (B0 l (k+1)))
 first|rfl|exact (EO _ _).symm|exact AU (AB (by omega) (by omega))
def ED:Con:={ ι:=(List (List V2)),pre:=λ i=>BZ i=true/\i.length<=1048576,args:=λ i=>[.one (DC.sl 40 [.sl 39 [.int,.int]] (AW i))],res:=λ i=>⟨false,[none],[.own 140 [.int,.int,.int,.int,.int,.bool] (Ai (edA i))]⟩ }
theorem Ou:ED.Ok Tryz.prog 91:=by
 refine fok (X:=⟨tt,[(89,Ca),(138,F4)],[],24,[]⟩) mixed AN (CTok.cons LK (CTok.cons SK (CTok.nil _))) Tryz.func91 (λ (i:(List (List V2)))=>[(3,.mk 3 (Nat) (λ x1=>{ tm:=[(7,tX 1),(8,tI (nI ((AW i).length))),(9,tI (nI x1)),(3,tX 2)],en:=[(1,.view 40 [.sl 39 [.int,.int]] (AW i) []),(2,.own 140 Ko (Ai (B0 i x1)))] }) (λ x1=>x1<=i.length) (λ x1=>i.length-x1) (λ _=>[]))]) ?_
 intro (l:List (List V2)) hpre
 have hpre:BZ l=true/\l.length<=1048576:=hpre
 refine AP (q:=let Z2:=AW l;let Z4:=nI (Z2.length);(∃ x1:Nat,(x1<=l.length)/\((rf (vI Z4))/\(vI (0:Int)=vI (nI x1))/\(rf Z2)/\(([]:List (List Dat))=(Ai (B0 l x1)))))/\∀ x1:Nat,let Z3:=Ai (B0 l x1);let Z1:=DC.sl 39 [.int,.int] ((((Z2.getD x1 []).getD 0 (.int 0))).r);(x1<=l.length)->(ifB ((decide ((nI x1)<Z4))) ((0<=(nI x1)/\(nI x1)<(Z2.length:Int))/\((x1<Z2.length)/\(∃ i1:(List V2),[DA.one Z1]=Ca.args i1/\Ca.pre i1/\(ifB ((!(Ae i1))) ((([]:List (List Dat))=Ai (edA l))) (∃ i2:(List V2)×Int,[DA.one Z1,DA.one (cI (nI x1))]=F4.args i2/\F4.pre i2/\((Z3.length+(Ai (Cc i2.1 i2.2)).length<=2199023255552)/\(∃ y2:Nat,(y2<=l.length)/\(l.length-y2<l.length-x1)/\((rf (vI Z4))/\(vI (wR ((nI x1)+(1:Int)))=vI (nI y2))/\(rf Z2)/\((Z3++Ai (Cc i2.1 i2.2))=(Ai (B0 l y2))))))))))) ((Z3=Ai (edA l))))) (by kernel_rfl) ?_
 conv=>zeta
 delta ifB vI wR nI
 have hal:=BG l
 refine ⟨⟨0,by
  first|trivial|omega|(simp;omega),?_⟩,?_⟩
 ·refine ⟨rfl,?_,rfl,?_⟩
  ·first|rfl|(simp;done)
  first|rfl|(simp;done)
 intro (k:Nat) hki1
 have hki1:k<=l.length:=hki1
 refine And.symm ⟨λ c7=>?_,λ c7=>?_⟩
 ·try simp only [nrm] at c7
  have hE:k=l.length:=by omega
  first|contradiction|(rw [hE];rfl)
 try simp only [nrm] at c7
 have hkl:k<l.length:=by omega
 have hP:=FU hpre.1 hkl
 have h16:=(BS hP).2.2
 have hl1:=Hq hpre.1 k (by omega)
 have hl2:=EP (l.getD k []) (k:Int) (l.getD k []).length
 rw [show Bo (l.getD k []) (k:Int) (l.getD k []).length=Cc (l.getD k []) (k:Int) from rfl] at hl2
 refine ao (by first|omega|(rw [AA,AA];omega)) λ o8=>?_
 refine ao (by first|omega|(rw [AA,AA];omega)) λ o9=>?_
 refine ⟨(l.getD k []),by
  first|rfl|(rw [AL (by omega)];rfl),by
  first|omega|exact hP|trivial,?_⟩
 refine ⟨λ c13=>?_,λ c13=>?_⟩
 ·try simp only [nrm] at c13
  rw [hP] at c13;cases c13 -- done
 try simp only [nrm] at c13
 refine ⟨(l.getD k [],((k:Nat):Int)),by
  first|rfl|(rw [AL (by omega)];rfl),by
  show Ae (l.getD k [])=true
  first|omega|exact hP|trivial,?_⟩
 refine ao (a:=(Ai (B0 l k)).length+(Ai (Cc (l.getD k []) ((k:Nat):Int))).length<=2199023255552) (by first|omega|(rw [AA,AA];omega)) λ o18=>?_
 refine ⟨k+1,by
  first|trivial|omega|(simp;omega),by
  first|omega|(simp;omega),?_⟩
 refine ⟨rfl,?_,rfl,?_⟩
 ·first|rfl|exact (EO _ _).symm|exact AU (AB (by omega) (by omega))
 show ((Ai (B0 l k))++Ai (Cc (l.getD k []) ((k:Nat):Int)))=(Ai (B0 l (k+1)))
 first|rfl|exact (EO _ _).symm|exact AU (AB (by omega) (by omega))
end Go.Proofs.YtmedodfenejimaaGreat
