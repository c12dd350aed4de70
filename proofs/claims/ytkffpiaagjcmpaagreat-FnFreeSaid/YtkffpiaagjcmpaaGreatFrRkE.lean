import Derived.Test.YtkffpiaagjcmpaaGreatFrRkM
import Derived.Test.YtkffpiaagjcmpaaGreatFrNum3
namespace Go.Proofs.YtkffpiaagjcmpaaGreat
set_option maxRecDepth 100000
set_option linter.unusedVariables false
set_option linter.unusedSimpArgs false
open Go.RowKit
theorem AAt (r:Fr):decide ((((L r.d).length:Nat):Int)>(0:Int))=r.good:=by
 rw [← Fr.d_good'];congr 1;apply propext;omega
theorem AAu:nl 1=1:=Xd (by decide) (by decide)
theorem De {z:Int} {d:Nat} (hd:d≠0) (h1:nl (z.natAbs/z.natAbs.gcd d)<=24) (h2:nl (d/z.natAbs.gcd d)<=24) :
  decide ((Fr.mk' z d).z<0)=decide (z<0)/\(Fr.mk' z d).z.natAbs=z.natAbs/z.natAbs.gcd d/\(Fr.mk' z d).d=d/z.natAbs.gcd d:=by
 have hv:(Fr.mk' z d).v=some (mkRat z d):=CD (DM.2 ⟨by rw [Dd hd];exact h1,by rw [(Dq hd).2];exact h2⟩)
 exact ⟨by rw [Fr.z_some hv,VP hd],by rw [Fr.z_some hv,Dd hd],by rw [Fr.d_some hv,(Dq hd).2]⟩
theorem MH {n:Int} (h:nl n.natAbs<=24):(Fr.ofInt n).z=n/\(Fr.ofInt n).d=1:=by
 rw [Fr.z_some (Kr h),Fr.d_some (Kr h),Rat.num_intCast,Rat.den_intCast];exact ⟨rfl,rfl⟩
theorem UM (neg:Bool) (m:Nat):decide (zOf neg m<0)=(neg && decide ((((L m).length:Nat):Int)>(0:Int))):=by
 rw [Xq];congr 2;apply propext;omega
theorem MI {r:Fr} (h:r.good=false):r.d=0:=Classical.byContradiction λ h2=>by rw [Fr.d_good.2 h2] at h;cases h
theorem Ei {r:Fr} (h:r.good=true):r.d≠0:=Fr.d_good.1 h
theorem ACC {z:Int} (h:(L z.natAbs).length=0):z=0:=by
 rw [BD] at h
 have:=D8.1 h
 omega
theorem ABZ {z:Int} (h:(L z.natAbs).length≠0):z≠0:=by
 rintro rfl
 exact h (by rw [BD];exact CR)
theorem UN (l:List (List Dat)):l.all (λ r=>inB (rn r))=!(l.any λ r=>!(inB (rn r))):=by rw [List.all_eq_not_any_not]
theorem Ss {l:List (List Dat)} (h:60<l.length):BQ l=false:=by
 unfold BQ;rw [decide_eq_false (show ¬ l.length<=60 by omega)];rfl
theorem Su {l:List (List Dat)} (h:(l.any λ r=>!(inB (rn r)))=true):BQ l=false:=by
 unfold BQ;rw [UN,h];simp
theorem Sv {l:List (List Dat)} (h:l.length=0):BQ l=true:=by
 rw [List.eq_nil_of_length_eq_zero h];rfl
theorem Qo {l:List (List Dat)} (h1:l.length<=60) (h:(l.any λ r=>!(inB (rn r)))=false) (h0:l.length≠0):BQ l=(rn (l.getD (l.length-1) []) != 0):=by
 unfold BQ
 rw [UN,h,decide_eq_true h1,decide_eq_false h0]
 generalize rn (l.getD (l.length-1) [])=v
 by_cases hv:v=0 <;> simp [hv]
theorem Sw {m:List (List Dat)} (h:BQ m=true):CX true m=!(((m.length:Nat):Int) == (0:Int)):=by
 unfold CX;rw [h]
 by_cases hv:m.length=0
 ·rw [hv];rfl
 ·have:((((m.length:Nat):Int)) == (0:Int))=false:=by rw [beq_eq_false_iff_ne];omega
  rw [this];simp [hv]
theorem Sx {neg:Bool} {m:List (List Dat)} (h:CX neg m=true):BQ m=true:=by
 unfold CX at h;rw [Bool.and_eq_true] at h;exact h.1
theorem FB {neg:Bool} {m d:List (List Dat)} (h:CX neg m=false∨BQ d=false∨d.length=0∨24<m.length∨24<d.length):BR neg m d=false:=by
 unfold BR
 rcases h with h|h|h|h|h
 ·rw [h];rfl
 ·rw [h];simp
 ·simp [h]
 ·rw [decide_eq_false (show ¬ m.length<=24 by omega)];simp
 ·rw [decide_eq_false (show ¬ d.length<=24 by omega)];simp
theorem Sy {neg:Bool} {m d:List (List Dat)} (h1:CX neg m=true) (h2:BQ d=true) (h3:d.length≠0) (h4:m.length<=24) (h5:d.length<=24):BR neg m d=decide ((He m).gcd (He d)=1):=by
 unfold BR;rw [h1,h2,decide_eq_false h3,decide_eq_true h4,decide_eq_true h5];rfl
theorem MJ {n:Int} (h:-9223372036854775808<=n/\n<=9223372036854775807):nl n.natAbs<=24:=(D9 _ _).2 (Nat.lt_of_le_of_lt (show n.natAbs<=9223372036854775808 by omega) (by decide))
theorem ZS {a b:Nat} (h:b≠0):a.gcd b≠0/\nl (a.gcd b)<=nl b:=⟨λ e=>h (Nat.eq_zero_of_gcd_eq_zero_right e),Gw (Nat.gcd_le_right _ (Nat.pos_of_ne_zero h))⟩
def Ay:Con:={ ι:=(List (List Dat)),pre:=λ i=>i.length<=1073741824,args:=λ i=>[.one (cS i)],mono:=true,res:=λ i=>⟨false,[none],[.own 3 [.int] i]⟩ }
theorem Im:Ay.Ok Tryz.prog 139:=by
 refine fok (X:=⟨tt,[],[],8,[]⟩) mixed AN (CTok.nil _) Tryz.func139 (λ _=>[]) ?_
 intro (ls:List (List Dat)) hpre
 have hpre:ls.length<=1073741824:=hpre
 refine AM (q:=∀ b1:Bool,(b1=true->ls=[])->(ifB (b1) ((([]:List (List Dat))=ls)) ((([]:List (List Dat)).length+ls.length<=2199023255552)/\(((([]:List (List Dat))++ls)=ls))))) (by kernel_rfl) ?_
 delta ifB
 intro b1 q1
 refine ⟨λ c2=>?_,λ c2=>?_⟩
 ·try simp only [nrm] at c2
  rw [q1 c2]
 try simp only [nrm] at c2
 refine ao (by simp;omega) λ o4=>?_
 rfl
def Bk:Con:={ ι:=Nat,pre:=λ i=>True,args:=λ i=>[.one (cS (L i))],mono:=true,res:=λ i=>⟨false,[none],[rcB (decide (i=1))]⟩ }
theorem Qp:Bk.Ok Tryz.prog 122:=by
 refine fok (X:=⟨tt,[],[],12,[]⟩) mixed AN (CTok.nil _) Tryz.func122 (λ _=>[]) ?_
 intro (a:Nat) hpre
 have hpre:True:=hpre
 refine AM (q:=ifB (((nI ((L a).length)) == (1:Int))) ((0<=(0:Int)/\(0:Int)<((L a).length:Int))/\((0<(L a).length)/\((vB (((((L a).getD 0 []).getD 0 (.int 0))).n == (1:Int))=vB (decide (a=1)))))) ((vB false=vB (decide (a=1))))) (by kernel_rfl) ?_
 delta ifB vB nI
 have ha:=BD a
 refine And.symm ⟨λ c1=>?_,λ c1=>?_⟩
 ·try simp only [nrm] at c1
  exact congrArg Value.bool (decide_eq_false (λ e=>by subst e;rw [AAu] at ha;omega)).symm
 try simp only [nrm] at c1
 have h1:=MC (b:=a) (by omega)
 refine ao (by omega) λ o2=>?_
 refine ao (by omega) λ o3=>?_
 rw [L_n,h1.1]
 exact congrArg Value.bool (by rw [Bool.eq_iff_iff,beq_iff_eq,decide_eq_true_iff];omega)
def Ax:Con:={ ι:=Bool×Nat,pre:=λ i=>True,args:=λ i=>[.one (cB i.1),.one (cS (L i.2))],mono:=true,res:=λ i=>⟨false,[some 2],[rcB (decide ((zOf i.1 i.2)<0)),.view 3 [.int] (L (zOf i.1 i.2).natAbs)]⟩ }
theorem H7:Ax.Ok Tryz.prog 113:=by
 refine fok (X:=⟨tt,[],[],13,[]⟩) mixed AN (CTok.nil _) Tryz.func113 (λ _=>[]) ?_
 rintro ⟨neg,m⟩ hpre
 have hpre:True:=hpre
 refine AM (q:=let Z2:=decide ((zOf neg m)<0);let Z1:=(L m)=L (zOf neg m).natAbs;ifB (neg) ((vB (decide ((nI ((L m).length))>(0:Int)))=vB Z2)/\Z1) ((vB false=vB Z2)/\Z1)) (by kernel_rfl) ?_
 conv=>zeta
 delta ifB vB nI
 refine ⟨λ c1=>?_,λ c1=>?_⟩
 ·try simp only [nrm] at c1
  refine ⟨?_,?_⟩
  ·rw [UM,c1];rfl
  rw [Il]
 try simp only [nrm] at c1
 refine ⟨?_,?_⟩
 ·rw [UM,c1];rfl
 rw [Il]
def FX:Con:={ ι:=Int,pre:=λ i=>True,args:=λ i=>[dB i],mono:=true,res:=λ i=>⟨false,[some 2],[rcB (decide ((-i)<0)),.view 3 [.int] (L (-i).natAbs)]⟩ }
theorem VY:FX.Ok Tryz.prog 202:=by
 refine fok (X:=⟨tt,[(113,Ax)],[],9,[]⟩) mixed AN (CTok.cons H7 (CTok.nil _)) Tryz.func202 (λ _=>[]) ?_
 intro (z:Int) hpre
 have hpre:True:=hpre
 refine AM (q:=∃ i1:Bool×Nat,[DA.one (cB (!(decide (z<0)))),DA.one (cS (L z.natAbs))]=Ax.args i1/\Ax.pre i1/\((vB (decide ((zOf i1.1 i1.2)<0))=vB (decide ((-z)<0)))/\(L (zOf i1.1 i1.2).natAbs=L (-z).natAbs))) (by kernel_rfl) ?_
 delta vB
 refine ⟨((!(decide (z<0))),z.natAbs),by
  rfl,by
  trivial,?_⟩
 refine ⟨?_,?_⟩
 ·rw [UK]
 rw [UK]
def FY:Con:={ ι:=Int×Int,pre:=λ i=>nl i.1.natAbs<=1000/\nl i.2.natAbs<=1000,args:=λ i=>[dB i.1,dB i.2],mono:=true,res:=λ i=>⟨false,[some 2],[rcB (decide ((i.1+i.2)<0)),.view 3 [.int] (L (i.1+i.2).natAbs)]⟩ }
theorem VZ:FY.Ok Tryz.prog 116:=by
 refine fok (X:=⟨tt,[(115,CV),(113,Ax),(148,Ab),(153,Bd)],[],42,[]⟩) mixed AN (CTok.cons N3 (CTok.cons H7 (CTok.cons G0 (CTok.cons N4 (CTok.nil _))))) Tryz.func116 (λ _=>[]) ?_
 rintro ⟨x,y⟩ hpre
 have hpre:nl x.natAbs<=1000/\nl y.natAbs<=1000:=hpre
 refine AM (q:=let Z4:=decide (x<0);let Z3:=decide ((x+y)<0);let Z2:=cS (L y.natAbs);let Z1:=cS (L x.natAbs);ifB ((Z4 == (decide (y<0)))) (∃ i1:Nat×Nat,[DA.one Z1,DA.one Z2]=CV.args i1/\CV.pre i1/\(∃ i2:Bool×Nat,[DA.one (cB Z4),DA.one (cS (L (i1.1+i1.2)))]=Ax.args i2/\Ax.pre i2/\((vB (decide ((zOf i2.1 i2.2)<0))=vB Z3)/\(L (zOf i2.1 i2.2).natAbs=L (x+y).natAbs)))) (∃ i3:Nat×Nat,[DA.one Z1,DA.one Z2]=Ab.args i3/\Ab.pre i3/\(ifB ((decide ((Ci i3.1 i3.2)≥(0:Int)))) (∃ i4:Nat×Nat,[DA.one Z1,DA.one Z2]=Bd.args i4/\Bd.pre i4/\(∃ i5:Bool×Nat,[DA.one (cB Z4),DA.one (cS (L (i4.1-i4.2)))]=Ax.args i5/\Ax.pre i5/\((vB (decide ((zOf i5.1 i5.2)<0))=vB Z3)/\(L (zOf i5.1 i5.2).natAbs=L (x+y).natAbs)))) (∃ i6:Nat×Nat,[DA.one Z2,DA.one Z1]=Bd.args i6/\Bd.pre i6/\(∃ i7:Bool×Nat,[DA.one (cB (decide (y<0))),DA.one (cS (L (i6.1-i6.2)))]=Ax.args i7/\Ax.pre i7/\((vB (decide ((zOf i7.1 i7.2)<0))=vB Z3)/\(L (zOf i7.1 i7.2).natAbs=L (x+y).natAbs))))))) (by kernel_rfl) ?_
 conv=>zeta
 delta ifB vB
 refine ⟨λ c1=>?_,λ c1=>?_⟩
 ·try simp only [nrm] at c1
  refine ⟨(x.natAbs,y.natAbs),by
   rfl,by
   show nl x.natAbs<=1048576/\nl y.natAbs<=1048576
   exact ⟨by omega,by omega⟩,?_⟩
  refine ⟨(decide (x<0),(x.natAbs+y.natAbs)),by
   rfl,by
   trivial,?_⟩
  refine ⟨?_,?_⟩
  ·rw [Qm c1]
  rw [Qm c1]
 try simp only [nrm] at c1
 refine ⟨(x.natAbs,y.natAbs),by
  rfl,by
  show nl x.natAbs<=1048576/\nl y.natAbs<=1048576
  exact ⟨by omega,by omega⟩,?_⟩
 refine ⟨λ c13=>?_,λ c13=>?_⟩
 ·try simp only [nrm] at c13
  refine ⟨(x.natAbs,y.natAbs),by
   rfl,by
   show nl x.natAbs<=1048576/\nl y.natAbs<=1048576/\y.natAbs<=x.natAbs
   exact ⟨by omega,by omega,GQ.1 c13⟩,?_⟩
  refine ⟨(decide (x<0),(x.natAbs-y.natAbs)),by
   rfl,by
   trivial,?_⟩
  refine ⟨?_,?_⟩
  ·rw [MF c1 (GQ.1 c13)]
  rw [MF c1 (GQ.1 c13)]
 try simp only [nrm] at c13
 refine ⟨(y.natAbs,x.natAbs),by
  rfl,by
  show nl y.natAbs<=1048576/\nl x.natAbs<=1048576/\x.natAbs<=y.natAbs
  exact ⟨by omega,by omega,Nat.le_of_lt (E8.1 c13)⟩,?_⟩
 refine ⟨(decide (y<0),(y.natAbs-x.natAbs)),by
  rfl,by
  trivial,?_⟩
 refine ⟨?_,?_⟩
 ·rw [Qn c1 (Nat.le_of_lt (E8.1 c13))]
 rw [Qn c1 (Nat.le_of_lt (E8.1 c13))]
def A9:Con:={ ι:=Int×Int,pre:=λ i=>nl i.1.natAbs<=1000/\nl i.2.natAbs<=1000,args:=λ i=>[dB i.1,dB i.2],mono:=true,res:=λ i=>⟨false,[some 2],[rcB (decide ((i.1*i.2)<0)),.view 3 [.int] (L (i.1*i.2).natAbs)]⟩ }
theorem Jt:A9.Ok Tryz.prog 109:=by
 refine fok (X:=⟨tt,[(111,An),(113,Ax)],[],16,[]⟩) mixed AN (CTok.cons E9 (CTok.cons H7 (CTok.nil _))) Tryz.func109 (λ _=>[]) ?_
 rintro ⟨x,y⟩ hpre
 have hpre:nl x.natAbs<=1000/\nl y.natAbs<=1000:=hpre
 refine AM (q:=∃ i1:Nat×Nat,[DA.one (cS (L x.natAbs)),DA.one (cS (L y.natAbs))]=An.args i1/\An.pre i1/\(∃ i2:Bool×Nat,[DA.one (cB ((decide (x<0)) != (decide (y<0)))),DA.one (cS (L (i1.1*i1.2)))]=Ax.args i2/\Ax.pre i2/\((vB (decide ((zOf i2.1 i2.2)<0))=vB (decide ((x*y)<0)))/\(L (zOf i2.1 i2.2).natAbs=L (x*y).natAbs)))) (by kernel_rfl) ?_
 delta vB
 refine ⟨(x.natAbs,y.natAbs),by
  rfl,by
  show nl x.natAbs<=524288/\nl y.natAbs<=524288
  exact ⟨by omega,by omega⟩,?_⟩
 refine ⟨(((decide (x<0)) != (decide (y<0))),(x.natAbs*y.natAbs)),by
  rfl,by
  trivial,?_⟩
 refine ⟨?_,?_⟩
 ·rw [UL]
 rw [UL]
def FZ:Con:={ ι:=Int×Int,pre:=λ i=>nl i.1.natAbs<=1000/\nl i.2.natAbs<=1000,args:=λ i=>[dB i.1,dB i.2],mono:=true,res:=λ i=>⟨false,[none],[rcI (CK i.1 i.2)]⟩ }
theorem Va:FZ.Ok Tryz.prog 108:=by
 refine fok (X:=⟨tt,[(148,Ab)],[],28,[]⟩) mixed AN (CTok.cons G0 (CTok.nil _)) Tryz.func108 (λ _=>[]) ?_
 rintro ⟨x,y⟩ hpre
 have hpre:nl x.natAbs<=1000/\nl y.natAbs<=1000:=hpre
 refine AM (q:=let Z5:=decide (y<0);let Z4:=decide (x<0);let Z3:=cS (L x.natAbs);let Z2:=cS (L y.natAbs);let Z1:=CK x y;let Z7:=(vI (1:Int)=vI Z1);let Z6:=(vI (-1:Int)=vI Z1);ifB Z4 (ifB Z5 (∃ i1:Nat×Nat,[DA.one Z2,DA.one Z3]=Ab.args i1/\Ab.pre i1/\((vI (Ci i1.1 i1.2)=vI Z1))) (ifB Z4 Z6 (ifB Z5 Z7 (∃ i2:Nat×Nat,[DA.one Z3,DA.one Z2]=Ab.args i2/\Ab.pre i2/\((vI (Ci i2.1 i2.2)=vI Z1)))))) (ifB Z4 Z6 (ifB Z5 Z7 (∃ i3:Nat×Nat,[DA.one Z3,DA.one Z2]=Ab.args i3/\Ab.pre i3/\((vI (Ci i3.1 i3.2)=vI Z1)))))) (by kernel_rfl) ?_
 conv=>zeta
 delta ifB vI
 refine And.symm ⟨λ c1=>?_,λ c1=>?_⟩
 ·try simp only [nrm] at c1
  refine ⟨λ c15=>?_,λ c15=>?_⟩
  ·try simp only [nrm] at c15
   exfalso;omega
  try simp only [nrm] at c15
  refine ⟨λ c17=>?_,λ c17=>?_⟩
  ·try simp only [nrm] at c17
   rw [← ZR (by omega) (by omega)]
  try simp only [nrm] at c17
  refine ⟨(x.natAbs,y.natAbs),by
   rfl,by
   show nl x.natAbs<=1048576/\nl y.natAbs<=1048576
   exact ⟨by omega,by omega⟩,?_⟩
  rw [ZP (by omega) (by omega)]
 try simp only [nrm] at c1
 refine ⟨λ c2=>?_,λ c2=>?_⟩
 ·try simp only [nrm] at c2
  refine ⟨(y.natAbs,x.natAbs),by
   rfl,by
   show nl y.natAbs<=1048576/\nl x.natAbs<=1048576
   exact ⟨by omega,by omega⟩,?_⟩
  rw [ZO (by omega) (by omega)]
 try simp only [nrm] at c2
 refine ⟨λ c7=>?_,λ c7=>?_⟩
 ·try simp only [nrm] at c7
  rw [← ZQ (by omega) (by omega)]
 try simp only [nrm] at c7
 refine ⟨λ c9=>?_,λ c9=>?_⟩
 ·try simp only [nrm] at c9
  exfalso;omega
 try simp only [nrm] at c9
 refine ⟨(x.natAbs,y.natAbs),by
  rfl,by
  exact ⟨by omega,by omega⟩,?_⟩
 exfalso;omega
def B8:Con:={ ι:=Bool×Nat,pre:=λ i=>nl i.2<=60,args:=λ i=>[DA.agg [cB i.1,cS (L i.2)]],mono:=true,res:=λ i=>⟨false,[some 2],[rcB i.1,.own 3 [.int] (L i.2)]⟩ }
theorem Vb:B8.Ok Tryz.prog 150:=by
 refine fok (X:=⟨tt,[(139,Ay)],[],14,[]⟩) mixed AN (CTok.cons Im (CTok.nil _)) Tryz.func150 (λ _=>[]) ?_
 rintro ⟨neg,m⟩ hpre
 have hpre:nl m<=60:=hpre
 refine AM (q:=ifB ((decide ((nI ((L m).length))>(60:Int)))) ((vB false=vB neg)/\(([]:List (List Dat))=L m)) (∃ i1:(List (List Dat)),[DA.one (cS (L m))]=Ay.args i1/\Ay.pre i1/\((vB neg=vB neg)/\(i1=L m)))) (by kernel_rfl) ?_
 delta ifB vB nI
 have hm:=BD m
 refine ⟨λ c1=>?_,λ c1=>?_⟩
 ·try simp only [nrm] at c1
  refine ⟨?_,?_⟩
  ·exfalso;omega
  exfalso;omega
 try simp only [nrm] at c1
 refine ⟨(L m),by
  rfl,by
  show (L m).length<=1073741824
  omega,?_⟩
 exact ⟨rfl,rfl⟩
def G3:Con:={ ι:=Int,pre:=λ i=>-9223372036854775808<=i/\i<=9223372036854775807,args:=λ i=>[.one (cI i)],mono:=true,res:=λ i=>⟨false,[some 2],[rcB (decide (i<0)),.own 3 [.int] (L i.natAbs)]⟩ }
theorem Xu:G3.Ok Tryz.prog 62:=by
 refine fok (X:=⟨tt,[(114,Ao),(115,CV)],[],18,[]⟩) mixed AN (CTok.cons L8 (CTok.cons N3 (CTok.nil _))) Tryz.func62 (λ _=>[]) ?_
 intro (n:Int) hpre
 have hpre:-9223372036854775808<=n/\n<=9223372036854775807:=hpre
 refine AM (q:=let Z1:=vB true=vB (decide (n<0));ifB ((decide (n≥(0:Int)))) (∃ i1:Nat,[DA.one (cI n)]=Ao.args i1/\Ao.pre i1/\((vB false=vB (decide (n<0)))/\(L i1=L n.natAbs))) (ifB ((n == (-9223372036854775808:Int))) (∃ i2:Nat,[DA.one (cI (9223372036854775807:Int))]=Ao.args i2/\Ao.pre i2/\(∃ i3:Nat,[DA.one (cI (1:Int))]=Ao.args i3/\Ao.pre i3/\(∃ i4:Nat×Nat,[DA.one (cS (L i2)),DA.one (cS (L i3))]=CV.args i4/\CV.pre i4/\(Z1/\(L (i4.1+i4.2)=L n.natAbs))))) (∃ i5:Nat,[DA.one (cI (wR (0-n)))]=Ao.args i5/\Ao.pre i5/\(Z1/\(L i5=L n.natAbs))))) (by kernel_rfl) ?_
 conv=>zeta
 delta ifB vB wR
 refine ⟨λ c1=>?_,λ c1=>?_⟩
 ·try simp only [nrm] at c1
  have en:n=((n.toNat:Nat):Int):=by omega
  have ea:n.natAbs=n.toNat:=by omega
  refine ⟨n.toNat,by
   show [DA.one (DC.im (Value.int .i64 n))]=[DA.one (DC.im (Value.int .i64 ((n.toNat:Nat):Int)))]
   rw [← en],by
   show n.toNat<=9223372036854775807
   omega,?_⟩
  refine ⟨?_,?_⟩
  ·rw [decide_eq_false (show ¬ n<0 by omega)];done
  rw [ea];done
 try simp only [nrm] at c1
 refine And.symm ⟨λ c7=>?_,λ c7=>?_⟩
 ·try simp only [nrm] at c7
  have en:IntKind.i64.wrap (0-n)=(((-n).toNat:Nat):Int):=by rw [AE (by omega) (by omega)];omega
  have ea:n.natAbs=(-n).toNat:=by omega
  refine ⟨(-n).toNat,by
   rw [en];rfl,by
   show ((-n).toNat)<=9223372036854775807
   omega,?_⟩
  refine ⟨?_,?_⟩
  ·rw [decide_eq_true (show n<0 by omega)];done
  rw [ea];done
 try simp only [nrm] at c7
 refine ⟨9223372036854775807,by
  rfl,by
  show 9223372036854775807<=9223372036854775807
  trivial,?_⟩
 refine ⟨1,by
  rfl,by
  show 1<=9223372036854775807
  trivial,?_⟩
 refine ⟨(9223372036854775807,1),by
  rfl,by
  exact ⟨Nat.le_trans ((D9 3 _).2 (by decide)) (by decide),Nat.le_trans ((D9 3 _).2 (by decide)) (by decide)⟩,?_⟩
 refine ⟨?_,?_⟩
 ·rw [decide_eq_true (show n<0 by omega)];done
 rw [show n.natAbs=9223372036854775807+1 by omega];done
def AT:Con:={ ι:=Fr,pre:=λ i=>True,args:=λ i=>[dF i],mono:=true,res:=λ i=>⟨false,[none],[rcB i.good]⟩ }
theorem FC:AT.Ok Tryz.prog 91:=by
 refine fok (X:=⟨tt,[],[],7,[]⟩) mixed AN (CTok.nil _) Tryz.func91 (λ _=>[]) ?_
 intro (r:Fr) hpre
 have hpre:True:=hpre
 refine AM (q:=(vB (decide ((nI ((L r.d).length))>(0:Int)))=vB r.good)) (by kernel_rfl) ?_
 delta vB nI
 rw [AAt]
def B9:Con:={ ι:=Int×Nat,pre:=λ i=>i.2≠0/\nl i.1.natAbs<=1000/\nl i.2<=1000,args:=λ i=>[dB i.1,.one (cS (L i.2))],mono:=true,res:=λ i=>⟨false,[some 3],[rcB (decide ((Fr.mk' i.1 i.2).z<0)),.own 3 [.int] (L (Fr.mk' i.1 i.2).z.natAbs),.own 3 [.int] (L (Fr.mk' i.1 i.2).d)]⟩ }
theorem MK:B9.Ok Tryz.prog 110:=by
 refine fok (X:=⟨tt,[(122,Bk),(123,CW),(149,Bq),(150,B8),(139,Ay)],[],45,[]⟩) mixed AN (CTok.cons Qp (CTok.cons N6 (CTok.cons N5 (CTok.cons Vb (CTok.cons Im (CTok.nil _)))))) Tryz.func110 (λ _=>[]) ?_
 rintro ⟨z,d⟩ hpre
 have hpre:d≠0/\nl z.natAbs<=1000/\nl d<=1000:=hpre
 refine AM (q:=let Z8:=cS (L d);let Z7:=List (List Dat);let Z3:=(decide ((nI ((L d).length))>(24:Int)));let Z2:=(!(decide ((nI ((L z.natAbs).length))>(24:Int))));let Z1:=Fr.mk' z d;let Z6:=decide (Z1.z<0);let Z5:=(eqN Z1);∃ i1:Nat,[DA.one Z8]=Bk.args i1/\Bk.pre i1/\(ifB ((!(decide (i1=1)))) (∃ i2:Nat×Nat,let Z4:=cS (L (i2.1.gcd i2.2));[DA.one (cS (L z.natAbs)),DA.one Z8]=CW.args i2/\CW.pre i2/\(∃ i3:Nat,[DA.one Z4]=Bk.args i3/\Bk.pre i3/\(ifB ((!(decide (i3=1)))) (∃ i4:Nat×Nat,[DA.one (cS (L z.natAbs)),DA.one Z4]=Bq.args i4/\Bq.pre i4/\(∃ i5:Nat×Nat,[DA.one Z8,DA.one Z4]=Bq.args i5/\Bq.pre i5/\(ifB ((!(decide ((nI ((L (i4.1/i4.2)).length))>(24:Int))))) (ifB ((decide ((nI ((L (i5.1/i5.2)).length))>(24:Int)))) Z5 (∃ i6:Bool×Nat,[DA.agg [cB (decide (z<0)),cS (L (i4.1/i4.2))]]=B8.args i6/\B8.pre i6/\(∃ i7:Z7,[DA.one (cS (L (i5.1/i5.2)))]=Ay.args i7/\Ay.pre i7/\((vB i6.1=vB Z6)/\(L i6.2=L Z1.z.natAbs)/\(i7=L Z1.d))))) Z5))) (ifB Z2 (ifB Z3 Z5 (∃ i8:Bool×Nat,[dB z]=B8.args i8/\B8.pre i8/\(∃ i9:Z7,[DA.one Z8]=Ay.args i9/\Ay.pre i9/\((vB i8.1=vB Z6)/\(L i8.2=L Z1.z.natAbs)/\(i9=L Z1.d))))) Z5)))) (ifB Z2 (ifB Z3 Z5 (∃ i10:Bool×Nat,[dB z]=B8.args i10/\B8.pre i10/\(∃ i11:Z7,[DA.one Z8]=Ay.args i11/\Ay.pre i11/\((vB i10.1=vB Z6)/\(L i10.2=L Z1.z.natAbs)/\(i11=L Z1.d))))) Z5))) (by kernel_rfl) ?_
 conv=>zeta
 delta ifB vB nI
 have hg:=ZS (a:=z.natAbs) hpre.1
 refine ⟨d,by
  rfl,by
  trivial,?_⟩
 refine And.symm ⟨λ c4=>?_,λ c4=>?_⟩
 ·try simp only [nrm] at c4
  have e1:z.natAbs.gcd d=1:=by rw [c4];exact Nat.gcd_one_right _
  have ez:z.natAbs/z.natAbs.gcd d=z.natAbs:=by rw [e1,Nat.div_one]
  have ed:d/z.natAbs.gcd d=d:=by rw [e1,Nat.div_one]
  have lz:=BD (z.natAbs/z.natAbs.gcd d)
  have ld:=BD (d/z.natAbs.gcd d)
  rw [ez] at lz
  rw [ed] at ld
  refine And.symm ⟨λ c52=>?_,λ c52=>?_⟩
  ·try simp only [nrm] at c52
   refine Eh ?_
   rw [FA hpre.1 (by rw [ez,ed];omega)];done
  try simp only [nrm] at c52
  refine ⟨λ c53=>?_,λ c53=>?_⟩
  ·try simp only [nrm] at c53
   refine Eh ?_
   rw [FA hpre.1 (by rw [ez,ed];omega)];done
  try simp only [nrm] at c53
  refine ⟨(decide (z<0),z.natAbs),by
   rfl,by
   show nl z.natAbs<=60
   omega,?_⟩
  refine ⟨(L d),by
   rfl,by
   show (L d).length<=1073741824
   omega,?_⟩
  refine ⟨?_,?_,?_⟩
  ·rw [(De hpre.1 (by rw [ez];omega) (by rw [ed];omega)).1];done
  ·rw [(De hpre.1 (by rw [ez];omega) (by rw [ed];omega)).2.1,ez];done
  rw [(De hpre.1 (by rw [ez];omega) (by rw [ed];omega)).2.2,ed];done
 try simp only [nrm] at c4
 refine ⟨(z.natAbs,d),by
  rfl,by
  show nl z.natAbs<=131072/\nl d<=131072
  exact ⟨by omega,by omega⟩,?_⟩
 refine ⟨(z.natAbs.gcd d),by
  rfl,by
  trivial,?_⟩
 refine And.symm ⟨λ c11=>?_,λ c11=>?_⟩
 ·try simp only [nrm] at c11
  have e1:z.natAbs.gcd d=1:=c11
  have ez:z.natAbs/z.natAbs.gcd d=z.natAbs:=by rw [e1,Nat.div_one]
  have ed:d/z.natAbs.gcd d=d:=by rw [e1,Nat.div_one]
  have lz:=BD (z.natAbs/z.natAbs.gcd d)
  have ld:=BD (d/z.natAbs.gcd d)
  rw [ez] at lz
  rw [ed] at ld
  refine And.symm ⟨λ c35=>?_,λ c35=>?_⟩
  ·try simp only [nrm] at c35
   refine Eh ?_
   rw [FA hpre.1 (by rw [ez,ed];omega)];done
  try simp only [nrm] at c35
  refine ⟨λ c36=>?_,λ c36=>?_⟩
  ·try simp only [nrm] at c36
   refine Eh ?_
   rw [FA hpre.1 (by rw [ez,ed];omega)];done
  try simp only [nrm] at c36
  refine ⟨(decide (z<0),z.natAbs),by
   rfl,by
   show nl z.natAbs<=60
   omega,?_⟩
  refine ⟨(L d),by
   rfl,by
   show (L d).length<=1073741824
   omega,?_⟩
  refine ⟨?_,?_,?_⟩
  ·rw [(De hpre.1 (by rw [ez];omega) (by rw [ed];omega)).1];done
  ·rw [(De hpre.1 (by rw [ez];omega) (by rw [ed];omega)).2.1,ez];done
  rw [(De hpre.1 (by rw [ez];omega) (by rw [ed];omega)).2.2,ed];done
 try simp only [nrm] at c11
 have ez:z.natAbs/z.natAbs.gcd d=z.natAbs/z.natAbs.gcd d:=rfl
 have ed:d/z.natAbs.gcd d=d/z.natAbs.gcd d:=rfl
 have lz:=BD (z.natAbs/z.natAbs.gcd d)
 have ld:=BD (d/z.natAbs.gcd d)
 rw [ez] at lz
 rw [ed] at ld
 refine ⟨(z.natAbs,(z.natAbs.gcd d)),by
  rfl,by
  show (z.natAbs.gcd d)≠0/\nl z.natAbs<=131072/\nl (z.natAbs.gcd d)<=131072
  exact ⟨by omega,by omega⟩,?_⟩
 refine ⟨(d,(z.natAbs.gcd d)),by
  rfl,by
  show (z.natAbs.gcd d)≠0/\nl d<=131072/\nl (z.natAbs.gcd d)<=131072
  exact ⟨by omega,by omega⟩,?_⟩
 refine And.symm ⟨λ c18=>?_,λ c18=>?_⟩
 ·try simp only [nrm] at c18
  refine Eh ?_
  rw [FA hpre.1 (by rw [ez,ed];omega)];done
 try simp only [nrm] at c18
 refine ⟨λ c19=>?_,λ c19=>?_⟩
 ·try simp only [nrm] at c19
  refine Eh ?_
  rw [FA hpre.1 (by rw [ez,ed];omega)];done
 try simp only [nrm] at c19
 refine ⟨(decide (z<0),(z.natAbs/(z.natAbs.gcd d))),by
  rfl,by
  show nl (z.natAbs/(z.natAbs.gcd d))<=60
  omega,?_⟩
 refine ⟨L (d/(z.natAbs.gcd d)),by
  rfl,by
  show (L (d/(z.natAbs.gcd d))).length<=1073741824
  omega,?_⟩
 refine ⟨?_,?_,?_⟩
 ·rw [(De hpre.1 (by rw [ez];omega) (by rw [ed];omega)).1];done
 ·rw [(De hpre.1 (by rw [ez];omega) (by rw [ed];omega)).2.1,ez];done
 rw [(De hpre.1 (by rw [ez];omega) (by rw [ed];omega)).2.2,ed];done
def Ae:Con:={ ι:=Int,pre:=λ i=>-9223372036854775808<=i/\i<=9223372036854775807,args:=λ i=>[.one (cI i)],mono:=true,res:=λ i=>⟨false,[some 3],[rcB (decide ((Fr.ofInt i).z<0)),.own 3 [.int] (L (Fr.ofInt i).z.natAbs),.own 3 [.int] (L (Fr.ofInt i).d)]⟩ }
theorem Ju:Ae.Ok Tryz.prog 46:=by
 refine fok (X:=⟨tt,[(62,G3)],[],7,[]⟩) mixed AN (CTok.cons Xu (CTok.nil _)) Tryz.func46 (λ _=>[]) ?_
 intro (n:Int) hpre
 have hpre:-9223372036854775808<=n/\n<=9223372036854775807:=hpre
 refine AM (q:=∃ i1:Int,[DA.one (cI n)]=G3.args i1/\G3.pre i1/\((vB (decide (i1<0))=vB (decide ((Fr.ofInt n).z<0)))/\(L i1.natAbs=L (Fr.ofInt n).z.natAbs)/\(([[Dat.int (1:Int)]]:List (List Dat))=L (Fr.ofInt n).d))) (by kernel_rfl) ?_
 delta vB
 refine ⟨n,by
  rfl,by
  exact hpre,?_⟩
 refine ⟨?_,?_,?_⟩
 ·rw [(MH (MJ hpre)).1];done
 ·rw [(MH (MJ hpre)).1];done
 rw [(MH (MJ hpre)).2];exact AAM (by decide) (by decide)
def Br:Con:={ ι:=Fr×Fr,pre:=λ i=>True,args:=λ i=>[dF i.1,dF i.2],mono:=true,res:=λ i=>⟨false,[some 3],[rcB (decide ((Fr.add i.1 i.2).z<0)),.own 3 [.int] (L (Fr.add i.1 i.2).z.natAbs),.own 3 [.int] (L (Fr.add i.1 i.2).d)]⟩ }
theorem N7:Br.Ok Tryz.prog 63:=by
 refine fok (X:=⟨tt,[(91,AT),(109,A9),(116,FY),(111,An),(110,B9)],[],35,[]⟩) mixed AN (CTok.cons FC (CTok.cons Jt (CTok.cons VZ (CTok.cons E9 (CTok.cons MK (CTok.nil _)))))) Tryz.func63 (λ _=>[]) ?_
 rintro ⟨r,s⟩ hpre
 have hpre:True:=hpre
 refine AM (q:=∃ i1:Fr,[dF r]=AT.args i1/\AT.pre i1/\(ifB ((!(!i1.good))) (∃ i2:Fr,[dF s]=AT.args i2/\AT.pre i2/\(ifB ((!i2.good)) ((eqN (Fr.add r s))) (∃ i3:Int×Int,[dB r.z,DA.agg [cB false,cS (L s.d)]]=A9.args i3/\A9.pre i3/\(∃ i4:Int×Int,[dB s.z,DA.agg [cB false,cS (L r.d)]]=A9.args i4/\A9.pre i4/\(∃ i5:Int×Int,[dB (i3.1*i3.2),dB (i4.1*i4.2)]=FY.args i5/\FY.pre i5/\(∃ i6:Nat×Nat,[DA.one (cS (L r.d)),DA.one (cS (L s.d))]=An.args i6/\An.pre i6/\(∃ i7:Int×Nat,[dB (i5.1+i5.2),DA.one (cS (L (i6.1*i6.2)))]=B9.args i7/\B9.pre i7/\((eqC (Fr.mk' i7.1 i7.2) (Fr.add r s)))))))))) ((eqN (Fr.add r s))))) (by kernel_rfl) ?_
 delta ifB
 have h1:=r.nlz
 have h2:=r.nld
 have h3:=s.nlz
 have h4:=s.nld
 refine ⟨r,by
  rfl,by
  trivial,?_⟩
 refine And.symm ⟨λ c4=>?_,λ c4=>?_⟩
 ·try simp only [nrm] at c4
  have hE:Fr.add r s=Fr.none:=Fr.bin_bad _ (.inl (MI c4))
  refine Eh ?_
  rw [hE];done
 try simp only [nrm] at c4
 refine ⟨s,by
  rfl,by
  trivial,?_⟩
 refine ⟨λ c8=>?_,λ c8=>?_⟩
 ·try simp only [nrm] at c8
  have hE:Fr.add r s=Fr.none:=Fr.bin_bad _ (.inr (MI c8))
  refine Eh ?_
  rw [hE];done
 try simp only [nrm] at c8
 have hE:=Fr.add_zd (Ei c4) (Ei c8)
 have m1:=EA r.z ((s.d:Nat):Int)
 have m2:=EA s.z ((r.d:Nat):Int)
 rw [G2] at m1 m2
 have m3:=Sq (r.z*((s.d:Nat):Int)) (s.z*((r.d:Nat):Int))
 have m4:=Dp r.d s.d
 have m5:r.d*s.d≠0:=Nat.mul_ne_zero (Ei c4) (Ei c8)
 refine ⟨(r.z,((s.d:Nat):Int)),by
  rfl,by
  show nl r.z.natAbs<=1000/\nl ((s.d:Nat):Int).natAbs<=1000
  exact ⟨by omega,by rw [G2];omega⟩,?_⟩
 refine ⟨(s.z,((r.d:Nat):Int)),by
  rfl,by
  show nl s.z.natAbs<=1000/\nl ((r.d:Nat):Int).natAbs<=1000
  exact ⟨by omega,by rw [G2];omega⟩,?_⟩
 refine ⟨((r.z*((s.d:Nat):Int)),(s.z*((r.d:Nat):Int))),by
  rfl,by
  show nl (r.z*((s.d:Nat):Int)).natAbs<=1000/\nl (s.z*((r.d:Nat):Int)).natAbs<=1000
  exact ⟨by omega,by omega⟩,?_⟩
 refine ⟨(r.d,s.d),by
  rfl,by
  show nl r.d<=524288/\nl s.d<=524288
  exact ⟨by omega,by omega⟩,?_⟩
 refine ⟨(((r.z*((s.d:Nat):Int))+(s.z*((r.d:Nat):Int))),(r.d*s.d)),by
  rfl,by
  show (r.d*s.d)≠0/\nl ((r.z*((s.d:Nat):Int))+(s.z*((r.d:Nat):Int))).natAbs<=1000/\nl (r.d*s.d)<=1000
  exact ⟨by omega,by omega⟩,?_⟩
 refine MG ?_
 rw [hE];done
def C0:Con:={ ι:=Fr×Fr,pre:=λ i=>True,args:=λ i=>[dF i.1,dF i.2],mono:=true,res:=λ i=>⟨false,[some 3],[rcB (decide ((Fr.mul i.1 i.2).z<0)),.own 3 [.int] (L (Fr.mul i.1 i.2).z.natAbs),.own 3 [.int] (L (Fr.mul i.1 i.2).d)]⟩ }
theorem Vc:C0.Ok Tryz.prog 60:=by
 refine fok (X:=⟨tt,[(91,AT),(109,A9),(111,An),(110,B9)],[],25,[]⟩) mixed AN (CTok.cons FC (CTok.cons Jt (CTok.cons E9 (CTok.cons MK (CTok.nil _))))) Tryz.func60 (λ _=>[]) ?_
 rintro ⟨r,s⟩ hpre
 have hpre:True:=hpre
 refine AM (q:=∃ i1:Fr,[dF r]=AT.args i1/\AT.pre i1/\(ifB ((!(!i1.good))) (∃ i2:Fr,[dF s]=AT.args i2/\AT.pre i2/\(ifB ((!i2.good)) ((eqN (Fr.mul r s))) (∃ i3:Int×Int,[dB r.z,dB s.z]=A9.args i3/\A9.pre i3/\(∃ i4:Nat×Nat,[DA.one (cS (L r.d)),DA.one (cS (L s.d))]=An.args i4/\An.pre i4/\(∃ i5:Int×Nat,[dB (i3.1*i3.2),DA.one (cS (L (i4.1*i4.2)))]=B9.args i5/\B9.pre i5/\((eqC (Fr.mk' i5.1 i5.2) (Fr.mul r s)))))))) ((eqN (Fr.mul r s))))) (by kernel_rfl) ?_
 delta ifB
 have h1:=r.nlz
 have h2:=r.nld
 have h3:=s.nlz
 have h4:=s.nld
 refine ⟨r,by
  rfl,by
  trivial,?_⟩
 refine And.symm ⟨λ c4=>?_,λ c4=>?_⟩
 ·try simp only [nrm] at c4
  have hE:Fr.mul r s=Fr.none:=Fr.bin_bad _ (.inl (MI c4))
  refine Eh ?_
  rw [hE];done
 try simp only [nrm] at c4
 refine ⟨s,by
  rfl,by
  trivial,?_⟩
 refine ⟨λ c8=>?_,λ c8=>?_⟩
 ·try simp only [nrm] at c8
  have hE:Fr.mul r s=Fr.none:=Fr.bin_bad _ (.inr (MI c8))
  refine Eh ?_
  rw [hE];done
 try simp only [nrm] at c8
 have hE:=Fr.mul_zd (Ei c4) (Ei c8)
 have m1:=EA r.z s.z
 have m4:=Dp r.d s.d
 have m5:r.d*s.d≠0:=Nat.mul_ne_zero (Ei c4) (Ei c8)
 refine ⟨(r.z,s.z),by
  rfl,by
  show nl r.z.natAbs<=1000/\nl s.z.natAbs<=1000
  exact ⟨by omega,by omega⟩,?_⟩
 refine ⟨(r.d,s.d),by
  rfl,by
  show nl r.d<=524288/\nl s.d<=524288
  exact ⟨by omega,by omega⟩,?_⟩
 refine ⟨((r.z*s.z),(r.d*s.d)),by
  rfl,by
  show (r.d*s.d)≠0/\nl (r.z*s.z).natAbs<=1000/\nl (r.d*s.d)<=1000
  exact ⟨by omega,by omega⟩,?_⟩
 refine MG ?_
 rw [hE];done
def Fa:Con:={ ι:=Fr,pre:=λ i=>True,args:=λ i=>[dF i],mono:=true,res:=λ i=>⟨false,[some 3],[rcB (decide (i.opp.z<0)),.view 3 [.int] (L i.opp.z.natAbs),.view 3 [.int] (L i.opp.d)]⟩ }
theorem Vd:Fa.Ok Tryz.prog 174:=by
 refine fok (X:=⟨tt,[(202,FX)],[],9,[]⟩) mixed AN (CTok.cons VY (CTok.nil _)) Tryz.func174 (λ _=>[]) ?_
 intro (r:Fr) hpre
 have hpre:True:=hpre
 refine AM (q:=∃ i1:Int,[dB r.z]=FX.args i1/\FX.pre i1/\((vB (decide ((-i1)<0))=vB (decide (r.opp.z<0)))/\(L (-i1).natAbs=L r.opp.z.natAbs)/\((L r.d)=L r.opp.d))) (by kernel_rfl) ?_
 delta vB
 refine ⟨r.z,by
  rfl,by
  trivial,?_⟩
 refine ⟨?_,?_,?_⟩
 ·rw [Fr.opp_z];done
 ·rw [Fr.opp_z];done
 rw [Fr.opp_d]
def BK:Con:={ ι:=Fr×Fr,pre:=λ i=>True,args:=λ i=>[dF i.1,dF i.2],mono:=true,res:=λ i=>⟨false,[some 3],[rcB (decide ((Fr.sub i.1 i.2).z<0)),.own 3 [.int] (L (Fr.sub i.1 i.2).z.natAbs),.own 3 [.int] (L (Fr.sub i.1 i.2).d)]⟩ }
theorem Ve:BK.Ok Tryz.prog 142:=by
 refine fok (X:=⟨tt,[(174,Fa),(63,Br)],[],9,[]⟩) mixed AN (CTok.cons Vd (CTok.cons N7 (CTok.nil _))) Tryz.func142 (λ _=>[]) ?_
 rintro ⟨r,s⟩ hpre
 have hpre:True:=hpre
 refine AM (q:=∃ i1:Fr,[dF s]=Fa.args i1/\Fa.pre i1/\(∃ i2:Fr×Fr,[dF r,dF i1.opp]=Br.args i2/\Br.pre i2/\((eqC (Fr.add i2.1 i2.2) (Fr.sub r s))))) (by kernel_rfl) ?_
 refine ⟨s,by
  rfl,by
  trivial,?_⟩
 refine ⟨(r,s.opp),by
  rfl,by
  trivial,?_⟩
 refine MG ?_
 rw [Fr.sub_opp]
def Be:Con:={ ι:=Fr×Fr,pre:=λ i=>True,args:=λ i=>[dF i.1,dF i.2],mono:=true,res:=λ i=>⟨false,[none],[rcI (Fr.cmp i.1 i.2)]⟩ }
theorem Vf:Be.Ok Tryz.prog 58:=by
 refine fok (X:=⟨tt,[(91,AT),(109,A9),(108,FZ)],[],26,[]⟩) mixed AN (CTok.cons FC (CTok.cons Jt (CTok.cons Va (CTok.nil _)))) Tryz.func58 (λ _=>[]) ?_
 rintro ⟨r,s⟩ hpre
 have hpre:True:=hpre
 refine AM (q:=let Z1:=(vI (0:Int)=vI (Fr.cmp r s));∃ i1:Fr,[dF r]=AT.args i1/\AT.pre i1/\(ifB ((!(!i1.good))) (∃ i2:Fr,[dF s]=AT.args i2/\AT.pre i2/\(ifB ((!i2.good)) Z1 (∃ i3:Int×Int,[dB r.z,DA.agg [cB false,cS (L s.d)]]=A9.args i3/\A9.pre i3/\(∃ i4:Int×Int,[dB s.z,DA.agg [cB false,cS (L r.d)]]=A9.args i4/\A9.pre i4/\(∃ i5:Int×Int,[dB (i3.1*i3.2),dB (i4.1*i4.2)]=FZ.args i5/\FZ.pre i5/\((vI (CK i5.1 i5.2)=vI (Fr.cmp r s)))))))) Z1)) (by kernel_rfl) ?_
 conv=>zeta
 delta ifB vI
 have h1:=r.nlz
 have h2:=r.nld
 have h3:=s.nlz
 have h4:=s.nld
 refine ⟨r,by
  rfl,by
  trivial,?_⟩
 refine And.symm ⟨λ c4=>?_,λ c4=>?_⟩
 ·try simp only [nrm] at c4
  have hE:Fr.cmp r s=0:=Fr.cmp_bad (.inl (MI c4))
  rw [hE];done
 try simp only [nrm] at c4
 refine ⟨s,by
  rfl,by
  trivial,?_⟩
 refine ⟨λ c8=>?_,λ c8=>?_⟩
 ·try simp only [nrm] at c8
  have hE:Fr.cmp r s=0:=Fr.cmp_bad (.inr (MI c8))
  rw [hE];done
 try simp only [nrm] at c8
 have hE:=Fr.cmp_zd (Ei c4) (Ei c8)
 have m1:=EA r.z ((s.d:Nat):Int)
 have m2:=EA s.z ((r.d:Nat):Int)
 rw [G2] at m1 m2
 
 refine ⟨(r.z,((s.d:Nat):Int)),by
  rfl,by
  show nl r.z.natAbs<=1000/\nl ((s.d:Nat):Int).natAbs<=1000
  exact ⟨by omega,by rw [G2];omega⟩,?_⟩
 refine ⟨(s.z,((r.d:Nat):Int)),by
  rfl,by
  show nl s.z.natAbs<=1000/\nl ((r.d:Nat):Int).natAbs<=1000
  exact ⟨by omega,by rw [G2];omega⟩,?_⟩
 refine ⟨((r.z*((s.d:Nat):Int)),(s.z*((r.d:Nat):Int))),by
  rfl,by
  show nl (r.z*((s.d:Nat):Int)).natAbs<=1000/\nl (s.z*((r.d:Nat):Int)).natAbs<=1000
  exact ⟨by omega,by omega⟩,?_⟩
 rw [hE];done
def EU:Con:={ ι:=Fr,pre:=λ i=>True,args:=λ i=>[dF i],mono:=true,res:=λ i=>⟨false,[none],[rcI i.sgn]⟩ }
theorem Sz:EU.Ok Tryz.prog 163:=by
 refine fok (X:=⟨tt,[(91,AT)],[],18,[]⟩) mixed AN (CTok.cons FC (CTok.nil _)) Tryz.func163 (λ _=>[]) ?_
 intro (r:Fr) hpre
 have hpre:True:=hpre
 refine AM (q:=let Z1:=(vI (0:Int)=vI r.sgn);∃ i1:Fr,[dF r]=AT.args i1/\AT.pre i1/\(ifB ((!(!i1.good))) (ifB (((nI ((L r.z.natAbs).length)) == (0:Int))) Z1 (ifB (decide (r.z<0)) ((vI (-1:Int)=vI r.sgn)) ((vI (1:Int)=vI r.sgn)))) Z1)) (by kernel_rfl) ?_
 conv=>zeta
 delta ifB vI nI
 refine ⟨r,by
  rfl,by
  trivial,?_⟩
 refine And.symm ⟨λ c4=>?_,λ c4=>?_⟩
 ·try simp only [nrm] at c4
  have hz:r.z=0:=by rw [Fr.bad_z (MI c4)];rfl
  rw [Fr.sgn_z,hz];rfl
 try simp only [nrm] at c4
 refine ⟨λ c5=>?_,λ c5=>?_⟩
 ·try simp only [nrm] at c5
  have hz:r.z=0:=ACC (by omega)
  rw [Fr.sgn_z,hz];rfl
 try simp only [nrm] at c5
 have hz:r.z≠0:=ABZ (by omega)
 refine ⟨λ c7=>?_,λ c7=>?_⟩
 ·try simp only [nrm] at c7
  rw [Fr.sgn_z];unfold CK;rw [if_pos (by omega)];done
 try simp only [nrm] at c7
 rw [Fr.sgn_z];unfold CK;rw [if_neg (by omega),if_neg (by omega)];done
def C1:Con:={ ι:=(List (List Dat)),pre:=λ i=>i.length<=9223372036854775807,args:=λ i=>[.one (cS i)],mono:=true,res:=λ i=>⟨false,[none],[rcB (BQ i)]⟩ }
theorem Qq:C1.Ok Tryz.prog 121:=by
 refine fok (X:=⟨tt,[(156,Gx)],[],22,[]⟩) mixed AN (CTok.cons Xh (CTok.nil _)) Tryz.func121 (λ _=>[]) ?_
 intro (l:List (List Dat)) hpre
 have hpre:l.length<=9223372036854775807:=hpre
 refine AM (q:=let Z2:=(vB false=vB (BQ l));let Z1:=wR ((nI l.length)-(1:Int));ifB ((!(decide ((nI l.length)>(60:Int))))) (∃ i1:(List (List Dat)),[DA.one (cS l),DA.one (DC.ro (.fn 157 []))]=Gx.args i1/\Gx.pre i1/\(ifB ((i1.any (λ r=>!(inB (rn r))))) Z2 (ifB ((!((nI l.length) == (0:Int)))) ((0<=Z1/\Z1<(l.length:Int))/\((Z1.toNat<l.length)/\((vB ((((l.getD (Z1.toNat) []).getD 0 (.int 0))).n != (0:Int))=vB (BQ l))))) ((vB true=vB (BQ l)))))) Z2) (by kernel_rfl) ?_
 conv=>zeta
 delta ifB vB wR nI
 refine And.symm ⟨λ c1=>?_,λ c1=>?_⟩
 ·try simp only [nrm] at c1
  have hE:=Ss (l:=l) (by omega)
  rw [hE]
 try simp only [nrm] at c1
 refine ⟨l,by
  rfl,by
  trivial,?_⟩
 refine ⟨λ c5=>?_,λ c5=>?_⟩
 ·try simp only [nrm] at c5
  have hE:=Su c5
  rw [hE]
 try simp only [nrm] at c5
 refine And.symm ⟨λ c7=>?_,λ c7=>?_⟩
 ·try simp only [nrm] at c7
  have hE:=Sv (l:=l) (by omega)
  rw [hE]
 try simp only [nrm] at c7
 have hE:=Qo (l:=l) (by omega) c5 (by omega)
 have hw:(IntKind.i64.wrap (((l.length:Nat):Int)-(1:Int)))=((l.length-1:Nat):Int):=by rw [AE (by omega) (by omega)];omega
 refine ao (by rw [hw];omega) λ o8=>?_
 refine ao (by rw [hw];omega) λ o9=>?_
 rw [hw,Int.toNat_natCast,hE];rfl
def Df:Con:={ ι:=Bool×(List (List Dat)),pre:=λ i=>i.2.length<=9223372036854775807,args:=λ i=>[DA.agg [cB i.1,cS i.2]],mono:=true,res:=λ i=>⟨false,[none],[rcB (CX i.1 i.2)]⟩ }
theorem Qr:Df.Ok Tryz.prog 120:=by
 refine fok (X:=⟨tt,[(121,C1)],[],17,[]⟩) mixed AN (CTok.cons Qq (CTok.nil _)) Tryz.func120 (λ _=>[]) ?_
 rintro ⟨neg,m⟩ hpre
 have hpre:m.length<=9223372036854775807:=hpre
 refine AM (q:=let Z1:=CX neg m;∃ i1:(List (List Dat)),[DA.one (cS m)]=C1.args i1/\C1.pre i1/\(ifB ((BQ i1)) (ifB (neg) ((vB (!((nI m.length) == (0:Int)))=vB Z1)) ((vB (!false)=vB Z1))) ((vB false=vB Z1)))) (by kernel_rfl) ?_
 conv=>zeta
 delta ifB vB nI
 refine ⟨m,by
  rfl,by
  trivial,?_⟩
 refine And.symm ⟨λ c4=>?_,λ c4=>?_⟩
 ·try simp only [nrm] at c4
  unfold CX;rw [c4];rfl
 try simp only [nrm] at c4
 refine ⟨λ c5=>?_,λ c5=>?_⟩
 ·try simp only [nrm] at c5
  rw [c5,Sw c4];done
 try simp only [nrm] at c5
 unfold CX;rw [c4,c5];rfl
def Dr:Con:={ ι:=Bool×(List (List Dat))×(List (List Dat)),pre:=λ i=>Dat.has (.sl 3 [.int]) (.sl i.2.1)/\Dat.has (.sl 3 [.int]) (.sl i.2.2)/\i.2.1.length<=9223372036854775807/\i.2.2.length<=9223372036854775807,args:=λ i=>[DA.agg [cB i.1,cS i.2.1,cS i.2.2]],mono:=true,res:=λ i=>⟨false,[none],[rcB (BR i.1 i.2.1 i.2.2)]⟩ }
theorem Xv:Dr.Ok Tryz.prog 68:=by
 refine fok (X:=⟨tt,[(120,Df),(121,C1),(122,Bk),(123,CW)],[],44,[]⟩) mixed AN (CTok.cons Qr (CTok.cons Qq (CTok.cons Qp (CTok.cons N6 (CTok.nil _))))) Tryz.func68 (λ _=>[]) ?_
 rintro ⟨neg,m,d⟩ hpre
 have hpre:Dat.has (.sl 3 [.int]) (.sl m)/\Dat.has (.sl 3 [.int]) (.sl d)/\m.length<=9223372036854775807/\d.length<=9223372036854775807:=hpre
 refine AM (q:=let Z2:=BR neg m d;let Z1:=(vB false=vB Z2);∃ i1:Bool×(List (List Dat)),[DA.agg [cB neg,cS m]]=Df.args i1/\Df.pre i1/\(ifB ((!(!(CX i1.1 i1.2)))) (∃ i2:(List (List Dat)),[DA.one (cS d)]=C1.args i2/\C1.pre i2/\(ifB ((!(!(BQ i2)))) (ifB ((!((nI d.length) == (0:Int)))) (ifB ((!(decide ((nI m.length)>(24:Int))))) (ifB ((decide ((nI d.length)>(24:Int)))) Z1 (∃ i3:Nat,[DA.one (cS d)]=Bk.args i3/\Bk.pre i3/\(ifB ((!(decide (i3=1)))) (∃ i4:Nat×Nat,[DA.one (cS m),DA.one (cS d)]=CW.args i4/\CW.pre i4/\(∃ i5:Nat,[DA.one (cS (L (i4.1.gcd i4.2)))]=Bk.args i5/\Bk.pre i5/\((vB (decide (i5=1))=vB Z2)))) ((vB true=vB Z2))))) Z1) Z1) Z1)) Z1)) (by kernel_rfl) ?_
 conv=>zeta
 delta ifB vB nI
 refine ⟨(neg,m),by
  rfl,by
  show m.length<=9223372036854775807
  omega,?_⟩
 refine And.symm ⟨λ c4=>?_,λ c4=>?_⟩
 ·try simp only [nrm] at c4
  have hE:BR neg m d=false:=FB (.inl c4)
  rw [hE]
 try simp only [nrm] at c4
 refine ⟨d,by
  rfl,by
  show d.length<=9223372036854775807
  omega,?_⟩
 refine And.symm ⟨λ c8=>?_,λ c8=>?_⟩
 ·try simp only [nrm] at c8
  have hE:BR neg m d=false:=FB (.inr (.inl c8))
  rw [hE]
 try simp only [nrm] at c8
 refine And.symm ⟨λ c9=>?_,λ c9=>?_⟩
 ·try simp only [nrm] at c9
  have hE:BR neg m d=false:=FB (.inr (.inr (.inl (by omega))))
  rw [hE]
 try simp only [nrm] at c9
 refine And.symm ⟨λ c10=>?_,λ c10=>?_⟩
 ·try simp only [nrm] at c10
  have hE:BR neg m d=false:=FB (.inr (.inr (.inr (.inl (by omega)))))
  rw [hE]
 try simp only [nrm] at c10
 refine ⟨λ c11=>?_,λ c11=>?_⟩
 ·try simp only [nrm] at c11
  have hE:BR neg m d=false:=FB (.inr (.inr (.inr (.inr (by omega)))))
  rw [hE]
 try simp only [nrm] at c11
 obtain ⟨a,ea,na⟩:=FU hpre.1 (Sx c4)
 obtain ⟨b,eb,nb⟩:=FU hpre.2.1 c8
 have hE:=Sy c4 c8 (by omega) (by omega) (by omega)
 refine ⟨b,by
  rw [eb];rfl,by
  trivial,?_⟩
 refine And.symm ⟨λ c16=>?_,λ c16=>?_⟩
 ·try simp only [nrm] at c16
  rw [hE,ea,eb,Bz,Bz]
  exact congrArg Value.bool (decide_eq_true (by rw [c16];exact Nat.gcd_one_right a)).symm
 try simp only [nrm] at c16
 refine ⟨(a,b),by
  rw [ea,eb];rfl,by
  show nl a<=131072/\nl b<=131072
  exact ⟨by omega,by omega⟩,?_⟩
 refine ⟨(a.gcd b),by
  rfl,by
  trivial,?_⟩
 rw [hE,ea,eb,Bz,Bz]
end Go.Proofs.YtkffpiaagjcmpaaGreat
namespace Go.Proofs.YtkffpiaagjcmpaaGreat
set_option linter.unusedVariables false
set_option linter.unusedSimpArgs false
open Go.RowKit
end Go.Proofs.YtkffpiaagjcmpaaGreat
namespace Go.Proofs.YtkffpiaagjcmpaaGreat
set_option linter.unusedVariables false
set_option linter.unusedSimpArgs false
open Go.RowKit
theorem UO (e:Nat) {n:Nat} (h:nl n<=9223372036854775807):Dat.has (.sl e [.int]) (.sl (L n)):=by
 refine ⟨by rw [BD];exact h,λ k hk=>?_⟩
 unfold L
 rw [L7 (by rw [BD] at hk;exact hk)]
 simp [hasRow,Dat.has]
theorem N8 (r:Fr):BR (decide (r.z<0)) (L r.z.natAbs) (L r.d)=r.good:=by
 rw [← Fr.neg_z,← Fr.num_z,← Fr.den_d];exact VX r
end Go.Proofs.YtkffpiaagjcmpaaGreat
