import Derived.Test.YtkffpiaagjcmpaaGreatEvRkM
import Derived.Test.YtkffpiaagjcmpaaGreatEvNum3
namespace Go.Proofs.YtkffpiaagjcmpaaGreat
set_option maxRecDepth 100000
set_option linter.unusedVariables false
set_option linter.unusedSimpArgs false
open Go.RowKit
theorem ABX (r:Fr):decide ((((L r.d).length:Nat):Int)>(0:Int))=r.good:=by
 rw [← Fr.d_good'];congr 1;apply propext;omega
theorem ABY:nl 1=1:=Xf (by decide) (by decide)
theorem D8 {z:Int} {d:Nat} (hd:d≠0) (h1:nl (z.natAbs/z.natAbs.gcd d)<=24) (h2:nl (d/z.natAbs.gcd d)<=24) :
  decide ((Fr.mk' z d).z<0)=decide (z<0)/\(Fr.mk' z d).z.natAbs=z.natAbs/z.natAbs.gcd d/\(Fr.mk' z d).d=d/z.natAbs.gcd d:=by
 have hv:(Fr.mk' z d).v=some (mkRat z d):=FU (Dw.2 ⟨by rw [DF hd];exact h1,by rw [(DV hd).2];exact h2⟩)
 exact ⟨by rw [Fr.z_some hv,VX hd],by rw [Fr.z_some hv,DF hd],by rw [Fr.d_some hv,(DV hd).2]⟩
theorem I0 {n:Int} (h:nl n.natAbs<=24):(Fr.ofInt n).z=n/\(Fr.ofInt n).d=1:=by
 rw [Fr.z_some (LQ h),Fr.d_some (LQ h),Rat.num_intCast,Rat.den_intCast];exact ⟨rfl,rfl⟩
theorem UZ (neg:Bool) (m:Nat):decide (zOf neg m<0)=(neg && decide ((((L m).length:Nat):Int)>(0:Int))):=by
 rw [ABW];congr 2;apply propext;omega
theorem Ko {r:Fr} (h:r.good=false):r.d=0:=Classical.byContradiction λ h2=>by rw [Fr.d_good.2 h2] at h;cases h
theorem DY {r:Fr} (h:r.good=true):r.d≠0:=Fr.d_good.1 h
theorem ACy {z:Int} (h:(L z.natAbs).length=0):z=0:=by
 rw [Aq] at h
 have:=DS.1 h
 omega
theorem ACJ {z:Int} (h:(L z.natAbs).length≠0):z≠0:=by
 rintro rfl
 exact h (by rw [Aq];exact Cn)
theorem Ua (l:List (List Dat)):l.all (λ r=>inB (rn r))=!(l.any λ r=>!(inB (rn r))):=by rw [List.all_eq_not_any_not]
theorem Sv {l:List (List Dat)} (h:60<l.length):Bd l=false:=by
 unfold Bd;rw [decide_eq_false (show ¬ l.length<=60 by omega)];rfl
theorem Sw {l:List (List Dat)} (h:(l.any λ r=>!(inB (rn r)))=true):Bd l=false:=by
 unfold Bd;rw [Ua,h];simp
theorem Sx {l:List (List Dat)} (h:l.length=0):Bd l=true:=by
 rw [List.eq_nil_of_length_eq_zero h];rfl
theorem Q7 {l:List (List Dat)} (h1:l.length<=60) (h:(l.any λ r=>!(inB (rn r)))=false) (h0:l.length≠0):Bd l=(rn (l.getD (l.length-1) []) != 0):=by
 unfold Bd
 rw [Ua,h,decide_eq_true h1,decide_eq_false h0]
 generalize rn (l.getD (l.length-1) [])=v
 by_cases hv:v=0 <;> simp [hv]
theorem Sy {m:List (List Dat)} (h:Bd m=true):CJ true m=!(((m.length:Nat):Int) == (0:Int)):=by
 unfold CJ;rw [h]
 by_cases hv:m.length=0
 ·rw [hv];rfl
 ·have:((((m.length:Nat):Int)) == (0:Int))=false:=by rw [beq_eq_false_iff_ne];omega
  rw [this];simp [hv]
theorem Sz {neg:Bool} {m:List (List Dat)} (h:CJ neg m=true):Bd m=true:=by
 unfold CJ at h;rw [Bool.and_eq_true] at h;exact h.1
theorem FX {neg:Bool} {m d:List (List Dat)} (h:CJ neg m=false∨Bd d=false∨d.length=0∨24<m.length∨24<d.length):Bw neg m d=false:=by
 unfold Bw
 rcases h with h|h|h|h|h
 ·rw [h];rfl
 ·rw [h];simp
 ·simp [h]
 ·rw [decide_eq_false (show ¬ m.length<=24 by omega)];simp
 ·rw [decide_eq_false (show ¬ d.length<=24 by omega)];simp
theorem S0 {neg:Bool} {m d:List (List Dat)} (h1:CJ neg m=true) (h2:Bd d=true) (h3:d.length≠0) (h4:m.length<=24) (h5:d.length<=24):Bw neg m d=decide ((Ve m).gcd (Ve d)=1):=by
 unfold Bw;rw [h1,h2,decide_eq_false h3,decide_eq_true h4,decide_eq_true h5];rfl
theorem DG {n:Int} (h:-9223372036854775808<=n/\n<=9223372036854775807):nl n.natAbs<=24:=(Ea _ _).2 (Nat.lt_of_le_of_lt (show n.natAbs<=9223372036854775808 by omega) (by decide))
theorem Zq {a b:Nat} (h:b≠0):a.gcd b≠0/\nl (a.gcd b)<=nl b:=⟨λ e=>h (Nat.eq_zero_of_gcd_eq_zero_right e),Ex (Nat.gcd_le_right _ (Nat.pos_of_ne_zero h))⟩
def Ah:Con:={ ι:=(List (List Dat)),pre:=λ i=>i.length<=1073741824,args:=λ i=>[.one (cS i)],mono:=true,res:=λ i=>⟨false,[none],[.own 3 [.int] i]⟩ }
theorem Fx:Ah.Ok Tryz.prog 139:=by
 refine fok (X:=⟨tt,[],[],8,[]⟩) mixed AQ (CTok.nil _) Tryz.func139 (λ _=>[]) ?_
 intro (ls:List (List Dat)) hpre
 have hpre:ls.length<=1073741824:=hpre
 refine AP (q:=∀ b1:Bool,(b1=true->ls=[])->(ifB (b1) ((([]:List (List Dat))=ls)) ((([]:List (List Dat)).length+ls.length<=2199023255552)/\(((([]:List (List Dat))++ls)=ls))))) (by kernel_rfl) ?_
 delta ifB
 intro b1 q1
 refine ⟨λ c2=>?_,λ c2=>?_⟩
 ·try simp only [nrm] at c2
  rw [q1 c2]
 try simp only [nrm] at c2
 refine ao (by simp;omega) λ o4=>?_
 rfl
def Bx:Con:={ ι:=Nat,pre:=λ i=>True,args:=λ i=>[.one (cS (L i))],mono:=true,res:=λ i=>⟨false,[none],[rcB (decide (i=1))]⟩ }
theorem Q8:Bx.Ok Tryz.prog 122:=by
 refine fok (X:=⟨tt,[],[],12,[]⟩) mixed AQ (CTok.nil _) Tryz.func122 (λ _=>[]) ?_
 intro (a:Nat) hpre
 have hpre:True:=hpre
 refine AP (q:=ifB (((nI ((L a).length)) == (1:Int))) ((0<=(0:Int)/\(0:Int)<((L a).length:Int))/\((0<(L a).length)/\((vB (((((L a).getD 0 []).getD 0 (.int 0))).n == (1:Int))=vB (decide (a=1)))))) ((vB false=vB (decide (a=1))))) (by kernel_rfl) ?_
 delta ifB vB nI
 have ha:=Aq a
 refine And.symm ⟨λ c1=>?_,λ c1=>?_⟩
 ·try simp only [nrm] at c1
  exact congrArg Value.bool (decide_eq_false (λ e=>by subst e;rw [ABY] at ha;omega)).symm
 try simp only [nrm] at c1
 have h1:=MS (b:=a) (by omega)
 refine ao (by omega) λ o2=>?_
 refine ao (by omega) λ o3=>?_
 rw [L_n,h1.1]
 exact congrArg Value.bool (by rw [Bool.eq_iff_iff,beq_iff_eq,decide_eq_true_iff];omega)
def Af:Con:={ ι:=Bool×Nat,pre:=λ i=>True,args:=λ i=>[.one (cB i.1),.one (cS (L i.2))],mono:=true,res:=λ i=>⟨false,[some 2],[rcB (decide ((zOf i.1 i.2)<0)),.view 3 [.int] (L (zOf i.1 i.2).natAbs)]⟩ }
theorem Ec:Af.Ok Tryz.prog 113:=by
 refine fok (X:=⟨tt,[],[],13,[]⟩) mixed AQ (CTok.nil _) Tryz.func113 (λ _=>[]) ?_
 rintro ⟨neg,m⟩ hpre
 have hpre:True:=hpre
 refine AP (q:=let Z2:=decide ((zOf neg m)<0);let Z1:=(L m)=L (zOf neg m).natAbs;ifB (neg) ((vB (decide ((nI ((L m).length))>(0:Int)))=vB Z2)/\Z1) ((vB false=vB Z2)/\Z1)) (by kernel_rfl) ?_
 conv=>zeta
 delta ifB vB nI
 refine ⟨λ c1=>?_,λ c1=>?_⟩
 ·try simp only [nrm] at c1
  refine ⟨?_,?_⟩
  ·rw [UZ,c1];rfl
  rw [Fw]
 try simp only [nrm] at c1
 refine ⟨?_,?_⟩
 ·rw [UZ,c1];rfl
 rw [Fw]
def Fy:Con:={ ι:=Int,pre:=λ i=>True,args:=λ i=>[dB i],mono:=true,res:=λ i=>⟨false,[some 2],[rcB (decide ((-i)<0)),.view 3 [.int] (L (-i).natAbs)]⟩ }
theorem Vg:Fy.Ok Tryz.prog 202:=by
 refine fok (X:=⟨tt,[(113,Af)],[],9,[]⟩) mixed AQ (CTok.cons Ec (CTok.nil _)) Tryz.func202 (λ _=>[]) ?_
 intro (z:Int) hpre
 have hpre:True:=hpre
 refine AP (q:=∃ i1:Bool×Nat,[DA.one (cB (!(decide (z<0)))),DA.one (cS (L z.natAbs))]=Af.args i1/\Af.pre i1/\((vB (decide ((zOf i1.1 i1.2)<0))=vB (decide ((-z)<0)))/\(L (zOf i1.1 i1.2).natAbs=L (-z).natAbs))) (by kernel_rfl) ?_
 delta vB
 refine ⟨((!(decide (z<0))),z.natAbs),by
  rfl,by
  trivial,?_⟩
 refine ⟨?_,?_⟩
 ·rw [UX]
 rw [UX]
def Fz:Con:={ ι:=Int×Int,pre:=λ i=>nl i.1.natAbs<=1000/\nl i.2.natAbs<=1000,args:=λ i=>[dB i.1,dB i.2],mono:=true,res:=λ i=>⟨false,[some 2],[rcB (decide ((i.1+i.2)<0)),.view 3 [.int] (L (i.1+i.2).natAbs)]⟩ }
theorem Vh:Fz.Ok Tryz.prog 116:=by
 refine fok (X:=⟨tt,[(115,Ct),(113,Af),(148,Ak),(153,Br)],[],42,[]⟩) mixed AQ (CTok.cons OK (CTok.cons Ec (CTok.cons Hf (CTok.cons OL (CTok.nil _))))) Tryz.func116 (λ _=>[]) ?_
 rintro ⟨x,y⟩ hpre
 have hpre:nl x.natAbs<=1000/\nl y.natAbs<=1000:=hpre
 refine AP (q:=let Z4:=decide (x<0);let Z3:=decide ((x+y)<0);let Z2:=cS (L y.natAbs);let Z1:=cS (L x.natAbs);ifB ((Z4 == (decide (y<0)))) (∃ i1:Nat×Nat,[DA.one Z1,DA.one Z2]=Ct.args i1/\Ct.pre i1/\(∃ i2:Bool×Nat,[DA.one (cB Z4),DA.one (cS (L (i1.1+i1.2)))]=Af.args i2/\Af.pre i2/\((vB (decide ((zOf i2.1 i2.2)<0))=vB Z3)/\(L (zOf i2.1 i2.2).natAbs=L (x+y).natAbs)))) (∃ i3:Nat×Nat,[DA.one Z1,DA.one Z2]=Ak.args i3/\Ak.pre i3/\(ifB ((decide ((C6 i3.1 i3.2)≥(0:Int)))) (∃ i4:Nat×Nat,[DA.one Z1,DA.one Z2]=Br.args i4/\Br.pre i4/\(∃ i5:Bool×Nat,[DA.one (cB Z4),DA.one (cS (L (i4.1-i4.2)))]=Af.args i5/\Af.pre i5/\((vB (decide ((zOf i5.1 i5.2)<0))=vB Z3)/\(L (zOf i5.1 i5.2).natAbs=L (x+y).natAbs)))) (∃ i6:Nat×Nat,[DA.one Z2,DA.one Z1]=Br.args i6/\Br.pre i6/\(∃ i7:Bool×Nat,[DA.one (cB (decide (y<0))),DA.one (cS (L (i6.1-i6.2)))]=Af.args i7/\Af.pre i7/\((vB (decide ((zOf i7.1 i7.2)<0))=vB Z3)/\(L (zOf i7.1 i7.2).natAbs=L (x+y).natAbs))))))) (by kernel_rfl) ?_
 conv=>zeta
 delta ifB vB
 refine ⟨λ c1=>?_,λ c1=>?_⟩
 ·try simp only [nrm] at c1
  refine ⟨(x.natAbs,y.natAbs),by
   rfl,by
   show nl x.natAbs<=1048576/\nl y.natAbs<=1048576
   exact ⟨by omega,by omega⟩,?_⟩
  refine ⟨(decide (x<0),(x.natAbs+y.natAbs)),by
   rfl,by
   trivial,?_⟩
  refine ⟨?_,?_⟩
  ·rw [Q4 c1]
  rw [Q4 c1]
 try simp only [nrm] at c1
 refine ⟨(x.natAbs,y.natAbs),by
  rfl,by
  show nl x.natAbs<=1048576/\nl y.natAbs<=1048576
  exact ⟨by omega,by omega⟩,?_⟩
 refine ⟨λ c13=>?_,λ c13=>?_⟩
 ·try simp only [nrm] at c13
  refine ⟨(x.natAbs,y.natAbs),by
   rfl,by
   show nl x.natAbs<=1048576/\nl y.natAbs<=1048576/\y.natAbs<=x.natAbs
   exact ⟨by omega,by omega,Gs.1 c13⟩,?_⟩
  refine ⟨(decide (x<0),(x.natAbs-y.natAbs)),by
   rfl,by
   trivial,?_⟩
  refine ⟨?_,?_⟩
  ·rw [MV c1 (Gs.1 c13)]
  rw [MV c1 (Gs.1 c13)]
 try simp only [nrm] at c13
 refine ⟨(y.natAbs,x.natAbs),by
  rfl,by
  show nl y.natAbs<=1048576/\nl x.natAbs<=1048576/\x.natAbs<=y.natAbs
  exact ⟨by omega,by omega,Nat.le_of_lt (FV.1 c13)⟩,?_⟩
 refine ⟨(decide (y<0),(y.natAbs-x.natAbs)),by
  rfl,by
  trivial,?_⟩
 refine ⟨?_,?_⟩
 ·rw [Q5 c1 (Nat.le_of_lt (FV.1 c13))]
 rw [Q5 c1 (Nat.le_of_lt (FV.1 c13))]
def Av:Con:={ ι:=Int×Int,pre:=λ i=>nl i.1.natAbs<=1000/\nl i.2.natAbs<=1000,args:=λ i=>[dB i.1,dB i.2],mono:=true,res:=λ i=>⟨false,[some 2],[rcB (decide ((i.1*i.2)<0)),.view 3 [.int] (L (i.1*i.2).natAbs)]⟩ }
theorem Hh:Av.Ok Tryz.prog 109:=by
 refine fok (X:=⟨tt,[(111,Al),(113,Af)],[],16,[]⟩) mixed AQ (CTok.cons EH (CTok.cons Ec (CTok.nil _))) Tryz.func109 (λ _=>[]) ?_
 rintro ⟨x,y⟩ hpre
 have hpre:nl x.natAbs<=1000/\nl y.natAbs<=1000:=hpre
 refine AP (q:=∃ i1:Nat×Nat,[DA.one (cS (L x.natAbs)),DA.one (cS (L y.natAbs))]=Al.args i1/\Al.pre i1/\(∃ i2:Bool×Nat,[DA.one (cB ((decide (x<0)) != (decide (y<0)))),DA.one (cS (L (i1.1*i1.2)))]=Af.args i2/\Af.pre i2/\((vB (decide ((zOf i2.1 i2.2)<0))=vB (decide ((x*y)<0)))/\(L (zOf i2.1 i2.2).natAbs=L (x*y).natAbs)))) (by kernel_rfl) ?_
 delta vB
 refine ⟨(x.natAbs,y.natAbs),by
  rfl,by
  show nl x.natAbs<=524288/\nl y.natAbs<=524288
  exact ⟨by omega,by omega⟩,?_⟩
 refine ⟨(((decide (x<0)) != (decide (y<0))),(x.natAbs*y.natAbs)),by
  rfl,by
  trivial,?_⟩
 refine ⟨?_,?_⟩
 ·rw [UY]
 rw [UY]
def F0:Con:={ ι:=Int×Int,pre:=λ i=>nl i.1.natAbs<=1000/\nl i.2.natAbs<=1000,args:=λ i=>[dB i.1,dB i.2],mono:=true,res:=λ i=>⟨false,[none],[rcI (DN i.1 i.2)]⟩ }
theorem Vi:F0.Ok Tryz.prog 108:=by
 refine fok (X:=⟨tt,[(148,Ak)],[],28,[]⟩) mixed AQ (CTok.cons Hf (CTok.nil _)) Tryz.func108 (λ _=>[]) ?_
 rintro ⟨x,y⟩ hpre
 have hpre:nl x.natAbs<=1000/\nl y.natAbs<=1000:=hpre
 refine AP (q:=let Z5:=decide (y<0);let Z4:=decide (x<0);let Z3:=cS (L x.natAbs);let Z2:=cS (L y.natAbs);let Z1:=DN x y;let Z7:=(vI (1:Int)=vI Z1);let Z6:=(vI (-1:Int)=vI Z1);ifB Z4 (ifB Z5 (∃ i1:Nat×Nat,[DA.one Z2,DA.one Z3]=Ak.args i1/\Ak.pre i1/\((vI (C6 i1.1 i1.2)=vI Z1))) (ifB Z4 Z6 (ifB Z5 Z7 (∃ i2:Nat×Nat,[DA.one Z3,DA.one Z2]=Ak.args i2/\Ak.pre i2/\((vI (C6 i2.1 i2.2)=vI Z1)))))) (ifB Z4 Z6 (ifB Z5 Z7 (∃ i3:Nat×Nat,[DA.one Z3,DA.one Z2]=Ak.args i3/\Ak.pre i3/\((vI (C6 i3.1 i3.2)=vI Z1)))))) (by kernel_rfl) ?_
 conv=>zeta
 delta ifB vI
 refine And.symm ⟨λ c1=>?_,λ c1=>?_⟩
 ·try simp only [nrm] at c1
  refine ⟨λ c15=>?_,λ c15=>?_⟩
  ·try simp only [nrm] at c15
   exfalso;omega
  try simp only [nrm] at c15
  refine ⟨λ c17=>?_,λ c17=>?_⟩
  ·try simp only [nrm] at c17
   rw [← Zp (by omega) (by omega)]
  try simp only [nrm] at c17
  refine ⟨(x.natAbs,y.natAbs),by
   rfl,by
   show nl x.natAbs<=1048576/\nl y.natAbs<=1048576
   exact ⟨by omega,by omega⟩,?_⟩
  rw [Zn (by omega) (by omega)]
 try simp only [nrm] at c1
 refine ⟨λ c2=>?_,λ c2=>?_⟩
 ·try simp only [nrm] at c2
  refine ⟨(y.natAbs,x.natAbs),by
   rfl,by
   show nl y.natAbs<=1048576/\nl x.natAbs<=1048576
   exact ⟨by omega,by omega⟩,?_⟩
  rw [Zm (by omega) (by omega)]
 try simp only [nrm] at c2
 refine ⟨λ c7=>?_,λ c7=>?_⟩
 ·try simp only [nrm] at c7
  rw [← Zo (by omega) (by omega)]
 try simp only [nrm] at c7
 refine ⟨λ c9=>?_,λ c9=>?_⟩
 ·try simp only [nrm] at c9
  exfalso;omega
 try simp only [nrm] at c9
 refine ⟨(x.natAbs,y.natAbs),by
  rfl,by
  exact ⟨by omega,by omega⟩,?_⟩
 exfalso;omega
def CQ:Con:={ ι:=Bool×Nat,pre:=λ i=>nl i.2<=60,args:=λ i=>[DA.agg [cB i.1,cS (L i.2)]],mono:=true,res:=λ i=>⟨false,[some 2],[rcB i.1,.own 3 [.int] (L i.2)]⟩ }
theorem Vj:CQ.Ok Tryz.prog 150:=by
 refine fok (X:=⟨tt,[(139,Ah)],[],14,[]⟩) mixed AQ (CTok.cons Fx (CTok.nil _)) Tryz.func150 (λ _=>[]) ?_
 rintro ⟨neg,m⟩ hpre
 have hpre:nl m<=60:=hpre
 refine AP (q:=ifB ((decide ((nI ((L m).length))>(60:Int)))) ((vB false=vB neg)/\(([]:List (List Dat))=L m)) (∃ i1:(List (List Dat)),[DA.one (cS (L m))]=Ah.args i1/\Ah.pre i1/\((vB neg=vB neg)/\(i1=L m)))) (by kernel_rfl) ?_
 delta ifB vB nI
 have hm:=Aq m
 refine ⟨λ c1=>?_,λ c1=>?_⟩
 ·try simp only [nrm] at c1
  refine ⟨?_,?_⟩
  ·exfalso;omega
  exfalso;omega
 try simp only [nrm] at c1
 refine ⟨(L m),by
  rfl,by
  show (L m).length<=1073741824
  omega,?_⟩
 exact ⟨rfl,rfl⟩
def CZ:Con:={ ι:=Int,pre:=λ i=>-9223372036854775808<=i/\i<=9223372036854775807,args:=λ i=>[.one (cI i)],mono:=true,res:=λ i=>⟨false,[some 2],[rcB (decide (i<0)),.own 3 [.int] (L i.natAbs)]⟩ }
theorem Q9:CZ.Ok Tryz.prog 62:=by
 refine fok (X:=⟨tt,[(114,At),(115,Ct)],[],18,[]⟩) mixed AQ (CTok.cons MO (CTok.cons OK (CTok.nil _))) Tryz.func62 (λ _=>[]) ?_
 intro (n:Int) hpre
 have hpre:-9223372036854775808<=n/\n<=9223372036854775807:=hpre
 refine AP (q:=let Z1:=vB true=vB (decide (n<0));ifB ((decide (n≥(0:Int)))) (∃ i1:Nat,[DA.one (cI n)]=At.args i1/\At.pre i1/\((vB false=vB (decide (n<0)))/\(L i1=L n.natAbs))) (ifB ((n == (-9223372036854775808:Int))) (∃ i2:Nat,[DA.one (cI (9223372036854775807:Int))]=At.args i2/\At.pre i2/\(∃ i3:Nat,[DA.one (cI (1:Int))]=At.args i3/\At.pre i3/\(∃ i4:Nat×Nat,[DA.one (cS (L i2)),DA.one (cS (L i3))]=Ct.args i4/\Ct.pre i4/\(Z1/\(L (i4.1+i4.2)=L n.natAbs))))) (∃ i5:Nat,[DA.one (cI (wR (0-n)))]=At.args i5/\At.pre i5/\(Z1/\(L i5=L n.natAbs))))) (by kernel_rfl) ?_
 conv=>zeta
 delta ifB vB wR
 refine ⟨λ c1=>?_,λ c1=>?_⟩
 ·try simp only [nrm] at c1
  have en:n=((n.toNat:Nat):Int):=by omega
  have ea:n.natAbs=n.toNat:=by omega
  refine ⟨n.toNat,by
   show [DA.one (DC.im (Value.int .i64 n))]=[DA.one (DC.im (Value.int .i64 ((n.toNat:Nat):Int)))]
   rw [← en],by
   show n.toNat<=9223372036854775807
   omega,?_⟩
  refine ⟨?_,?_⟩
  ·rw [decide_eq_false (show ¬ n<0 by omega)];done
  rw [ea];done
 try simp only [nrm] at c1
 refine And.symm ⟨λ c7=>?_,λ c7=>?_⟩
 ·try simp only [nrm] at c7
  have en:IntKind.i64.wrap (0-n)=(((-n).toNat:Nat):Int):=by rw [AC (by omega) (by omega)];omega
  have ea:n.natAbs=(-n).toNat:=by omega
  refine ⟨(-n).toNat,by
   rw [en];rfl,by
   show ((-n).toNat)<=9223372036854775807
   omega,?_⟩
  refine ⟨?_,?_⟩
  ·rw [decide_eq_true (show n<0 by omega)];done
  rw [ea];done
 try simp only [nrm] at c7
 refine ⟨9223372036854775807,by
  rfl,by
  show 9223372036854775807<=9223372036854775807
  trivial,?_⟩
 refine ⟨1,by
  rfl,by
  show 1<=9223372036854775807
  trivial,?_⟩
 refine ⟨(9223372036854775807,1),by
  rfl,by
  exact ⟨Nat.le_trans ((Ea 3 _).2 (by decide)) (by decide),Nat.le_trans ((Ea 3 _).2 (by decide)) (by decide)⟩,?_⟩
 refine ⟨?_,?_⟩
 ·rw [decide_eq_true (show n<0 by omega)];done
 rw [show n.natAbs=9223372036854775807+1 by omega];done
def AW:Con:={ ι:=Fr,pre:=λ i=>True,args:=λ i=>[dF i],mono:=true,res:=λ i=>⟨false,[none],[rcB i.good]⟩ }
theorem EI:AW.Ok Tryz.prog 91:=by
 refine fok (X:=⟨tt,[],[],7,[]⟩) mixed AQ (CTok.nil _) Tryz.func91 (λ _=>[]) ?_
 intro (r:Fr) hpre
 have hpre:True:=hpre
 refine AP (q:=(vB (decide ((nI ((L r.d).length))>(0:Int)))=vB r.good)) (by kernel_rfl) ?_
 delta vB nI
 rw [ABX]
def A6:Con:={ ι:=Int×Nat,pre:=λ i=>i.2≠0/\nl i.1.natAbs<=1000/\nl i.2<=1000,args:=λ i=>[dB i.1,.one (cS (L i.2))],mono:=true,res:=λ i=>⟨false,[some 3],[rcB (decide ((Fr.mk' i.1 i.2).z<0)),.own 3 [.int] (L (Fr.mk' i.1 i.2).z.natAbs),.own 3 [.int] (L (Fr.mk' i.1 i.2).d)]⟩ }
theorem F1:A6.Ok Tryz.prog 110:=by
 refine fok (X:=⟨tt,[(122,Bx),(123,Cu),(149,B6),(150,CQ),(139,Ah)],[],45,[]⟩) mixed AQ (CTok.cons Q8 (CTok.cons ON (CTok.cons OM (CTok.cons Vj (CTok.cons Fx (CTok.nil _)))))) Tryz.func110 (λ _=>[]) ?_
 rintro ⟨z,d⟩ hpre
 have hpre:d≠0/\nl z.natAbs<=1000/\nl d<=1000:=hpre
 refine AP (q:=let Z8:=cS (L d);let Z7:=List (List Dat);let Z3:=(decide ((nI ((L d).length))>(24:Int)));let Z2:=(!(decide ((nI ((L z.natAbs).length))>(24:Int))));let Z1:=Fr.mk' z d;let Z6:=decide (Z1.z<0);let Z5:=(eqN Z1);∃ i1:Nat,[DA.one Z8]=Bx.args i1/\Bx.pre i1/\(ifB ((!(decide (i1=1)))) (∃ i2:Nat×Nat,let Z4:=cS (L (i2.1.gcd i2.2));[DA.one (cS (L z.natAbs)),DA.one Z8]=Cu.args i2/\Cu.pre i2/\(∃ i3:Nat,[DA.one Z4]=Bx.args i3/\Bx.pre i3/\(ifB ((!(decide (i3=1)))) (∃ i4:Nat×Nat,[DA.one (cS (L z.natAbs)),DA.one Z4]=B6.args i4/\B6.pre i4/\(∃ i5:Nat×Nat,[DA.one Z8,DA.one Z4]=B6.args i5/\B6.pre i5/\(ifB ((!(decide ((nI ((L (i4.1/i4.2)).length))>(24:Int))))) (ifB ((decide ((nI ((L (i5.1/i5.2)).length))>(24:Int)))) Z5 (∃ i6:Bool×Nat,[DA.agg [cB (decide (z<0)),cS (L (i4.1/i4.2))]]=CQ.args i6/\CQ.pre i6/\(∃ i7:Z7,[DA.one (cS (L (i5.1/i5.2)))]=Ah.args i7/\Ah.pre i7/\((vB i6.1=vB Z6)/\(L i6.2=L Z1.z.natAbs)/\(i7=L Z1.d))))) Z5))) (ifB Z2 (ifB Z3 Z5 (∃ i8:Bool×Nat,[dB z]=CQ.args i8/\CQ.pre i8/\(∃ i9:Z7,[DA.one Z8]=Ah.args i9/\Ah.pre i9/\((vB i8.1=vB Z6)/\(L i8.2=L Z1.z.natAbs)/\(i9=L Z1.d))))) Z5)))) (ifB Z2 (ifB Z3 Z5 (∃ i10:Bool×Nat,[dB z]=CQ.args i10/\CQ.pre i10/\(∃ i11:Z7,[DA.one Z8]=Ah.args i11/\Ah.pre i11/\((vB i10.1=vB Z6)/\(L i10.2=L Z1.z.natAbs)/\(i11=L Z1.d))))) Z5))) (by kernel_rfl) ?_
 conv=>zeta
 delta ifB vB nI
 have hg:=Zq (a:=z.natAbs) hpre.1
 refine ⟨d,by
  rfl,by
  trivial,?_⟩
 refine And.symm ⟨λ c4=>?_,λ c4=>?_⟩
 ·try simp only [nrm] at c4
  have e1:z.natAbs.gcd d=1:=by rw [c4];exact Nat.gcd_one_right _
  have ez:z.natAbs/z.natAbs.gcd d=z.natAbs:=by rw [e1,Nat.div_one]
  have ed:d/z.natAbs.gcd d=d:=by rw [e1,Nat.div_one]
  have lz:=Aq (z.natAbs/z.natAbs.gcd d)
  have ld:=Aq (d/z.natAbs.gcd d)
  rw [ez] at lz
  rw [ed] at ld
  refine And.symm ⟨λ c52=>?_,λ c52=>?_⟩
  ·try simp only [nrm] at c52
   refine Cw ?_
   rw [FW hpre.1 (by rw [ez,ed];omega)];done
  try simp only [nrm] at c52
  refine ⟨λ c53=>?_,λ c53=>?_⟩
  ·try simp only [nrm] at c53
   refine Cw ?_
   rw [FW hpre.1 (by rw [ez,ed];omega)];done
  try simp only [nrm] at c53
  refine ⟨(decide (z<0),z.natAbs),by
   rfl,by
   show nl z.natAbs<=60
   omega,?_⟩
  refine ⟨(L d),by
   rfl,by
   show (L d).length<=1073741824
   omega,?_⟩
  refine ⟨?_,?_,?_⟩
  ·rw [(D8 hpre.1 (by rw [ez];omega) (by rw [ed];omega)).1];done
  ·rw [(D8 hpre.1 (by rw [ez];omega) (by rw [ed];omega)).2.1,ez];done
  rw [(D8 hpre.1 (by rw [ez];omega) (by rw [ed];omega)).2.2,ed];done
 try simp only [nrm] at c4
 refine ⟨(z.natAbs,d),by
  rfl,by
  show nl z.natAbs<=131072/\nl d<=131072
  exact ⟨by omega,by omega⟩,?_⟩
 refine ⟨(z.natAbs.gcd d),by
  rfl,by
  trivial,?_⟩
 refine And.symm ⟨λ c11=>?_,λ c11=>?_⟩
 ·try simp only [nrm] at c11
  have e1:z.natAbs.gcd d=1:=c11
  have ez:z.natAbs/z.natAbs.gcd d=z.natAbs:=by rw [e1,Nat.div_one]
  have ed:d/z.natAbs.gcd d=d:=by rw [e1,Nat.div_one]
  have lz:=Aq (z.natAbs/z.natAbs.gcd d)
  have ld:=Aq (d/z.natAbs.gcd d)
  rw [ez] at lz
  rw [ed] at ld
  refine And.symm ⟨λ c35=>?_,λ c35=>?_⟩
  ·try simp only [nrm] at c35
   refine Cw ?_
   rw [FW hpre.1 (by rw [ez,ed];omega)];done
  try simp only [nrm] at c35
  refine ⟨λ c36=>?_,λ c36=>?_⟩
  ·try simp only [nrm] at c36
   refine Cw ?_
   rw [FW hpre.1 (by rw [ez,ed];omega)];done
  try simp only [nrm] at c36
  refine ⟨(decide (z<0),z.natAbs),by
   rfl,by
   show nl z.natAbs<=60
   omega,?_⟩
  refine ⟨(L d),by
   rfl,by
   show (L d).length<=1073741824
   omega,?_⟩
  refine ⟨?_,?_,?_⟩
  ·rw [(D8 hpre.1 (by rw [ez];omega) (by rw [ed];omega)).1];done
  ·rw [(D8 hpre.1 (by rw [ez];omega) (by rw [ed];omega)).2.1,ez];done
  rw [(D8 hpre.1 (by rw [ez];omega) (by rw [ed];omega)).2.2,ed];done
 try simp only [nrm] at c11
 have ez:z.natAbs/z.natAbs.gcd d=z.natAbs/z.natAbs.gcd d:=rfl
 have ed:d/z.natAbs.gcd d=d/z.natAbs.gcd d:=rfl
 have lz:=Aq (z.natAbs/z.natAbs.gcd d)
 have ld:=Aq (d/z.natAbs.gcd d)
 rw [ez] at lz
 rw [ed] at ld
 refine ⟨(z.natAbs,(z.natAbs.gcd d)),by
  rfl,by
  show (z.natAbs.gcd d)≠0/\nl z.natAbs<=131072/\nl (z.natAbs.gcd d)<=131072
  exact ⟨by omega,by omega⟩,?_⟩
 refine ⟨(d,(z.natAbs.gcd d)),by
  rfl,by
  show (z.natAbs.gcd d)≠0/\nl d<=131072/\nl (z.natAbs.gcd d)<=131072
  exact ⟨by omega,by omega⟩,?_⟩
 refine And.symm ⟨λ c18=>?_,λ c18=>?_⟩
 ·try simp only [nrm] at c18
  refine Cw ?_
  rw [FW hpre.1 (by rw [ez,ed];omega)];done
 try simp only [nrm] at c18
 refine ⟨λ c19=>?_,λ c19=>?_⟩
 ·try simp only [nrm] at c19
  refine Cw ?_
  rw [FW hpre.1 (by rw [ez,ed];omega)];done
 try simp only [nrm] at c19
 refine ⟨(decide (z<0),(z.natAbs/(z.natAbs.gcd d))),by
  rfl,by
  show nl (z.natAbs/(z.natAbs.gcd d))<=60
  omega,?_⟩
 refine ⟨L (d/(z.natAbs.gcd d)),by
  rfl,by
  show (L (d/(z.natAbs.gcd d))).length<=1073741824
  omega,?_⟩
 refine ⟨?_,?_,?_⟩
 ·rw [(D8 hpre.1 (by rw [ez];omega) (by rw [ed];omega)).1];done
 ·rw [(D8 hpre.1 (by rw [ez];omega) (by rw [ed];omega)).2.1,ez];done
 rw [(D8 hpre.1 (by rw [ez];omega) (by rw [ed];omega)).2.2,ed];done
def AU:Con:={ ι:=Int,pre:=λ i=>-9223372036854775808<=i/\i<=9223372036854775807,args:=λ i=>[.one (cI i)],mono:=true,res:=λ i=>⟨false,[some 3],[rcB (decide ((Fr.ofInt i).z<0)),.own 3 [.int] (L (Fr.ofInt i).z.natAbs),.own 3 [.int] (L (Fr.ofInt i).d)]⟩ }
theorem EJ:AU.Ok Tryz.prog 46:=by
 refine fok (X:=⟨tt,[(62,CZ)],[],7,[]⟩) mixed AQ (CTok.cons Q9 (CTok.nil _)) Tryz.func46 (λ _=>[]) ?_
 intro (n:Int) hpre
 have hpre:-9223372036854775808<=n/\n<=9223372036854775807:=hpre
 refine AP (q:=∃ i1:Int,[DA.one (cI n)]=CZ.args i1/\CZ.pre i1/\((vB (decide (i1<0))=vB (decide ((Fr.ofInt n).z<0)))/\(L i1.natAbs=L (Fr.ofInt n).z.natAbs)/\(([[Dat.int (1:Int)]]:List (List Dat))=L (Fr.ofInt n).d))) (by kernel_rfl) ?_
 delta vB
 refine ⟨n,by
  rfl,by
  exact hpre,?_⟩
 refine ⟨?_,?_,?_⟩
 ·rw [(I0 (DG hpre)).1];done
 ·rw [(I0 (DG hpre)).1];done
 rw [(I0 (DG hpre)).2];exact AAz (by decide) (by decide)
def BO:Con:={ ι:=Fr×Fr,pre:=λ i=>True,args:=λ i=>[dF i.1,dF i.2],mono:=true,res:=λ i=>⟨false,[some 3],[rcB (decide ((Fr.add i.1 i.2).z<0)),.own 3 [.int] (L (Fr.add i.1 i.2).z.natAbs),.own 3 [.int] (L (Fr.add i.1 i.2).d)]⟩ }
theorem Hi:BO.Ok Tryz.prog 63:=by
 refine fok (X:=⟨tt,[(91,AW),(109,Av),(116,Fz),(111,Al),(110,A6)],[],35,[]⟩) mixed AQ (CTok.cons EI (CTok.cons Hh (CTok.cons Vh (CTok.cons EH (CTok.cons F1 (CTok.nil _)))))) Tryz.func63 (λ _=>[]) ?_
 rintro ⟨r,s⟩ hpre
 have hpre:True:=hpre
 refine AP (q:=∃ i1:Fr,[dF r]=AW.args i1/\AW.pre i1/\(ifB ((!(!i1.good))) (∃ i2:Fr,[dF s]=AW.args i2/\AW.pre i2/\(ifB ((!i2.good)) ((eqN (Fr.add r s))) (∃ i3:Int×Int,[dB r.z,DA.agg [cB false,cS (L s.d)]]=Av.args i3/\Av.pre i3/\(∃ i4:Int×Int,[dB s.z,DA.agg [cB false,cS (L r.d)]]=Av.args i4/\Av.pre i4/\(∃ i5:Int×Int,[dB (i3.1*i3.2),dB (i4.1*i4.2)]=Fz.args i5/\Fz.pre i5/\(∃ i6:Nat×Nat,[DA.one (cS (L r.d)),DA.one (cS (L s.d))]=Al.args i6/\Al.pre i6/\(∃ i7:Int×Nat,[dB (i5.1+i5.2),DA.one (cS (L (i6.1*i6.2)))]=A6.args i7/\A6.pre i7/\((eqC (Fr.mk' i7.1 i7.2) (Fr.add r s)))))))))) ((eqN (Fr.add r s))))) (by kernel_rfl) ?_
 delta ifB
 have h1:=r.nlz
 have h2:=r.nld
 have h3:=s.nlz
 have h4:=s.nld
 refine ⟨r,by
  rfl,by
  trivial,?_⟩
 refine And.symm ⟨λ c4=>?_,λ c4=>?_⟩
 ·try simp only [nrm] at c4
  have hE:Fr.add r s=Fr.none:=Fr.bin_bad _ (.inl (Ko c4))
  refine Cw ?_
  rw [hE];done
 try simp only [nrm] at c4
 refine ⟨s,by
  rfl,by
  trivial,?_⟩
 refine ⟨λ c8=>?_,λ c8=>?_⟩
 ·try simp only [nrm] at c8
  have hE:Fr.add r s=Fr.none:=Fr.bin_bad _ (.inr (Ko c8))
  refine Cw ?_
  rw [hE];done
 try simp only [nrm] at c8
 have hE:=Fr.add_zd (DY c4) (DY c8)
 have m1:=Cv r.z ((s.d:Nat):Int)
 have m2:=Cv s.z ((r.d:Nat):Int)
 rw [Ez] at m1 m2
 have m3:=Su (r.z*((s.d:Nat):Int)) (s.z*((r.d:Nat):Int))
 have m4:=DT r.d s.d
 have m5:r.d*s.d≠0:=Nat.mul_ne_zero (DY c4) (DY c8)
 refine ⟨(r.z,((s.d:Nat):Int)),by
  rfl,by
  show nl r.z.natAbs<=1000/\nl ((s.d:Nat):Int).natAbs<=1000
  exact ⟨by omega,by rw [Ez];omega⟩,?_⟩
 refine ⟨(s.z,((r.d:Nat):Int)),by
  rfl,by
  show nl s.z.natAbs<=1000/\nl ((r.d:Nat):Int).natAbs<=1000
  exact ⟨by omega,by rw [Ez];omega⟩,?_⟩
 refine ⟨((r.z*((s.d:Nat):Int)),(s.z*((r.d:Nat):Int))),by
  rfl,by
  show nl (r.z*((s.d:Nat):Int)).natAbs<=1000/\nl (s.z*((r.d:Nat):Int)).natAbs<=1000
  exact ⟨by omega,by omega⟩,?_⟩
 refine ⟨(r.d,s.d),by
  rfl,by
  show nl r.d<=524288/\nl s.d<=524288
  exact ⟨by omega,by omega⟩,?_⟩
 refine ⟨(((r.z*((s.d:Nat):Int))+(s.z*((r.d:Nat):Int))),(r.d*s.d)),by
  rfl,by
  show (r.d*s.d)≠0/\nl ((r.z*((s.d:Nat):Int))+(s.z*((r.d:Nat):Int))).natAbs<=1000/\nl (r.d*s.d)<=1000
  exact ⟨by omega,by omega⟩,?_⟩
 refine Eb ?_
 rw [hE];done
def Cx:Con:={ ι:=Fr×Fr,pre:=λ i=>True,args:=λ i=>[dF i.1,dF i.2],mono:=true,res:=λ i=>⟨false,[some 3],[rcB (decide ((Fr.mul i.1 i.2).z<0)),.own 3 [.int] (L (Fr.mul i.1 i.2).z.natAbs),.own 3 [.int] (L (Fr.mul i.1 i.2).d)]⟩ }
theorem OO:Cx.Ok Tryz.prog 60:=by
 refine fok (X:=⟨tt,[(91,AW),(109,Av),(111,Al),(110,A6)],[],25,[]⟩) mixed AQ (CTok.cons EI (CTok.cons Hh (CTok.cons EH (CTok.cons F1 (CTok.nil _))))) Tryz.func60 (λ _=>[]) ?_
 rintro ⟨r,s⟩ hpre
 have hpre:True:=hpre
 refine AP (q:=∃ i1:Fr,[dF r]=AW.args i1/\AW.pre i1/\(ifB ((!(!i1.good))) (∃ i2:Fr,[dF s]=AW.args i2/\AW.pre i2/\(ifB ((!i2.good)) ((eqN (Fr.mul r s))) (∃ i3:Int×Int,[dB r.z,dB s.z]=Av.args i3/\Av.pre i3/\(∃ i4:Nat×Nat,[DA.one (cS (L r.d)),DA.one (cS (L s.d))]=Al.args i4/\Al.pre i4/\(∃ i5:Int×Nat,[dB (i3.1*i3.2),DA.one (cS (L (i4.1*i4.2)))]=A6.args i5/\A6.pre i5/\((eqC (Fr.mk' i5.1 i5.2) (Fr.mul r s)))))))) ((eqN (Fr.mul r s))))) (by kernel_rfl) ?_
 delta ifB
 have h1:=r.nlz
 have h2:=r.nld
 have h3:=s.nlz
 have h4:=s.nld
 refine ⟨r,by
  rfl,by
  trivial,?_⟩
 refine And.symm ⟨λ c4=>?_,λ c4=>?_⟩
 ·try simp only [nrm] at c4
  have hE:Fr.mul r s=Fr.none:=Fr.bin_bad _ (.inl (Ko c4))
  refine Cw ?_
  rw [hE];done
 try simp only [nrm] at c4
 refine ⟨s,by
  rfl,by
  trivial,?_⟩
 refine ⟨λ c8=>?_,λ c8=>?_⟩
 ·try simp only [nrm] at c8
  have hE:Fr.mul r s=Fr.none:=Fr.bin_bad _ (.inr (Ko c8))
  refine Cw ?_
  rw [hE];done
 try simp only [nrm] at c8
 have hE:=Fr.mul_zd (DY c4) (DY c8)
 have m1:=Cv r.z s.z
 have m4:=DT r.d s.d
 have m5:r.d*s.d≠0:=Nat.mul_ne_zero (DY c4) (DY c8)
 refine ⟨(r.z,s.z),by
  rfl,by
  show nl r.z.natAbs<=1000/\nl s.z.natAbs<=1000
  exact ⟨by omega,by omega⟩,?_⟩
 refine ⟨(r.d,s.d),by
  rfl,by
  show nl r.d<=524288/\nl s.d<=524288
  exact ⟨by omega,by omega⟩,?_⟩
 refine ⟨((r.z*s.z),(r.d*s.d)),by
  rfl,by
  show (r.d*s.d)≠0/\nl (r.z*s.z).natAbs<=1000/\nl (r.d*s.d)<=1000
  exact ⟨by omega,by omega⟩,?_⟩
 refine Eb ?_
 rw [hE];done
def Cy:Con:={ ι:=Fr×Fr,pre:=λ i=>True,args:=λ i=>[dF i.1,dF i.2],mono:=true,res:=λ i=>⟨false,[some 3],[rcB (decide ((Fr.div i.1 i.2).z<0)),.own 3 [.int] (L (Fr.div i.1 i.2).z.natAbs),.own 3 [.int] (L (Fr.div i.1 i.2).d)]⟩ }
theorem OP:Cy.Ok Tryz.prog 144:=by
 refine fok (X:=⟨tt,[(91,AW),(109,Av),(113,Af),(111,Al),(110,A6)],[],44,[]⟩) mixed AQ (CTok.cons EI (CTok.cons Hh (CTok.cons Ec (CTok.cons EH (CTok.cons F1 (CTok.nil _)))))) Tryz.func144 (λ _=>[]) ?_
 rintro ⟨r,s⟩ hpre
 have hpre:True:=hpre
 refine AP (q:=let Z1:=(eqN (Fr.div r s));∃ i1:Fr,[dF r]=AW.args i1/\AW.pre i1/\(ifB ((!(!i1.good))) (∃ i2:Fr,[dF s]=AW.args i2/\AW.pre i2/\(ifB ((!(!i2.good))) (ifB (((nI ((L s.z.natAbs).length)) == (0:Int))) Z1 (∃ i3:Int×Int,[dB r.z,DA.agg [cB false,cS (L s.d)]]=Av.args i3/\Av.pre i3/\(∃ i4:Bool×Nat,[DA.one (cB ((decide ((i3.1*i3.2)<0)) != (decide (s.z<0)))),DA.one (cS (L (i3.1*i3.2).natAbs))]=Af.args i4/\Af.pre i4/\(∃ i5:Nat×Nat,[DA.one (cS (L r.d)),DA.one (cS (L s.z.natAbs))]=Al.args i5/\Al.pre i5/\(∃ i6:Int×Nat,[dB (zOf i4.1 i4.2),DA.one (cS (L (i5.1*i5.2)))]=A6.args i6/\A6.pre i6/\((eqC (Fr.mk' i6.1 i6.2) (Fr.div r s)))))))) Z1)) Z1)) (by kernel_rfl) ?_
 conv=>zeta
 delta ifB nI
 have h1:=r.nlz
 have h2:=r.nld
 have h3:=s.nlz
 have h4:=s.nld
 refine ⟨r,by
  rfl,by
  trivial,?_⟩
 refine And.symm ⟨λ c4=>?_,λ c4=>?_⟩
 ·try simp only [nrm] at c4
  have hE:Fr.div r s=Fr.none:=Fr.div_bad (.inl (Ko c4))
  refine Cw ?_
  rw [hE];done
 try simp only [nrm] at c4
 refine ⟨s,by
  rfl,by
  trivial,?_⟩
 refine And.symm ⟨λ c8=>?_,λ c8=>?_⟩
 ·try simp only [nrm] at c8
  have hE:Fr.div r s=Fr.none:=Fr.div_bad (.inr (.inl (Ko c8)))
  refine Cw ?_
  rw [hE];done
 try simp only [nrm] at c8
 refine ⟨λ c9=>?_,λ c9=>?_⟩
 ·try simp only [nrm] at c9
  have hE:Fr.div r s=Fr.none:=Fr.div_bad (.inr (.inr (ACy (by omega))))
  refine Cw ?_
  rw [hE];done
 try simp only [nrm] at c9
 have hz:s.z≠0:=ACJ (by omega)
 have hE:=Fr.div_zd (DY c4) (DY c8) hz
 have m1:=Cv r.z ((s.d:Nat):Int)
 have m2:=Cv s.z ((r.d:Nat):Int)
 rw [Ez] at m1 m2
 have m4:=DT r.d s.z.natAbs
 have m5:r.d*s.z.natAbs≠0:=Nat.mul_ne_zero (DY c4) (by omega)
 refine ⟨(r.z,((s.d:Nat):Int)),by
  rfl,by
  show nl r.z.natAbs<=1000/\nl ((s.d:Nat):Int).natAbs<=1000
  exact ⟨by omega,by rw [Ez];omega⟩,?_⟩
 refine ⟨(((decide ((r.z*((s.d:Nat):Int))<0)) != (decide (s.z<0))),(r.z*((s.d:Nat):Int)).natAbs),by
  rfl,by
  trivial,?_⟩
 refine ⟨(r.d,s.z.natAbs),by
  rfl,by
  show nl r.d<=524288/\nl s.z.natAbs<=524288
  exact ⟨by omega,by omega⟩,?_⟩
 refine ⟨((zOf ((decide ((r.z*((s.d:Nat):Int))<0)) != (decide (s.z<0))) ((r.z*((s.d:Nat):Int)).natAbs)),(r.d*s.z.natAbs)),by
  rfl,by
  show (r.d*s.z.natAbs)≠0/\nl (zOf ((decide ((r.z*((s.d:Nat):Int))<0)) != (decide (s.z<0))) ((r.z*((s.d:Nat):Int)).natAbs)).natAbs<=1000/\nl (r.d*s.z.natAbs)<=1000
  exact ⟨m5,by rw [Fw];omega,by omega⟩,?_⟩
 refine Eb ?_
 rw [hE];done
def F3:Con:={ ι:=Fr,pre:=λ i=>True,args:=λ i=>[dF i],mono:=true,res:=λ i=>⟨false,[some 3],[rcB (decide (i.opp.z<0)),.view 3 [.int] (L i.opp.z.natAbs),.view 3 [.int] (L i.opp.d)]⟩ }
theorem Vk:F3.Ok Tryz.prog 174:=by
 refine fok (X:=⟨tt,[(202,Fy)],[],9,[]⟩) mixed AQ (CTok.cons Vg (CTok.nil _)) Tryz.func174 (λ _=>[]) ?_
 intro (r:Fr) hpre
 have hpre:True:=hpre
 refine AP (q:=∃ i1:Int,[dB r.z]=Fy.args i1/\Fy.pre i1/\((vB (decide ((-i1)<0))=vB (decide (r.opp.z<0)))/\(L (-i1).natAbs=L r.opp.z.natAbs)/\((L r.d)=L r.opp.d))) (by kernel_rfl) ?_
 delta vB
 refine ⟨r.z,by
  rfl,by
  trivial,?_⟩
 refine ⟨?_,?_,?_⟩
 ·rw [Fr.opp_z];done
 ·rw [Fr.opp_z];done
 rw [Fr.opp_d]
def B7:Con:={ ι:=Fr×Fr,pre:=λ i=>True,args:=λ i=>[dF i.1,dF i.2],mono:=true,res:=λ i=>⟨false,[some 3],[rcB (decide ((Fr.sub i.1 i.2).z<0)),.own 3 [.int] (L (Fr.sub i.1 i.2).z.natAbs),.own 3 [.int] (L (Fr.sub i.1 i.2).d)]⟩ }
theorem OQ:B7.Ok Tryz.prog 142:=by
 refine fok (X:=⟨tt,[(174,F3),(63,BO)],[],9,[]⟩) mixed AQ (CTok.cons Vk (CTok.cons Hi (CTok.nil _))) Tryz.func142 (λ _=>[]) ?_
 rintro ⟨r,s⟩ hpre
 have hpre:True:=hpre
 refine AP (q:=∃ i1:Fr,[dF s]=F3.args i1/\F3.pre i1/\(∃ i2:Fr×Fr,[dF r,dF i1.opp]=BO.args i2/\BO.pre i2/\((eqC (Fr.add i2.1 i2.2) (Fr.sub r s))))) (by kernel_rfl) ?_
 refine ⟨s,by
  rfl,by
  trivial,?_⟩
 refine ⟨(r,s.opp),by
  rfl,by
  trivial,?_⟩
 refine Eb ?_
 rw [Fr.sub_opp]
def AJ:Con:={ ι:=Fr×Fr,pre:=λ i=>True,args:=λ i=>[dF i.1,dF i.2],mono:=true,res:=λ i=>⟨false,[none],[rcI (Fr.cmp i.1 i.2)]⟩ }
theorem FY:AJ.Ok Tryz.prog 58:=by
 refine fok (X:=⟨tt,[(91,AW),(109,Av),(108,F0)],[],26,[]⟩) mixed AQ (CTok.cons EI (CTok.cons Hh (CTok.cons Vi (CTok.nil _)))) Tryz.func58 (λ _=>[]) ?_
 rintro ⟨r,s⟩ hpre
 have hpre:True:=hpre
 refine AP (q:=let Z1:=(vI (0:Int)=vI (Fr.cmp r s));∃ i1:Fr,[dF r]=AW.args i1/\AW.pre i1/\(ifB ((!(!i1.good))) (∃ i2:Fr,[dF s]=AW.args i2/\AW.pre i2/\(ifB ((!i2.good)) Z1 (∃ i3:Int×Int,[dB r.z,DA.agg [cB false,cS (L s.d)]]=Av.args i3/\Av.pre i3/\(∃ i4:Int×Int,[dB s.z,DA.agg [cB false,cS (L r.d)]]=Av.args i4/\Av.pre i4/\(∃ i5:Int×Int,[dB (i3.1*i3.2),dB (i4.1*i4.2)]=F0.args i5/\F0.pre i5/\((vI (DN i5.1 i5.2)=vI (Fr.cmp r s)))))))) Z1)) (by kernel_rfl) ?_
 conv=>zeta
 delta ifB vI
 have h1:=r.nlz
 have h2:=r.nld
 have h3:=s.nlz
 have h4:=s.nld
 refine ⟨r,by
  rfl,by
  trivial,?_⟩
 refine And.symm ⟨λ c4=>?_,λ c4=>?_⟩
 ·try simp only [nrm] at c4
  have hE:Fr.cmp r s=0:=Fr.cmp_bad (.inl (Ko c4))
  rw [hE];done
 try simp only [nrm] at c4
 refine ⟨s,by
  rfl,by
  trivial,?_⟩
 refine ⟨λ c8=>?_,λ c8=>?_⟩
 ·try simp only [nrm] at c8
  have hE:Fr.cmp r s=0:=Fr.cmp_bad (.inr (Ko c8))
  rw [hE];done
 try simp only [nrm] at c8
 have hE:=Fr.cmp_zd (DY c4) (DY c8)
 have m1:=Cv r.z ((s.d:Nat):Int)
 have m2:=Cv s.z ((r.d:Nat):Int)
 rw [Ez] at m1 m2
 
 refine ⟨(r.z,((s.d:Nat):Int)),by
  rfl,by
  show nl r.z.natAbs<=1000/\nl ((s.d:Nat):Int).natAbs<=1000
  exact ⟨by omega,by rw [Ez];omega⟩,?_⟩
 refine ⟨(s.z,((r.d:Nat):Int)),by
  rfl,by
  show nl s.z.natAbs<=1000/\nl ((r.d:Nat):Int).natAbs<=1000
  exact ⟨by omega,by rw [Ez];omega⟩,?_⟩
 refine ⟨((r.z*((s.d:Nat):Int)),(s.z*((r.d:Nat):Int))),by
  rfl,by
  show nl (r.z*((s.d:Nat):Int)).natAbs<=1000/\nl (s.z*((r.d:Nat):Int)).natAbs<=1000
  exact ⟨by omega,by omega⟩,?_⟩
 rw [hE];done
def F4:Con:={ ι:=Bool×(List (List Dat))×(List (List Dat)),pre:=λ i=>i.2.1.length<=1073741824/\i.2.2.length<=1073741824,args:=λ i=>[DA.agg [cB i.1,cS i.2.1,cS i.2.2]],mono:=true,res:=λ i=>⟨false,[some 3],[rcB i.1,.own 3 [.int] i.2.1,.own 3 [.int] i.2.2]⟩ }
theorem Vl:F4.Ok Tryz.prog 99:=by
 refine fok (X:=⟨tt,[(139,Ah)],[],15,[]⟩) mixed AQ (CTok.cons Fx (CTok.nil _)) Tryz.func99 (λ _=>[]) ?_
 rintro ⟨neg,m,d⟩ hpre
 have hpre:m.length<=1073741824/\d.length<=1073741824:=hpre
 refine AP (q:=∃ i1:(List (List Dat)),[DA.one (cS m)]=Ah.args i1/\Ah.pre i1/\(∃ i2:(List (List Dat)),[DA.one (cS d)]=Ah.args i2/\Ah.pre i2/\((vB neg=vB neg)/\(i1=m)/\(i2=d)))) (by kernel_rfl) ?_
 delta vB
 refine ⟨m,by
  rfl,by
  show m.length<=1073741824
  first|omega|assumption|exact hpre.1|exact hpre.2|(simp;done),?_⟩
 refine ⟨d,by
  rfl,by
  show d.length<=1073741824
  first|omega|assumption|exact hpre.1|exact hpre.2|(simp;done),?_⟩
 exact ⟨rfl,rfl,rfl⟩
def DZ:Con:={ ι:=(List (List Dat)),pre:=λ i=>i.length<=9223372036854775807,args:=λ i=>[.one (cS i)],mono:=true,res:=λ i=>⟨false,[none],[rcB (Bd i)]⟩ }
theorem RA:DZ.Ok Tryz.prog 121:=by
 refine fok (X:=⟨tt,[(156,Hc)],[],22,[]⟩) mixed AQ (CTok.cons Xl (CTok.nil _)) Tryz.func121 (λ _=>[]) ?_
 intro (l:List (List Dat)) hpre
 have hpre:l.length<=9223372036854775807:=hpre
 refine AP (q:=let Z2:=(vB false=vB (Bd l));let Z1:=wR ((nI l.length)-(1:Int));ifB ((!(decide ((nI l.length)>(60:Int))))) (∃ i1:(List (List Dat)),[DA.one (cS l),DA.one (DC.ro (.fn 157 []))]=Hc.args i1/\Hc.pre i1/\(ifB ((i1.any (λ r=>!(inB (rn r))))) Z2 (ifB ((!((nI l.length) == (0:Int)))) ((0<=Z1/\Z1<(l.length:Int))/\((Z1.toNat<l.length)/\((vB ((((l.getD (Z1.toNat) []).getD 0 (.int 0))).n != (0:Int))=vB (Bd l))))) ((vB true=vB (Bd l)))))) Z2) (by kernel_rfl) ?_
 conv=>zeta
 delta ifB vB wR nI
 refine And.symm ⟨λ c1=>?_,λ c1=>?_⟩
 ·try simp only [nrm] at c1
  have hE:=Sv (l:=l) (by omega)
  rw [hE]
 try simp only [nrm] at c1
 refine ⟨l,by
  rfl,by
  trivial,?_⟩
 refine ⟨λ c5=>?_,λ c5=>?_⟩
 ·try simp only [nrm] at c5
  have hE:=Sw c5
  rw [hE]
 try simp only [nrm] at c5
 refine And.symm ⟨λ c7=>?_,λ c7=>?_⟩
 ·try simp only [nrm] at c7
  have hE:=Sx (l:=l) (by omega)
  rw [hE]
 try simp only [nrm] at c7
 have hE:=Q7 (l:=l) (by omega) c5 (by omega)
 have hw:(IntKind.i64.wrap (((l.length:Nat):Int)-(1:Int)))=((l.length-1:Nat):Int):=by rw [AC (by omega) (by omega)];omega
 refine ao (by rw [hw];omega) λ o8=>?_
 refine ao (by rw [hw];omega) λ o9=>?_
 rw [hw,Int.toNat_natCast,hE];rfl
def BW:Con:={ ι:=Bool×(List (List Dat)),pre:=λ i=>i.2.length<=9223372036854775807,args:=λ i=>[DA.agg [cB i.1,cS i.2]],mono:=true,res:=λ i=>⟨false,[none],[rcB (CJ i.1 i.2)]⟩ }
theorem Kp:BW.Ok Tryz.prog 120:=by
 refine fok (X:=⟨tt,[(121,DZ)],[],17,[]⟩) mixed AQ (CTok.cons RA (CTok.nil _)) Tryz.func120 (λ _=>[]) ?_
 rintro ⟨neg,m⟩ hpre
 have hpre:m.length<=9223372036854775807:=hpre
 refine AP (q:=let Z1:=CJ neg m;∃ i1:(List (List Dat)),[DA.one (cS m)]=DZ.args i1/\DZ.pre i1/\(ifB ((Bd i1)) (ifB (neg) ((vB (!((nI m.length) == (0:Int)))=vB Z1)) ((vB (!false)=vB Z1))) ((vB false=vB Z1)))) (by kernel_rfl) ?_
 conv=>zeta
 delta ifB vB nI
 refine ⟨m,by
  rfl,by
  trivial,?_⟩
 refine And.symm ⟨λ c4=>?_,λ c4=>?_⟩
 ·try simp only [nrm] at c4
  unfold CJ;rw [c4];rfl
 try simp only [nrm] at c4
 refine ⟨λ c5=>?_,λ c5=>?_⟩
 ·try simp only [nrm] at c5
  rw [c5,Sy c4];done
 try simp only [nrm] at c5
 unfold CJ;rw [c4,c5];rfl
def Bi:Con:={ ι:=Bool×(List (List Dat))×(List (List Dat)),pre:=λ i=>Dat.has (.sl 3 [.int]) (.sl i.2.1)/\Dat.has (.sl 3 [.int]) (.sl i.2.2)/\i.2.1.length<=9223372036854775807/\i.2.2.length<=9223372036854775807,args:=λ i=>[DA.agg [cB i.1,cS i.2.1,cS i.2.2]],mono:=true,res:=λ i=>⟨false,[none],[rcB (Bw i.1 i.2.1 i.2.2)]⟩ }
theorem MW:Bi.Ok Tryz.prog 68:=by
 refine fok (X:=⟨tt,[(120,BW),(121,DZ),(122,Bx),(123,Cu)],[],44,[]⟩) mixed AQ (CTok.cons Kp (CTok.cons RA (CTok.cons Q8 (CTok.cons ON (CTok.nil _))))) Tryz.func68 (λ _=>[]) ?_
 rintro ⟨neg,m,d⟩ hpre
 have hpre:Dat.has (.sl 3 [.int]) (.sl m)/\Dat.has (.sl 3 [.int]) (.sl d)/\m.length<=9223372036854775807/\d.length<=9223372036854775807:=hpre
 refine AP (q:=let Z2:=Bw neg m d;let Z1:=(vB false=vB Z2);∃ i1:Bool×(List (List Dat)),[DA.agg [cB neg,cS m]]=BW.args i1/\BW.pre i1/\(ifB ((!(!(CJ i1.1 i1.2)))) (∃ i2:(List (List Dat)),[DA.one (cS d)]=DZ.args i2/\DZ.pre i2/\(ifB ((!(!(Bd i2)))) (ifB ((!((nI d.length) == (0:Int)))) (ifB ((!(decide ((nI m.length)>(24:Int))))) (ifB ((decide ((nI d.length)>(24:Int)))) Z1 (∃ i3:Nat,[DA.one (cS d)]=Bx.args i3/\Bx.pre i3/\(ifB ((!(decide (i3=1)))) (∃ i4:Nat×Nat,[DA.one (cS m),DA.one (cS d)]=Cu.args i4/\Cu.pre i4/\(∃ i5:Nat,[DA.one (cS (L (i4.1.gcd i4.2)))]=Bx.args i5/\Bx.pre i5/\((vB (decide (i5=1))=vB Z2)))) ((vB true=vB Z2))))) Z1) Z1) Z1)) Z1)) (by kernel_rfl) ?_
 conv=>zeta
 delta ifB vB nI
 refine ⟨(neg,m),by
  rfl,by
  show m.length<=9223372036854775807
  omega,?_⟩
 refine And.symm ⟨λ c4=>?_,λ c4=>?_⟩
 ·try simp only [nrm] at c4
  have hE:Bw neg m d=false:=FX (.inl c4)
  rw [hE]
 try simp only [nrm] at c4
 refine ⟨d,by
  rfl,by
  show d.length<=9223372036854775807
  omega,?_⟩
 refine And.symm ⟨λ c8=>?_,λ c8=>?_⟩
 ·try simp only [nrm] at c8
  have hE:Bw neg m d=false:=FX (.inr (.inl c8))
  rw [hE]
 try simp only [nrm] at c8
 refine And.symm ⟨λ c9=>?_,λ c9=>?_⟩
 ·try simp only [nrm] at c9
  have hE:Bw neg m d=false:=FX (.inr (.inr (.inl (by omega))))
  rw [hE]
 try simp only [nrm] at c9
 refine And.symm ⟨λ c10=>?_,λ c10=>?_⟩
 ·try simp only [nrm] at c10
  have hE:Bw neg m d=false:=FX (.inr (.inr (.inr (.inl (by omega)))))
  rw [hE]
 try simp only [nrm] at c10
 refine ⟨λ c11=>?_,λ c11=>?_⟩
 ·try simp only [nrm] at c11
  have hE:Bw neg m d=false:=FX (.inr (.inr (.inr (.inr (by omega)))))
  rw [hE]
 try simp only [nrm] at c11
 obtain ⟨a,ea,na⟩:=MM hpre.1 (Sz c4)
 obtain ⟨b,eb,nb⟩:=MM hpre.2.1 c8
 have hE:=S0 c4 c8 (by omega) (by omega) (by omega)
 refine ⟨b,by
  rw [eb];rfl,by
  trivial,?_⟩
 refine And.symm ⟨λ c16=>?_,λ c16=>?_⟩
 ·try simp only [nrm] at c16
  rw [hE,ea,eb,J5,J5]
  exact congrArg Value.bool (decide_eq_true (by rw [c16];exact Nat.gcd_one_right a)).symm
 try simp only [nrm] at c16
 refine ⟨(a,b),by
  rw [ea,eb];rfl,by
  show nl a<=131072/\nl b<=131072
  exact ⟨by omega,by omega⟩,?_⟩
 refine ⟨(a.gcd b),by
  rfl,by
  trivial,?_⟩
 rw [hE,ea,eb,J5,J5]
end Go.Proofs.YtkffpiaagjcmpaaGreat
namespace Go.Proofs.YtkffpiaagjcmpaaGreat
set_option linter.unusedVariables false
set_option linter.unusedSimpArgs false
open Go.RowKit
end Go.Proofs.YtkffpiaagjcmpaaGreat
namespace Go.Proofs.YtkffpiaagjcmpaaGreat
set_option linter.unusedVariables false
set_option linter.unusedSimpArgs false
open Go.RowKit
theorem Kq (e:Nat) {n:Nat} (h:nl n<=9223372036854775807):Dat.has (.sl e [.int]) (.sl (L n)):=by
 refine ⟨by rw [Aq];exact h,λ k hk=>?_⟩
 unfold L
 rw [ML (by rw [Aq] at hk;exact hk)]
 simp [hasRow,Dat.has]
theorem EK (r:Fr):Bw (decide (r.z<0)) (L r.z.natAbs) (L r.d)=r.good:=by
 rw [← Fr.neg_z,← Fr.num_z,← Fr.den_d];exact Vf r
end Go.Proofs.YtkffpiaagjcmpaaGreat
