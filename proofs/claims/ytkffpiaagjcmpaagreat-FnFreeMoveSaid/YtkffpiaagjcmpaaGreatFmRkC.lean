import Derived.Test.YtkffpiaagjcmpaaGreatFmRkM
import Derived.Test.YtkffpiaagjcmpaaGreatFmNum3
namespace Go.Proofs.YtkffpiaagjcmpaaGreat
set_option maxRecDepth 100000
set_option linter.unusedVariables false
set_option linter.unusedSimpArgs false
open Go.RowKit
theorem Y4 (n:Nat):decide (((n:Nat):Int)<0)=false:=decide_eq_false (by omega)
theorem ACf (r:Fr):decide ((((L r.d).length:Nat):Int)>(0:Int))=r.good:=by
 rw [← Fr.d_good'];congr 1;apply propext;omega
theorem UI:nl 1=1:=Yo (by decide) (by decide)
theorem EL {z:Int} {d:Nat} (hd:d≠0) (h1:nl (z.natAbs/z.natAbs.gcd d)<=24) (h2:nl (d/z.natAbs.gcd d)<=24) :
  decide ((Fr.mk' z d).z<0)=decide (z<0)/\(Fr.mk' z d).z.natAbs=z.natAbs/z.natAbs.gcd d/\(Fr.mk' z d).d=d/z.natAbs.gcd d:=by
 have hv:(Fr.mk' z d).v=some (mkRat z d):=Cj (Dq.2 ⟨by rw [Dr hd];exact h1,by rw [(D7 hd).2];exact h2⟩)
 exact ⟨by rw [Fr.z_some hv,Wl hd],by rw [Fr.z_some hv,Dr hd],by rw [Fr.d_some hv,(D7 hd).2]⟩
theorem GJ {n:Int} (h:nl n.natAbs<=24):(Fr.ofInt n).z=n/\(Fr.ofInt n).d=1:=by
 rw [Fr.z_some (VU h),Fr.d_some (VU h),Rat.num_intCast,Rat.den_intCast];exact ⟨rfl,rfl⟩
theorem MU (neg:Bool) (m:Nat):decide (zOf neg m<0)=(neg && decide ((((L m).length:Nat):Int)>(0:Int))):=by
 rw [Y2];congr 2;apply propext;omega
theorem GK {r:Fr} (h:r.good=false):r.d=0:=Classical.byContradiction λ h2=>by rw [Fr.d_good.2 h2] at h;cases h
theorem CP {r:Fr} (h:r.good=true):r.d≠0:=Fr.d_good.1 h
theorem AEB {z:Int} (h:(L z.natAbs).length=0):z=0:=by
 rw [AV] at h
 have:=Cq.1 h
 omega
theorem ADV {z:Int} (h:(L z.natAbs).length≠0):z≠0:=by
 rintro rfl
 exact h (by rw [AV];exact Ca)
theorem Vd (l:List (List Dat)):l.all (λ r=>inB (rn r))=!(l.any λ r=>!(inB (rn r))):=by rw [List.all_eq_not_any_not]
theorem Nd {l:List (List Dat)} (h:60<l.length):BA l=false:=by
 unfold BA;rw [decide_eq_false (show ¬ l.length<=60 by omega)];rfl
theorem Ne {l:List (List Dat)} (h:(l.any λ r=>!(inB (rn r)))=true):BA l=false:=by
 unfold BA;rw [Vd,h];simp
theorem Nf {l:List (List Dat)} (h:l.length=0):BA l=true:=by
 rw [List.eq_nil_of_length_eq_zero h];rfl
theorem Lv {l:List (List Dat)} (h1:l.length<=60) (h:(l.any λ r=>!(inB (rn r)))=false) (h0:l.length≠0):BA l=(rn (l.getD (l.length-1) []) != 0):=by
 unfold BA
 rw [Vd,h,decide_eq_true h1,decide_eq_false h0]
 generalize rn (l.getD (l.length-1) [])=v
 by_cases hv:v=0 <;> simp [hv]
theorem Ng {m:List (List Dat)} (h:BA m=true):BX true m=!(((m.length:Nat):Int) == (0:Int)):=by
 unfold BX;rw [h]
 by_cases hv:m.length=0
 ·rw [hv];rfl
 ·have:((((m.length:Nat):Int)) == (0:Int))=false:=by rw [beq_eq_false_iff_ne];omega
  rw [this];simp [hv]
theorem Nh {neg:Bool} {m:List (List Dat)} (h:BX neg m=true):BA m=true:=by
 unfold BX at h;rw [Bool.and_eq_true] at h;exact h.1
theorem Cl {neg:Bool} {m d:List (List Dat)} (h:BX neg m=false∨BA d=false∨d.length=0∨24<m.length∨24<d.length):Bh neg m d=false:=by
 unfold Bh
 rcases h with h|h|h|h|h
 ·rw [h];rfl
 ·rw [h];simp
 ·simp [h]
 ·rw [decide_eq_false (show ¬ m.length<=24 by omega)];simp
 ·rw [decide_eq_false (show ¬ d.length<=24 by omega)];simp
theorem Ni {neg:Bool} {m d:List (List Dat)} (h1:BX neg m=true) (h2:BA d=true) (h3:d.length≠0) (h4:m.length<=24) (h5:d.length<=24):Bh neg m d=decide ((MA m).gcd (MA d)=1):=by
 unfold Bh;rw [h1,h2,decide_eq_false h3,decide_eq_true h4,decide_eq_true h5];rfl
theorem CQ {n:Int} (h:-9223372036854775808<=n/\n<=9223372036854775807):nl n.natAbs<=24:=(Dp _ _).2 (Nat.lt_of_le_of_lt (show n.natAbs<=9223372036854775808 by omega) (by decide))
theorem Ve {a b:Nat} (h:b≠0):a.gcd b≠0/\nl (a.gcd b)<=nl b:=⟨λ e=>h (Nat.eq_zero_of_gcd_eq_zero_right e),C2 (Nat.gcd_le_right _ (Nat.pos_of_ne_zero h))⟩
def BC:Con:={ ι:=(List (List Dat)),pre:=λ i=>i.length<=1073741824,args:=λ i=>[.one (cS i)],mono:=true,res:=λ i=>⟨false,[none],[.own 3 [.int] i]⟩ }
theorem Jt:BC.Ok Tryz.prog 139:=by
 refine fok (X:=⟨tt,[],[],8,[]⟩) mixed AI (CTok.nil _) Tryz.func139 (λ _=>[]) ?_
 intro (ls:List (List Dat)) hpre
 have hpre:ls.length<=1073741824:=hpre
 refine AH (q:=∀ b1:Bool,(b1=true->ls=[])->(ifB (b1) ((([]:List (List Dat))=ls)) ((([]:List (List Dat)).length+ls.length<=2199023255552)/\(((([]:List (List Dat))++ls)=ls))))) (by kernel_rfl) ?_
 delta ifB
 intro b1 q1
 refine ⟨λ c2=>?_,λ c2=>?_⟩
 ·try simp only [nrm] at c2
  rw [q1 c2]
 try simp only [nrm] at c2
 refine ao (by simp;omega) λ o4=>?_
 rfl
def CR:Con:={ ι:=Nat,pre:=λ i=>True,args:=λ i=>[.one (cS (L i))],mono:=true,res:=λ i=>⟨false,[none],[rcB (decide (i=1))]⟩ }
theorem SC:CR.Ok Tryz.prog 122:=by
 refine fok (X:=⟨tt,[],[],12,[]⟩) mixed AI (CTok.nil _) Tryz.func122 (λ _=>[]) ?_
 intro (a:Nat) hpre
 have hpre:True:=hpre
 refine AH (q:=ifB (((nI ((L a).length)) == (1:Int))) ((0<=(0:Int)/\(0:Int)<((L a).length:Int))/\((0<(L a).length)/\((vB (((((L a).getD 0 []).getD 0 (.int 0))).n == (1:Int))=vB (decide (a=1)))))) ((vB false=vB (decide (a=1))))) (by kernel_rfl) ?_
 delta ifB vB nI
 have ha:=AV a
 refine And.symm ⟨λ c1=>?_,λ c1=>?_⟩
 ·try simp only [nrm] at c1
  exact congrArg Value.bool (decide_eq_false (λ e=>by subst e;rw [UI] at ha;omega)).symm
 try simp only [nrm] at c1
 have h1:=Hx (b:=a) (by omega)
 refine ao (by omega) λ o2=>?_
 refine ao (by omega) λ o3=>?_
 rw [L_n,h1.1]
 exact congrArg Value.bool (by rw [Bool.eq_iff_iff,beq_iff_eq,decide_eq_true_iff];omega)
def As:Con:={ ι:=Bool×Nat,pre:=λ i=>True,args:=λ i=>[.one (cB i.1),.one (cS (L i.2))],mono:=true,res:=λ i=>⟨false,[some 2],[rcB (decide ((zOf i.1 i.2)<0)),.view 3 [.int] (L (zOf i.1 i.2).natAbs)]⟩ }
theorem Gl:As.Ok Tryz.prog 113:=by
 refine fok (X:=⟨tt,[],[],13,[]⟩) mixed AI (CTok.nil _) Tryz.func113 (λ _=>[]) ?_
 rintro ⟨neg,m⟩ hpre
 have hpre:True:=hpre
 refine AH (q:=let Z2:=decide ((zOf neg m)<0);let Z1:=(L m)=L (zOf neg m).natAbs;ifB (neg) ((vB (decide ((nI ((L m).length))>(0:Int)))=vB Z2)/\Z1) ((vB false=vB Z2)/\Z1)) (by kernel_rfl) ?_
 conv=>zeta
 delta ifB vB nI
 refine ⟨λ c1=>?_,λ c1=>?_⟩
 ·try simp only [nrm] at c1
  refine ⟨?_,?_⟩
  ·rw [MU,c1];rfl
  rw [C5]
 try simp only [nrm] at c1
 refine ⟨?_,?_⟩
 ·rw [MU,c1];rfl
 rw [C5]
def Gm:Con:={ ι:=Int,pre:=λ i=>True,args:=λ i=>[dB i],mono:=true,res:=λ i=>⟨false,[some 2],[rcB (decide ((-i)<0)),.view 3 [.int] (L (-i).natAbs)]⟩ }
theorem Wt:Gm.Ok Tryz.prog 202:=by
 refine fok (X:=⟨tt,[(113,As)],[],9,[]⟩) mixed AI (CTok.cons Gl (CTok.nil _)) Tryz.func202 (λ _=>[]) ?_
 intro (z:Int) hpre
 have hpre:True:=hpre
 refine AH (q:=∃ i1:Bool×Nat,[DA.one (cB (!(decide (z<0)))),DA.one (cS (L z.natAbs))]=As.args i1/\As.pre i1/\((vB (decide ((zOf i1.1 i1.2)<0))=vB (decide ((-z)<0)))/\(L (zOf i1.1 i1.2).natAbs=L (-z).natAbs))) (by kernel_rfl) ?_
 delta vB
 refine ⟨((!(decide (z<0))),z.natAbs),by
  rfl,by
  trivial,?_⟩
 refine ⟨?_,?_⟩
 ·rw [Vc]
 rw [Vc]
def Gn:Con:={ ι:=Int×Int,pre:=λ i=>nl i.1.natAbs<=1000/\nl i.2.natAbs<=1000,args:=λ i=>[dB i.1,dB i.2],mono:=true,res:=λ i=>⟨false,[some 2],[rcB (decide ((i.1+i.2)<0)),.view 3 [.int] (L (i.1+i.2).natAbs)]⟩ }
theorem Wu:Gn.Ok Tryz.prog 116:=by
 refine fok (X:=⟨tt,[(115,DV),(113,As),(148,Am),(153,CF)],[],42,[]⟩) mixed AI (CTok.cons PL (CTok.cons Gl (CTok.cons IW (CTok.cons PM (CTok.nil _))))) Tryz.func116 (λ _=>[]) ?_
 rintro ⟨x,y⟩ hpre
 have hpre:nl x.natAbs<=1000/\nl y.natAbs<=1000:=hpre
 refine AH (q:=let Z4:=decide (x<0);let Z3:=decide ((x+y)<0);let Z2:=cS (L y.natAbs);let Z1:=cS (L x.natAbs);ifB ((Z4 == (decide (y<0)))) (∃ i1:Nat×Nat,[DA.one Z1,DA.one Z2]=DV.args i1/\DV.pre i1/\(∃ i2:Bool×Nat,[DA.one (cB Z4),DA.one (cS (L (i1.1+i1.2)))]=As.args i2/\As.pre i2/\((vB (decide ((zOf i2.1 i2.2)<0))=vB Z3)/\(L (zOf i2.1 i2.2).natAbs=L (x+y).natAbs)))) (∃ i3:Nat×Nat,[DA.one Z1,DA.one Z2]=Am.args i3/\Am.pre i3/\(ifB ((decide ((Ch i3.1 i3.2)≥(0:Int)))) (∃ i4:Nat×Nat,[DA.one Z1,DA.one Z2]=CF.args i4/\CF.pre i4/\(∃ i5:Bool×Nat,[DA.one (cB Z4),DA.one (cS (L (i4.1-i4.2)))]=As.args i5/\As.pre i5/\((vB (decide ((zOf i5.1 i5.2)<0))=vB Z3)/\(L (zOf i5.1 i5.2).natAbs=L (x+y).natAbs)))) (∃ i6:Nat×Nat,[DA.one Z2,DA.one Z1]=CF.args i6/\CF.pre i6/\(∃ i7:Bool×Nat,[DA.one (cB (decide (y<0))),DA.one (cS (L (i6.1-i6.2)))]=As.args i7/\As.pre i7/\((vB (decide ((zOf i7.1 i7.2)<0))=vB Z3)/\(L (zOf i7.1 i7.2).natAbs=L (x+y).natAbs))))))) (by kernel_rfl) ?_
 conv=>zeta
 delta ifB vB
 refine ⟨λ c1=>?_,λ c1=>?_⟩
 ·try simp only [nrm] at c1
  refine ⟨(x.natAbs,y.natAbs),by
   rfl,by
   show nl x.natAbs<=1048576/\nl y.natAbs<=1048576
   exact ⟨by omega,by omega⟩,?_⟩
  refine ⟨(decide (x<0),(x.natAbs+y.natAbs)),by
   rfl,by
   trivial,?_⟩
  refine ⟨?_,?_⟩
  ·rw [Nb c1]
  rw [Nb c1]
 try simp only [nrm] at c1
 refine ⟨(x.natAbs,y.natAbs),by
  rfl,by
  show nl x.natAbs<=1048576/\nl y.natAbs<=1048576
  exact ⟨by omega,by omega⟩,?_⟩
 refine ⟨λ c13=>?_,λ c13=>?_⟩
 ·try simp only [nrm] at c13
  refine ⟨(x.natAbs,y.natAbs),by
   rfl,by
   show nl x.natAbs<=1048576/\nl y.natAbs<=1048576/\y.natAbs<=x.natAbs
   exact ⟨by omega,by omega,FH.1 c13⟩,?_⟩
  refine ⟨(decide (x<0),(x.natAbs-y.natAbs)),by
   rfl,by
   trivial,?_⟩
  refine ⟨?_,?_⟩
  ·rw [Js c1 (FH.1 c13)]
  rw [Js c1 (FH.1 c13)]
 try simp only [nrm] at c13
 refine ⟨(y.natAbs,x.natAbs),by
  rfl,by
  show nl y.natAbs<=1048576/\nl x.natAbs<=1048576/\x.natAbs<=y.natAbs
  exact ⟨by omega,by omega,Nat.le_of_lt (Ds.1 c13)⟩,?_⟩
 refine ⟨(decide (y<0),(y.natAbs-x.natAbs)),by
  rfl,by
  trivial,?_⟩
 refine ⟨?_,?_⟩
 ·rw [Nc c1 (Nat.le_of_lt (Ds.1 c13))]
 rw [Nc c1 (Nat.le_of_lt (Ds.1 c13))]
def BR:Con:={ ι:=Int×Int,pre:=λ i=>nl i.1.natAbs<=1000/\nl i.2.natAbs<=1000,args:=λ i=>[dB i.1,dB i.2],mono:=true,res:=λ i=>⟨false,[some 2],[rcB (decide ((i.1*i.2)<0)),.view 3 [.int] (L (i.1*i.2).natAbs)]⟩ }
theorem K5:BR.Ok Tryz.prog 109:=by
 refine fok (X:=⟨tt,[(111,Ay),(113,As)],[],16,[]⟩) mixed AI (CTok.cons GI (CTok.cons Gl (CTok.nil _))) Tryz.func109 (λ _=>[]) ?_
 rintro ⟨x,y⟩ hpre
 have hpre:nl x.natAbs<=1000/\nl y.natAbs<=1000:=hpre
 refine AH (q:=∃ i1:Nat×Nat,[DA.one (cS (L x.natAbs)),DA.one (cS (L y.natAbs))]=Ay.args i1/\Ay.pre i1/\(∃ i2:Bool×Nat,[DA.one (cB ((decide (x<0)) != (decide (y<0)))),DA.one (cS (L (i1.1*i1.2)))]=As.args i2/\As.pre i2/\((vB (decide ((zOf i2.1 i2.2)<0))=vB (decide ((x*y)<0)))/\(L (zOf i2.1 i2.2).natAbs=L (x*y).natAbs)))) (by kernel_rfl) ?_
 delta vB
 refine ⟨(x.natAbs,y.natAbs),by
  rfl,by
  show nl x.natAbs<=524288/\nl y.natAbs<=524288
  exact ⟨by omega,by omega⟩,?_⟩
 refine ⟨(((decide (x<0)) != (decide (y<0))),(x.natAbs*y.natAbs)),by
  rfl,by
  trivial,?_⟩
 refine ⟨?_,?_⟩
 ·rw [QT]
 rw [QT]
def Gp:Con:={ ι:=Int×Int,pre:=λ i=>nl i.1.natAbs<=1000/\nl i.2.natAbs<=1000,args:=λ i=>[dB i.1,dB i.2],mono:=true,res:=λ i=>⟨false,[none],[rcI (DE i.1 i.2)]⟩ }
theorem Wv:Gp.Ok Tryz.prog 108:=by
 refine fok (X:=⟨tt,[(148,Am)],[],28,[]⟩) mixed AI (CTok.cons IW (CTok.nil _)) Tryz.func108 (λ _=>[]) ?_
 rintro ⟨x,y⟩ hpre
 have hpre:nl x.natAbs<=1000/\nl y.natAbs<=1000:=hpre
 refine AH (q:=let Z5:=decide (y<0);let Z4:=decide (x<0);let Z3:=cS (L x.natAbs);let Z2:=cS (L y.natAbs);let Z1:=DE x y;let Z7:=(vI (1:Int)=vI Z1);let Z6:=(vI (-1:Int)=vI Z1);ifB Z4 (ifB Z5 (∃ i1:Nat×Nat,[DA.one Z2,DA.one Z3]=Am.args i1/\Am.pre i1/\((vI (Ch i1.1 i1.2)=vI Z1))) (ifB Z4 Z6 (ifB Z5 Z7 (∃ i2:Nat×Nat,[DA.one Z3,DA.one Z2]=Am.args i2/\Am.pre i2/\((vI (Ch i2.1 i2.2)=vI Z1)))))) (ifB Z4 Z6 (ifB Z5 Z7 (∃ i3:Nat×Nat,[DA.one Z3,DA.one Z2]=Am.args i3/\Am.pre i3/\((vI (Ch i3.1 i3.2)=vI Z1)))))) (by kernel_rfl) ?_
 conv=>zeta
 delta ifB vI
 refine And.symm ⟨λ c1=>?_,λ c1=>?_⟩
 ·try simp only [nrm] at c1
  refine ⟨λ c15=>?_,λ c15=>?_⟩
  ·try simp only [nrm] at c15
   exfalso;omega
  try simp only [nrm] at c15
  refine ⟨λ c17=>?_,λ c17=>?_⟩
  ·try simp only [nrm] at c17
   rw [← AA8 (by omega) (by omega)]
  try simp only [nrm] at c17
  refine ⟨(x.natAbs,y.natAbs),by
   rfl,by
   show nl x.natAbs<=1048576/\nl y.natAbs<=1048576
   exact ⟨by omega,by omega⟩,?_⟩
  rw [AA6 (by omega) (by omega)]
 try simp only [nrm] at c1
 refine ⟨λ c2=>?_,λ c2=>?_⟩
 ·try simp only [nrm] at c2
  refine ⟨(y.natAbs,x.natAbs),by
   rfl,by
   show nl y.natAbs<=1048576/\nl x.natAbs<=1048576
   exact ⟨by omega,by omega⟩,?_⟩
  rw [AA5 (by omega) (by omega)]
 try simp only [nrm] at c2
 refine ⟨λ c7=>?_,λ c7=>?_⟩
 ·try simp only [nrm] at c7
  rw [← AA7 (by omega) (by omega)]
 try simp only [nrm] at c7
 refine ⟨λ c9=>?_,λ c9=>?_⟩
 ·try simp only [nrm] at c9
  exfalso;omega
 try simp only [nrm] at c9
 refine ⟨(x.natAbs,y.natAbs),by
  rfl,by
  exact ⟨by omega,by omega⟩,?_⟩
 exfalso;omega
def Cr:Con:={ ι:=Bool×Nat,pre:=λ i=>nl i.2<=60,args:=λ i=>[DA.agg [cB i.1,cS (L i.2)]],mono:=true,res:=λ i=>⟨false,[some 2],[rcB i.1,.own 3 [.int] (L i.2)]⟩ }
theorem Ww:Cr.Ok Tryz.prog 150:=by
 refine fok (X:=⟨tt,[(139,BC)],[],14,[]⟩) mixed AI (CTok.cons Jt (CTok.nil _)) Tryz.func150 (λ _=>[]) ?_
 rintro ⟨neg,m⟩ hpre
 have hpre:nl m<=60:=hpre
 refine AH (q:=ifB ((decide ((nI ((L m).length))>(60:Int)))) ((vB false=vB neg)/\(([]:List (List Dat))=L m)) (∃ i1:(List (List Dat)),[DA.one (cS (L m))]=BC.args i1/\BC.pre i1/\((vB neg=vB neg)/\(i1=L m)))) (by kernel_rfl) ?_
 delta ifB vB nI
 have hm:=AV m
 refine ⟨λ c1=>?_,λ c1=>?_⟩
 ·try simp only [nrm] at c1
  refine ⟨?_,?_⟩
  ·exfalso;omega
  exfalso;omega
 try simp only [nrm] at c1
 refine ⟨(L m),by
  rfl,by
  show (L m).length<=1073741824
  omega,?_⟩
 exact ⟨rfl,rfl⟩
def C6:Con:={ ι:=Int,pre:=λ i=>-9223372036854775808<=i/\i<=9223372036854775807,args:=λ i=>[.one (cI i)],mono:=true,res:=λ i=>⟨false,[some 2],[rcB (decide (i<0)),.own 3 [.int] (L i.natAbs)]⟩ }
theorem SD:C6.Ok Tryz.prog 62:=by
 refine fok (X:=⟨tt,[(114,Az),(115,DV)],[],18,[]⟩) mixed AI (CTok.cons NX (CTok.cons PL (CTok.nil _))) Tryz.func62 (λ _=>[]) ?_
 intro (n:Int) hpre
 have hpre:-9223372036854775808<=n/\n<=9223372036854775807:=hpre
 refine AH (q:=let Z1:=vB true=vB (decide (n<0));ifB ((decide (n≥(0:Int)))) (∃ i1:Nat,[DA.one (cI n)]=Az.args i1/\Az.pre i1/\((vB false=vB (decide (n<0)))/\(L i1=L n.natAbs))) (ifB ((n == (-9223372036854775808:Int))) (∃ i2:Nat,[DA.one (cI (9223372036854775807:Int))]=Az.args i2/\Az.pre i2/\(∃ i3:Nat,[DA.one (cI (1:Int))]=Az.args i3/\Az.pre i3/\(∃ i4:Nat×Nat,[DA.one (cS (L i2)),DA.one (cS (L i3))]=DV.args i4/\DV.pre i4/\(Z1/\(L (i4.1+i4.2)=L n.natAbs))))) (∃ i5:Nat,[DA.one (cI (wR (0-n)))]=Az.args i5/\Az.pre i5/\(Z1/\(L i5=L n.natAbs))))) (by kernel_rfl) ?_
 conv=>zeta
 delta ifB vB wR
 refine ⟨λ c1=>?_,λ c1=>?_⟩
 ·try simp only [nrm] at c1
  have en:n=((n.toNat:Nat):Int):=by omega
  have ea:n.natAbs=n.toNat:=by omega
  refine ⟨n.toNat,by
   show [DA.one (DC.im (Value.int .i64 n))]=[DA.one (DC.im (Value.int .i64 ((n.toNat:Nat):Int)))]
   rw [← en],by
   show n.toNat<=9223372036854775807
   omega,?_⟩
  refine ⟨?_,?_⟩
  ·rw [decide_eq_false (show ¬ n<0 by omega)];done
  rw [ea];done
 try simp only [nrm] at c1
 refine And.symm ⟨λ c7=>?_,λ c7=>?_⟩
 ·try simp only [nrm] at c7
  have en:IntKind.i64.wrap (0-n)=(((-n).toNat:Nat):Int):=by rw [AB (by omega) (by omega)];omega
  have ea:n.natAbs=(-n).toNat:=by omega
  refine ⟨(-n).toNat,by
   rw [en];rfl,by
   show ((-n).toNat)<=9223372036854775807
   omega,?_⟩
  refine ⟨?_,?_⟩
  ·rw [decide_eq_true (show n<0 by omega)];done
  rw [ea];done
 try simp only [nrm] at c7
 refine ⟨9223372036854775807,by
  rfl,by
  show 9223372036854775807<=9223372036854775807
  trivial,?_⟩
 refine ⟨1,by
  rfl,by
  show 1<=9223372036854775807
  trivial,?_⟩
 refine ⟨(9223372036854775807,1),by
  rfl,by
  exact ⟨Nat.le_trans ((Dp 3 _).2 (by decide)) (by decide),Nat.le_trans ((Dp 3 _).2 (by decide)) (by decide)⟩,?_⟩
 refine ⟨?_,?_⟩
 ·rw [decide_eq_true (show n<0 by omega)];done
 rw [show n.natAbs=9223372036854775807+1 by omega];done
def AT:Con:={ ι:=Fr,pre:=λ i=>True,args:=λ i=>[dF i],mono:=true,res:=λ i=>⟨false,[none],[rcB i.good]⟩ }
theorem EA:AT.Ok Tryz.prog 91:=by
 refine fok (X:=⟨tt,[],[],7,[]⟩) mixed AI (CTok.nil _) Tryz.func91 (λ _=>[]) ?_
 intro (r:Fr) hpre
 have hpre:True:=hpre
 refine AH (q:=(vB (decide ((nI ((L r.d).length))>(0:Int)))=vB r.good)) (by kernel_rfl) ?_
 delta vB nI
 rw [ACf]
def Bp:Con:={ ι:=Int×Nat,pre:=λ i=>i.2≠0/\nl i.1.natAbs<=1000/\nl i.2<=1000,args:=λ i=>[dB i.1,.one (cS (L i.2))],mono:=true,res:=λ i=>⟨false,[some 3],[rcB (decide ((Fr.mk' i.1 i.2).z<0)),.own 3 [.int] (L (Fr.mk' i.1 i.2).z.natAbs),.own 3 [.int] (L (Fr.mk' i.1 i.2).d)]⟩ }
theorem JG:Bp.Ok Tryz.prog 110:=by
 refine fok (X:=⟨tt,[(122,CR),(123,DW),(149,Cb),(150,Cr),(139,BC)],[],45,[]⟩) mixed AI (CTok.cons SC (CTok.cons PO (CTok.cons PN (CTok.cons Ww (CTok.cons Jt (CTok.nil _)))))) Tryz.func110 (λ _=>[]) ?_
 rintro ⟨z,d⟩ hpre
 have hpre:d≠0/\nl z.natAbs<=1000/\nl d<=1000:=hpre
 refine AH (q:=let Z8:=cS (L d);let Z7:=List (List Dat);let Z3:=(decide ((nI ((L d).length))>(24:Int)));let Z2:=(!(decide ((nI ((L z.natAbs).length))>(24:Int))));let Z1:=Fr.mk' z d;let Z6:=decide (Z1.z<0);let Z5:=(eqN Z1);∃ i1:Nat,[DA.one Z8]=CR.args i1/\CR.pre i1/\(ifB ((!(decide (i1=1)))) (∃ i2:Nat×Nat,let Z4:=cS (L (i2.1.gcd i2.2));[DA.one (cS (L z.natAbs)),DA.one Z8]=DW.args i2/\DW.pre i2/\(∃ i3:Nat,[DA.one Z4]=CR.args i3/\CR.pre i3/\(ifB ((!(decide (i3=1)))) (∃ i4:Nat×Nat,[DA.one (cS (L z.natAbs)),DA.one Z4]=Cb.args i4/\Cb.pre i4/\(∃ i5:Nat×Nat,[DA.one Z8,DA.one Z4]=Cb.args i5/\Cb.pre i5/\(ifB ((!(decide ((nI ((L (i4.1/i4.2)).length))>(24:Int))))) (ifB ((decide ((nI ((L (i5.1/i5.2)).length))>(24:Int)))) Z5 (∃ i6:Bool×Nat,[DA.agg [cB (decide (z<0)),cS (L (i4.1/i4.2))]]=Cr.args i6/\Cr.pre i6/\(∃ i7:Z7,[DA.one (cS (L (i5.1/i5.2)))]=BC.args i7/\BC.pre i7/\((vB i6.1=vB Z6)/\(L i6.2=L Z1.z.natAbs)/\(i7=L Z1.d))))) Z5))) (ifB Z2 (ifB Z3 Z5 (∃ i8:Bool×Nat,[dB z]=Cr.args i8/\Cr.pre i8/\(∃ i9:Z7,[DA.one Z8]=BC.args i9/\BC.pre i9/\((vB i8.1=vB Z6)/\(L i8.2=L Z1.z.natAbs)/\(i9=L Z1.d))))) Z5)))) (ifB Z2 (ifB Z3 Z5 (∃ i10:Bool×Nat,[dB z]=Cr.args i10/\Cr.pre i10/\(∃ i11:Z7,[DA.one Z8]=BC.args i11/\BC.pre i11/\((vB i10.1=vB Z6)/\(L i10.2=L Z1.z.natAbs)/\(i11=L Z1.d))))) Z5))) (by kernel_rfl) ?_
 conv=>zeta
 delta ifB vB nI
 have hg:=Ve (a:=z.natAbs) hpre.1
 refine ⟨d,by
  rfl,by
  trivial,?_⟩
 refine And.symm ⟨λ c4=>?_,λ c4=>?_⟩
 ·try simp only [nrm] at c4
  have e1:z.natAbs.gcd d=1:=by rw [c4];exact Nat.gcd_one_right _
  have ez:z.natAbs/z.natAbs.gcd d=z.natAbs:=by rw [e1,Nat.div_one]
  have ed:d/z.natAbs.gcd d=d:=by rw [e1,Nat.div_one]
  have lz:=AV (z.natAbs/z.natAbs.gcd d)
  have ld:=AV (d/z.natAbs.gcd d)
  rw [ez] at lz
  rw [ed] at ld
  refine And.symm ⟨λ c52=>?_,λ c52=>?_⟩
  ·try simp only [nrm] at c52
   refine Bd ?_
   rw [FJ hpre.1 (by rw [ez,ed];omega)];done
  try simp only [nrm] at c52
  refine ⟨λ c53=>?_,λ c53=>?_⟩
  ·try simp only [nrm] at c53
   refine Bd ?_
   rw [FJ hpre.1 (by rw [ez,ed];omega)];done
  try simp only [nrm] at c53
  refine ⟨(decide (z<0),z.natAbs),by
   rfl,by
   show nl z.natAbs<=60
   omega,?_⟩
  refine ⟨(L d),by
   rfl,by
   show (L d).length<=1073741824
   omega,?_⟩
  refine ⟨?_,?_,?_⟩
  ·rw [(EL hpre.1 (by rw [ez];omega) (by rw [ed];omega)).1];done
  ·rw [(EL hpre.1 (by rw [ez];omega) (by rw [ed];omega)).2.1,ez];done
  rw [(EL hpre.1 (by rw [ez];omega) (by rw [ed];omega)).2.2,ed];done
 try simp only [nrm] at c4
 refine ⟨(z.natAbs,d),by
  rfl,by
  show nl z.natAbs<=131072/\nl d<=131072
  exact ⟨by omega,by omega⟩,?_⟩
 refine ⟨(z.natAbs.gcd d),by
  rfl,by
  trivial,?_⟩
 refine And.symm ⟨λ c11=>?_,λ c11=>?_⟩
 ·try simp only [nrm] at c11
  have e1:z.natAbs.gcd d=1:=c11
  have ez:z.natAbs/z.natAbs.gcd d=z.natAbs:=by rw [e1,Nat.div_one]
  have ed:d/z.natAbs.gcd d=d:=by rw [e1,Nat.div_one]
  have lz:=AV (z.natAbs/z.natAbs.gcd d)
  have ld:=AV (d/z.natAbs.gcd d)
  rw [ez] at lz
  rw [ed] at ld
  refine And.symm ⟨λ c35=>?_,λ c35=>?_⟩
  ·try simp only [nrm] at c35
   refine Bd ?_
   rw [FJ hpre.1 (by rw [ez,ed];omega)];done
  try simp only [nrm] at c35
  refine ⟨λ c36=>?_,λ c36=>?_⟩
  ·try simp only [nrm] at c36
   refine Bd ?_
   rw [FJ hpre.1 (by rw [ez,ed];omega)];done
  try simp only [nrm] at c36
  refine ⟨(decide (z<0),z.natAbs),by
   rfl,by
   show nl z.natAbs<=60
   omega,?_⟩
  refine ⟨(L d),by
   rfl,by
   show (L d).length<=1073741824
   omega,?_⟩
  refine ⟨?_,?_,?_⟩
  ·rw [(EL hpre.1 (by rw [ez];omega) (by rw [ed];omega)).1];done
  ·rw [(EL hpre.1 (by rw [ez];omega) (by rw [ed];omega)).2.1,ez];done
  rw [(EL hpre.1 (by rw [ez];omega) (by rw [ed];omega)).2.2,ed];done
 try simp only [nrm] at c11
 have ez:z.natAbs/z.natAbs.gcd d=z.natAbs/z.natAbs.gcd d:=rfl
 have ed:d/z.natAbs.gcd d=d/z.natAbs.gcd d:=rfl
 have lz:=AV (z.natAbs/z.natAbs.gcd d)
 have ld:=AV (d/z.natAbs.gcd d)
 rw [ez] at lz
 rw [ed] at ld
 refine ⟨(z.natAbs,(z.natAbs.gcd d)),by
  rfl,by
  show (z.natAbs.gcd d)≠0/\nl z.natAbs<=131072/\nl (z.natAbs.gcd d)<=131072
  exact ⟨by omega,by omega⟩,?_⟩
 refine ⟨(d,(z.natAbs.gcd d)),by
  rfl,by
  show (z.natAbs.gcd d)≠0/\nl d<=131072/\nl (z.natAbs.gcd d)<=131072
  exact ⟨by omega,by omega⟩,?_⟩
 refine And.symm ⟨λ c18=>?_,λ c18=>?_⟩
 ·try simp only [nrm] at c18
  refine Bd ?_
  rw [FJ hpre.1 (by rw [ez,ed];omega)];done
 try simp only [nrm] at c18
 refine ⟨λ c19=>?_,λ c19=>?_⟩
 ·try simp only [nrm] at c19
  refine Bd ?_
  rw [FJ hpre.1 (by rw [ez,ed];omega)];done
 try simp only [nrm] at c19
 refine ⟨(decide (z<0),(z.natAbs/(z.natAbs.gcd d))),by
  rfl,by
  show nl (z.natAbs/(z.natAbs.gcd d))<=60
  omega,?_⟩
 refine ⟨L (d/(z.natAbs.gcd d)),by
  rfl,by
  show (L (d/(z.natAbs.gcd d))).length<=1073741824
  omega,?_⟩
 refine ⟨?_,?_,?_⟩
 ·rw [(EL hpre.1 (by rw [ez];omega) (by rw [ed];omega)).1];done
 ·rw [(EL hpre.1 (by rw [ez];omega) (by rw [ed];omega)).2.1,ez];done
 rw [(EL hpre.1 (by rw [ez];omega) (by rw [ed];omega)).2.2,ed];done
def BI:Con:={ ι:=Int,pre:=λ i=>-9223372036854775808<=i/\i<=9223372036854775807,args:=λ i=>[.one (cI i)],mono:=true,res:=λ i=>⟨false,[some 3],[rcB (decide ((Fr.ofInt i).z<0)),.own 3 [.int] (L (Fr.ofInt i).z.natAbs),.own 3 [.int] (L (Fr.ofInt i).d)]⟩ }
theorem PP:BI.Ok Tryz.prog 46:=by
 refine fok (X:=⟨tt,[(62,C6)],[],7,[]⟩) mixed AI (CTok.cons SD (CTok.nil _)) Tryz.func46 (λ _=>[]) ?_
 intro (n:Int) hpre
 have hpre:-9223372036854775808<=n/\n<=9223372036854775807:=hpre
 refine AH (q:=∃ i1:Int,[DA.one (cI n)]=C6.args i1/\C6.pre i1/\((vB (decide (i1<0))=vB (decide ((Fr.ofInt n).z<0)))/\(L i1.natAbs=L (Fr.ofInt n).z.natAbs)/\(([[Dat.int (1:Int)]]:List (List Dat))=L (Fr.ofInt n).d))) (by kernel_rfl) ?_
 delta vB
 refine ⟨n,by
  rfl,by
  exact hpre,?_⟩
 refine ⟨?_,?_,?_⟩
 ·rw [(GJ (CQ hpre)).1];done
 ·rw [(GJ (CQ hpre)).1];done
 rw [(GJ (CQ hpre)).2];exact Y0 (by decide) (by decide)
def Cc:Con:={ ι:=Fr×Fr,pre:=λ i=>True,args:=λ i=>[dF i.1,dF i.2],mono:=true,res:=λ i=>⟨false,[some 3],[rcB (decide ((Fr.add i.1 i.2).z<0)),.own 3 [.int] (L (Fr.add i.1 i.2).z.natAbs),.own 3 [.int] (L (Fr.add i.1 i.2).d)]⟩ }
theorem PQ:Cc.Ok Tryz.prog 63:=by
 refine fok (X:=⟨tt,[(91,AT),(109,BR),(116,Gn),(111,Ay),(110,Bp)],[],35,[]⟩) mixed AI (CTok.cons EA (CTok.cons K5 (CTok.cons Wu (CTok.cons GI (CTok.cons JG (CTok.nil _)))))) Tryz.func63 (λ _=>[]) ?_
 rintro ⟨r,s⟩ hpre
 have hpre:True:=hpre
 refine AH (q:=∃ i1:Fr,[dF r]=AT.args i1/\AT.pre i1/\(ifB ((!(!i1.good))) (∃ i2:Fr,[dF s]=AT.args i2/\AT.pre i2/\(ifB ((!i2.good)) ((eqN (Fr.add r s))) (∃ i3:Int×Int,[dB r.z,DA.agg [cB false,cS (L s.d)]]=BR.args i3/\BR.pre i3/\(∃ i4:Int×Int,[dB s.z,DA.agg [cB false,cS (L r.d)]]=BR.args i4/\BR.pre i4/\(∃ i5:Int×Int,[dB (i3.1*i3.2),dB (i4.1*i4.2)]=Gn.args i5/\Gn.pre i5/\(∃ i6:Nat×Nat,[DA.one (cS (L r.d)),DA.one (cS (L s.d))]=Ay.args i6/\Ay.pre i6/\(∃ i7:Int×Nat,[dB (i5.1+i5.2),DA.one (cS (L (i6.1*i6.2)))]=Bp.args i7/\Bp.pre i7/\((eqC (Fr.mk' i7.1 i7.2) (Fr.add r s)))))))))) ((eqN (Fr.add r s))))) (by kernel_rfl) ?_
 delta ifB
 have h1:=r.nlz
 have h2:=r.nld
 have h3:=s.nlz
 have h4:=s.nld
 refine ⟨r,by
  rfl,by
  trivial,?_⟩
 refine And.symm ⟨λ c4=>?_,λ c4=>?_⟩
 ·try simp only [nrm] at c4
  have hE:Fr.add r s=Fr.none:=Fr.bin_bad _ (.inl (GK c4))
  refine Bd ?_
  rw [hE];done
 try simp only [nrm] at c4
 refine ⟨s,by
  rfl,by
  trivial,?_⟩
 refine ⟨λ c8=>?_,λ c8=>?_⟩
 ·try simp only [nrm] at c8
  have hE:Fr.add r s=Fr.none:=Fr.bin_bad _ (.inr (GK c8))
  refine Bd ?_
  rw [hE];done
 try simp only [nrm] at c8
 have hE:=Fr.add_zd (CP c4) (CP c8)
 have m1:=DX r.z ((s.d:Nat):Int)
 have m2:=DX s.z ((r.d:Nat):Int)
 rw [Gj] at m1 m2
 have m3:=JF (r.z*((s.d:Nat):Int)) (s.z*((r.d:Nat):Int))
 have m4:=Br r.d s.d
 have m5:r.d*s.d≠0:=Nat.mul_ne_zero (CP c4) (CP c8)
 refine ⟨(r.z,((s.d:Nat):Int)),by
  rfl,by
  show nl r.z.natAbs<=1000/\nl ((s.d:Nat):Int).natAbs<=1000
  exact ⟨by omega,by rw [Gj];omega⟩,?_⟩
 refine ⟨(s.z,((r.d:Nat):Int)),by
  rfl,by
  show nl s.z.natAbs<=1000/\nl ((r.d:Nat):Int).natAbs<=1000
  exact ⟨by omega,by rw [Gj];omega⟩,?_⟩
 refine ⟨((r.z*((s.d:Nat):Int)),(s.z*((r.d:Nat):Int))),by
  rfl,by
  show nl (r.z*((s.d:Nat):Int)).natAbs<=1000/\nl (s.z*((r.d:Nat):Int)).natAbs<=1000
  exact ⟨by omega,by omega⟩,?_⟩
 refine ⟨(r.d,s.d),by
  rfl,by
  show nl r.d<=524288/\nl s.d<=524288
  exact ⟨by omega,by omega⟩,?_⟩
 refine ⟨(((r.z*((s.d:Nat):Int))+(s.z*((r.d:Nat):Int))),(r.d*s.d)),by
  rfl,by
  show (r.d*s.d)≠0/\nl ((r.z*((s.d:Nat):Int))+(s.z*((r.d:Nat):Int))).natAbs<=1000/\nl (r.d*s.d)<=1000
  exact ⟨by omega,by omega⟩,?_⟩
 refine CG ?_
 rw [hE];done
def Cd:Con:={ ι:=Fr×Fr,pre:=λ i=>True,args:=λ i=>[dF i.1,dF i.2],mono:=true,res:=λ i=>⟨false,[some 3],[rcB (decide ((Fr.mul i.1 i.2).z<0)),.own 3 [.int] (L (Fr.mul i.1 i.2).z.natAbs),.own 3 [.int] (L (Fr.mul i.1 i.2).d)]⟩ }
theorem PR:Cd.Ok Tryz.prog 60:=by
 refine fok (X:=⟨tt,[(91,AT),(109,BR),(111,Ay),(110,Bp)],[],25,[]⟩) mixed AI (CTok.cons EA (CTok.cons K5 (CTok.cons GI (CTok.cons JG (CTok.nil _))))) Tryz.func60 (λ _=>[]) ?_
 rintro ⟨r,s⟩ hpre
 have hpre:True:=hpre
 refine AH (q:=∃ i1:Fr,[dF r]=AT.args i1/\AT.pre i1/\(ifB ((!(!i1.good))) (∃ i2:Fr,[dF s]=AT.args i2/\AT.pre i2/\(ifB ((!i2.good)) ((eqN (Fr.mul r s))) (∃ i3:Int×Int,[dB r.z,dB s.z]=BR.args i3/\BR.pre i3/\(∃ i4:Nat×Nat,[DA.one (cS (L r.d)),DA.one (cS (L s.d))]=Ay.args i4/\Ay.pre i4/\(∃ i5:Int×Nat,[dB (i3.1*i3.2),DA.one (cS (L (i4.1*i4.2)))]=Bp.args i5/\Bp.pre i5/\((eqC (Fr.mk' i5.1 i5.2) (Fr.mul r s)))))))) ((eqN (Fr.mul r s))))) (by kernel_rfl) ?_
 delta ifB
 have h1:=r.nlz
 have h2:=r.nld
 have h3:=s.nlz
 have h4:=s.nld
 refine ⟨r,by
  rfl,by
  trivial,?_⟩
 refine And.symm ⟨λ c4=>?_,λ c4=>?_⟩
 ·try simp only [nrm] at c4
  have hE:Fr.mul r s=Fr.none:=Fr.bin_bad _ (.inl (GK c4))
  refine Bd ?_
  rw [hE];done
 try simp only [nrm] at c4
 refine ⟨s,by
  rfl,by
  trivial,?_⟩
 refine ⟨λ c8=>?_,λ c8=>?_⟩
 ·try simp only [nrm] at c8
  have hE:Fr.mul r s=Fr.none:=Fr.bin_bad _ (.inr (GK c8))
  refine Bd ?_
  rw [hE];done
 try simp only [nrm] at c8
 have hE:=Fr.mul_zd (CP c4) (CP c8)
 have m1:=DX r.z s.z
 have m4:=Br r.d s.d
 have m5:r.d*s.d≠0:=Nat.mul_ne_zero (CP c4) (CP c8)
 refine ⟨(r.z,s.z),by
  rfl,by
  show nl r.z.natAbs<=1000/\nl s.z.natAbs<=1000
  exact ⟨by omega,by omega⟩,?_⟩
 refine ⟨(r.d,s.d),by
  rfl,by
  show nl r.d<=524288/\nl s.d<=524288
  exact ⟨by omega,by omega⟩,?_⟩
 refine ⟨((r.z*s.z),(r.d*s.d)),by
  rfl,by
  show (r.d*s.d)≠0/\nl (r.z*s.z).natAbs<=1000/\nl (r.d*s.d)<=1000
  exact ⟨by omega,by omega⟩,?_⟩
 refine CG ?_
 rw [hE];done
def Gq:Con:={ ι:=Fr,pre:=λ i=>True,args:=λ i=>[dF i],mono:=true,res:=λ i=>⟨false,[some 3],[rcB (decide (i.opp.z<0)),.view 3 [.int] (L i.opp.z.natAbs),.view 3 [.int] (L i.opp.d)]⟩ }
theorem Wx:Gq.Ok Tryz.prog 174:=by
 refine fok (X:=⟨tt,[(202,Gm)],[],9,[]⟩) mixed AI (CTok.cons Wt (CTok.nil _)) Tryz.func174 (λ _=>[]) ?_
 intro (r:Fr) hpre
 have hpre:True:=hpre
 refine AH (q:=∃ i1:Int,[dB r.z]=Gm.args i1/\Gm.pre i1/\((vB (decide ((-i1)<0))=vB (decide (r.opp.z<0)))/\(L (-i1).natAbs=L r.opp.z.natAbs)/\((L r.d)=L r.opp.d))) (by kernel_rfl) ?_
 delta vB
 refine ⟨r.z,by
  rfl,by
  trivial,?_⟩
 refine ⟨?_,?_,?_⟩
 ·rw [Fr.opp_z];done
 ·rw [Fr.opp_z];done
 rw [Fr.opp_d]
def Bi:Con:={ ι:=Fr×Fr,pre:=λ i=>True,args:=λ i=>[dF i.1,dF i.2],mono:=true,res:=λ i=>⟨false,[some 3],[rcB (decide ((Fr.sub i.1 i.2).z<0)),.own 3 [.int] (L (Fr.sub i.1 i.2).z.natAbs),.own 3 [.int] (L (Fr.sub i.1 i.2).d)]⟩ }
theorem Wy:Bi.Ok Tryz.prog 142:=by
 refine fok (X:=⟨tt,[(174,Gq),(63,Cc)],[],9,[]⟩) mixed AI (CTok.cons Wx (CTok.cons PQ (CTok.nil _))) Tryz.func142 (λ _=>[]) ?_
 rintro ⟨r,s⟩ hpre
 have hpre:True:=hpre
 refine AH (q:=∃ i1:Fr,[dF s]=Gq.args i1/\Gq.pre i1/\(∃ i2:Fr×Fr,[dF r,dF i1.opp]=Cc.args i2/\Cc.pre i2/\((eqC (Fr.add i2.1 i2.2) (Fr.sub r s))))) (by kernel_rfl) ?_
 refine ⟨s,by
  rfl,by
  trivial,?_⟩
 refine ⟨(r,s.opp),by
  rfl,by
  trivial,?_⟩
 refine CG ?_
 rw [Fr.sub_opp]
def An:Con:={ ι:=Fr×Fr,pre:=λ i=>True,args:=λ i=>[dF i.1,dF i.2],mono:=true,res:=λ i=>⟨false,[none],[rcI (Fr.cmp i.1 i.2)]⟩ }
theorem IY:An.Ok Tryz.prog 58:=by
 refine fok (X:=⟨tt,[(91,AT),(109,BR),(108,Gp)],[],26,[]⟩) mixed AI (CTok.cons EA (CTok.cons K5 (CTok.cons Wv (CTok.nil _)))) Tryz.func58 (λ _=>[]) ?_
 rintro ⟨r,s⟩ hpre
 have hpre:True:=hpre
 refine AH (q:=let Z1:=(vI (0:Int)=vI (Fr.cmp r s));∃ i1:Fr,[dF r]=AT.args i1/\AT.pre i1/\(ifB ((!(!i1.good))) (∃ i2:Fr,[dF s]=AT.args i2/\AT.pre i2/\(ifB ((!i2.good)) Z1 (∃ i3:Int×Int,[dB r.z,DA.agg [cB false,cS (L s.d)]]=BR.args i3/\BR.pre i3/\(∃ i4:Int×Int,[dB s.z,DA.agg [cB false,cS (L r.d)]]=BR.args i4/\BR.pre i4/\(∃ i5:Int×Int,[dB (i3.1*i3.2),dB (i4.1*i4.2)]=Gp.args i5/\Gp.pre i5/\((vI (DE i5.1 i5.2)=vI (Fr.cmp r s)))))))) Z1)) (by kernel_rfl) ?_
 conv=>zeta
 delta ifB vI
 have h1:=r.nlz
 have h2:=r.nld
 have h3:=s.nlz
 have h4:=s.nld
 refine ⟨r,by
  rfl,by
  trivial,?_⟩
 refine And.symm ⟨λ c4=>?_,λ c4=>?_⟩
 ·try simp only [nrm] at c4
  have hE:Fr.cmp r s=0:=Fr.cmp_bad (.inl (GK c4))
  rw [hE];done
 try simp only [nrm] at c4
 refine ⟨s,by
  rfl,by
  trivial,?_⟩
 refine ⟨λ c8=>?_,λ c8=>?_⟩
 ·try simp only [nrm] at c8
  have hE:Fr.cmp r s=0:=Fr.cmp_bad (.inr (GK c8))
  rw [hE];done
 try simp only [nrm] at c8
 have hE:=Fr.cmp_zd (CP c4) (CP c8)
 have m1:=DX r.z ((s.d:Nat):Int)
 have m2:=DX s.z ((r.d:Nat):Int)
 rw [Gj] at m1 m2
 
 refine ⟨(r.z,((s.d:Nat):Int)),by
  rfl,by
  show nl r.z.natAbs<=1000/\nl ((s.d:Nat):Int).natAbs<=1000
  exact ⟨by omega,by rw [Gj];omega⟩,?_⟩
 refine ⟨(s.z,((r.d:Nat):Int)),by
  rfl,by
  show nl s.z.natAbs<=1000/\nl ((r.d:Nat):Int).natAbs<=1000
  exact ⟨by omega,by rw [Gj];omega⟩,?_⟩
 refine ⟨((r.z*((s.d:Nat):Int)),(s.z*((r.d:Nat):Int))),by
  rfl,by
  show nl (r.z*((s.d:Nat):Int)).natAbs<=1000/\nl (s.z*((r.d:Nat):Int)).natAbs<=1000
  exact ⟨by omega,by omega⟩,?_⟩
 rw [hE];done
def Ff:Con:={ ι:=Fr,pre:=λ i=>True,args:=λ i=>[dF i],mono:=true,res:=λ i=>⟨false,[none],[rcI i.sgn]⟩ }
theorem UJ:Ff.Ok Tryz.prog 163:=by
 refine fok (X:=⟨tt,[(91,AT)],[],18,[]⟩) mixed AI (CTok.cons EA (CTok.nil _)) Tryz.func163 (λ _=>[]) ?_
 intro (r:Fr) hpre
 have hpre:True:=hpre
 refine AH (q:=let Z1:=(vI (0:Int)=vI r.sgn);∃ i1:Fr,[dF r]=AT.args i1/\AT.pre i1/\(ifB ((!(!i1.good))) (ifB (((nI ((L r.z.natAbs).length)) == (0:Int))) Z1 (ifB (decide (r.z<0)) ((vI (-1:Int)=vI r.sgn)) ((vI (1:Int)=vI r.sgn)))) Z1)) (by kernel_rfl) ?_
 conv=>zeta
 delta ifB vI nI
 refine ⟨r,by
  rfl,by
  trivial,?_⟩
 refine And.symm ⟨λ c4=>?_,λ c4=>?_⟩
 ·try simp only [nrm] at c4
  have hz:r.z=0:=by rw [Fr.bad_z (GK c4)];rfl
  rw [Fr.sgn_z,hz];rfl
 try simp only [nrm] at c4
 refine ⟨λ c5=>?_,λ c5=>?_⟩
 ·try simp only [nrm] at c5
  have hz:r.z=0:=AEB (by omega)
  rw [Fr.sgn_z,hz];rfl
 try simp only [nrm] at c5
 have hz:r.z≠0:=ADV (by omega)
 refine ⟨λ c7=>?_,λ c7=>?_⟩
 ·try simp only [nrm] at c7
  rw [Fr.sgn_z];unfold DE;rw [if_pos (by omega)];done
 try simp only [nrm] at c7
 rw [Fr.sgn_z];unfold DE;rw [if_neg (by omega),if_neg (by omega)];done
def Gr:Con:={ ι:=Fr×Fr,pre:=λ i=>True,args:=λ i=>[dF i.1,dF i.2],mono:=true,res:=λ i=>⟨false,[some 3],[rcB (decide ((Fr.min i.1 i.2).z<0)),.view 3 [.int] (L (Fr.min i.1 i.2).z.natAbs),.view 3 [.int] (L (Fr.min i.1 i.2).d)]⟩ }
theorem Wz:Gr.Ok Tryz.prog 212:=by
 refine fok (X:=⟨tt,[(91,AT),(58,An)],[],22,[]⟩) mixed AI (CTok.cons EA (CTok.cons IY (CTok.nil _))) Tryz.func212 (λ _=>[]) ?_
 rintro ⟨r,s⟩ hpre
 have hpre:True:=hpre
 refine AH (q:=let Z1:=Fr.min r s;∃ i1:Fr,[dF r]=AT.args i1/\AT.pre i1/\(ifB ((!(!i1.good))) (∃ i2:Fr,[dF s]=AT.args i2/\AT.pre i2/\(ifB ((!i2.good)) ((eqN Z1)) (∃ i3:Fr×Fr,[dF r,dF s]=An.args i3/\An.pre i3/\(ifB ((decide ((Fr.cmp i3.1 i3.2)<=(0:Int)))) ((eqC r Z1)) ((eqC s Z1)))))) ((eqN Z1)))) (by kernel_rfl) ?_
 conv=>zeta
 delta ifB
 refine ⟨r,by
  rfl,by
  trivial,?_⟩
 refine And.symm ⟨λ c4=>?_,λ c4=>?_⟩
 ·try simp only [nrm] at c4
  have hE:Fr.min r s=Fr.none:=Fr.bin_bad _ (.inl (GK c4))
  refine Bd ?_
  rw [hE];done
 try simp only [nrm] at c4
 refine ⟨s,by
  rfl,by
  trivial,?_⟩
 refine ⟨λ c8=>?_,λ c8=>?_⟩
 ·try simp only [nrm] at c8
  have hE:Fr.min r s=Fr.none:=Fr.bin_bad _ (.inr (GK c8))
  refine Bd ?_
  rw [hE];done
 try simp only [nrm] at c8
 refine ⟨(r,s),by
  rfl,by
  trivial,?_⟩
 refine ⟨λ c15=>?_,λ c15=>?_⟩
 ·try simp only [nrm] at c15
  have hE:Fr.min r s=r:=by rw [Fr.min_pick,if_neg (λ h=>h.elim (CP c4) (CP c8)),if_pos (by omega)]
  refine CG ?_
  rw [hE];done
 try simp only [nrm] at c15
 have hE:Fr.min r s=s:=by rw [Fr.min_pick,if_neg (λ h=>h.elim (CP c4) (CP c8)),if_neg (by omega)]
 refine CG ?_
 rw [hE];done
def Gs:Con:={ ι:=Fr×Fr,pre:=λ i=>True,args:=λ i=>[dF i.1,dF i.2],mono:=true,res:=λ i=>⟨false,[some 3],[rcB (decide ((Fr.max i.1 i.2).z<0)),.view 3 [.int] (L (Fr.max i.1 i.2).z.natAbs),.view 3 [.int] (L (Fr.max i.1 i.2).d)]⟩ }
theorem W0:Gs.Ok Tryz.prog 213:=by
 refine fok (X:=⟨tt,[(91,AT),(58,An)],[],22,[]⟩) mixed AI (CTok.cons EA (CTok.cons IY (CTok.nil _))) Tryz.func213 (λ _=>[]) ?_
 rintro ⟨r,s⟩ hpre
 have hpre:True:=hpre
 refine AH (q:=let Z1:=Fr.max r s;∃ i1:Fr,[dF r]=AT.args i1/\AT.pre i1/\(ifB ((!(!i1.good))) (∃ i2:Fr,[dF s]=AT.args i2/\AT.pre i2/\(ifB ((!i2.good)) ((eqN Z1)) (∃ i3:Fr×Fr,[dF r,dF s]=An.args i3/\An.pre i3/\(ifB ((decide ((Fr.cmp i3.1 i3.2)≥(0:Int)))) ((eqC r Z1)) ((eqC s Z1)))))) ((eqN Z1)))) (by kernel_rfl) ?_
 conv=>zeta
 delta ifB
 refine ⟨r,by
  rfl,by
  trivial,?_⟩
 refine And.symm ⟨λ c4=>?_,λ c4=>?_⟩
 ·try simp only [nrm] at c4
  have hE:Fr.max r s=Fr.none:=Fr.bin_bad _ (.inl (GK c4))
  refine Bd ?_
  rw [hE];done
 try simp only [nrm] at c4
 refine ⟨s,by
  rfl,by
  trivial,?_⟩
 refine ⟨λ c8=>?_,λ c8=>?_⟩
 ·try simp only [nrm] at c8
  have hE:Fr.max r s=Fr.none:=Fr.bin_bad _ (.inr (GK c8))
  refine Bd ?_
  rw [hE];done
 try simp only [nrm] at c8
 refine ⟨(r,s),by
  rfl,by
  trivial,?_⟩
 refine ⟨λ c15=>?_,λ c15=>?_⟩
 ·try simp only [nrm] at c15
  have hE:Fr.max r s=r:=by rw [Fr.max_pick,if_neg (λ h=>h.elim (CP c4) (CP c8)),if_pos (by omega)]
  refine CG ?_
  rw [hE];done
 try simp only [nrm] at c15
 have hE:Fr.max r s=s:=by rw [Fr.max_pick,if_neg (λ h=>h.elim (CP c4) (CP c8)),if_neg (by omega)]
 refine CG ?_
 rw [hE];done
def EB:Con:={ ι:=(List (List Dat)),pre:=λ i=>i.length<=9223372036854775807,args:=λ i=>[.one (cS i)],mono:=true,res:=λ i=>⟨false,[none],[rcB (BA i)]⟩ }
theorem SE:EB.Ok Tryz.prog 121:=by
 refine fok (X:=⟨tt,[(156,IU)],[],22,[]⟩) mixed AI (CTok.cons Yu (CTok.nil _)) Tryz.func121 (λ _=>[]) ?_
 intro (l:List (List Dat)) hpre
 have hpre:l.length<=9223372036854775807:=hpre
 refine AH (q:=let Z2:=(vB false=vB (BA l));let Z1:=wR ((nI l.length)-(1:Int));ifB ((!(decide ((nI l.length)>(60:Int))))) (∃ i1:(List (List Dat)),[DA.one (cS l),DA.one (DC.ro (.fn 157 []))]=IU.args i1/\IU.pre i1/\(ifB ((i1.any (λ r=>!(inB (rn r))))) Z2 (ifB ((!((nI l.length) == (0:Int)))) ((0<=Z1/\Z1<(l.length:Int))/\((Z1.toNat<l.length)/\((vB ((((l.getD (Z1.toNat) []).getD 0 (.int 0))).n != (0:Int))=vB (BA l))))) ((vB true=vB (BA l)))))) Z2) (by kernel_rfl) ?_
 conv=>zeta
 delta ifB vB wR nI
 refine And.symm ⟨λ c1=>?_,λ c1=>?_⟩
 ·try simp only [nrm] at c1
  have hE:=Nd (l:=l) (by omega)
  rw [hE]
 try simp only [nrm] at c1
 refine ⟨l,by
  rfl,by
  trivial,?_⟩
 refine ⟨λ c5=>?_,λ c5=>?_⟩
 ·try simp only [nrm] at c5
  have hE:=Ne c5
  rw [hE]
 try simp only [nrm] at c5
 refine And.symm ⟨λ c7=>?_,λ c7=>?_⟩
 ·try simp only [nrm] at c7
  have hE:=Nf (l:=l) (by omega)
  rw [hE]
 try simp only [nrm] at c7
 have hE:=Lv (l:=l) (by omega) c5 (by omega)
 have hw:(IntKind.i64.wrap (((l.length:Nat):Int)-(1:Int)))=((l.length-1:Nat):Int):=by rw [AB (by omega) (by omega)];omega
 refine ao (by rw [hw];omega) λ o8=>?_
 refine ao (by rw [hw];omega) λ o9=>?_
 rw [hw,Int.toNat_natCast,hE];rfl
def Bl:Con:={ ι:=Bool×(List (List Dat)),pre:=λ i=>i.2.length<=9223372036854775807,args:=λ i=>[DA.agg [cB i.1,cS i.2]],mono:=true,res:=λ i=>⟨false,[none],[rcB (BX i.1 i.2)]⟩ }
theorem Lw:Bl.Ok Tryz.prog 120:=by
 refine fok (X:=⟨tt,[(121,EB)],[],17,[]⟩) mixed AI (CTok.cons SE (CTok.nil _)) Tryz.func120 (λ _=>[]) ?_
 rintro ⟨neg,m⟩ hpre
 have hpre:m.length<=9223372036854775807:=hpre
 refine AH (q:=let Z1:=BX neg m;∃ i1:(List (List Dat)),[DA.one (cS m)]=EB.args i1/\EB.pre i1/\(ifB ((BA i1)) (ifB (neg) ((vB (!((nI m.length) == (0:Int)))=vB Z1)) ((vB (!false)=vB Z1))) ((vB false=vB Z1)))) (by kernel_rfl) ?_
 conv=>zeta
 delta ifB vB nI
 refine ⟨m,by
  rfl,by
  trivial,?_⟩
 refine And.symm ⟨λ c4=>?_,λ c4=>?_⟩
 ·try simp only [nrm] at c4
  unfold BX;rw [c4];rfl
 try simp only [nrm] at c4
 refine ⟨λ c5=>?_,λ c5=>?_⟩
 ·try simp only [nrm] at c5
  rw [c5,Ng c4];done
 try simp only [nrm] at c5
 unfold BX;rw [c4,c5];rfl
def Ez:Con:={ ι:=Bool×(List (List Dat))×(List (List Dat)),pre:=λ i=>Dat.has (.sl 3 [.int]) (.sl i.2.1)/\Dat.has (.sl 3 [.int]) (.sl i.2.2)/\i.2.1.length<=9223372036854775807/\i.2.2.length<=9223372036854775807,args:=λ i=>[DA.agg [cB i.1,cS i.2.1,cS i.2.2]],mono:=true,res:=λ i=>⟨false,[none],[rcB (Bh i.1 i.2.1 i.2.2)]⟩ }
theorem Y5:Ez.Ok Tryz.prog 68:=by
 refine fok (X:=⟨tt,[(120,Bl),(121,EB),(122,CR),(123,DW)],[],44,[]⟩) mixed AI (CTok.cons Lw (CTok.cons SE (CTok.cons SC (CTok.cons PO (CTok.nil _))))) Tryz.func68 (λ _=>[]) ?_
 rintro ⟨neg,m,d⟩ hpre
 have hpre:Dat.has (.sl 3 [.int]) (.sl m)/\Dat.has (.sl 3 [.int]) (.sl d)/\m.length<=9223372036854775807/\d.length<=9223372036854775807:=hpre
 refine AH (q:=let Z2:=Bh neg m d;let Z1:=(vB false=vB Z2);∃ i1:Bool×(List (List Dat)),[DA.agg [cB neg,cS m]]=Bl.args i1/\Bl.pre i1/\(ifB ((!(!(BX i1.1 i1.2)))) (∃ i2:(List (List Dat)),[DA.one (cS d)]=EB.args i2/\EB.pre i2/\(ifB ((!(!(BA i2)))) (ifB ((!((nI d.length) == (0:Int)))) (ifB ((!(decide ((nI m.length)>(24:Int))))) (ifB ((decide ((nI d.length)>(24:Int)))) Z1 (∃ i3:Nat,[DA.one (cS d)]=CR.args i3/\CR.pre i3/\(ifB ((!(decide (i3=1)))) (∃ i4:Nat×Nat,[DA.one (cS m),DA.one (cS d)]=DW.args i4/\DW.pre i4/\(∃ i5:Nat,[DA.one (cS (L (i4.1.gcd i4.2)))]=CR.args i5/\CR.pre i5/\((vB (decide (i5=1))=vB Z2)))) ((vB true=vB Z2))))) Z1) Z1) Z1)) Z1)) (by kernel_rfl) ?_
 conv=>zeta
 delta ifB vB nI
 refine ⟨(neg,m),by
  rfl,by
  show m.length<=9223372036854775807
  omega,?_⟩
 refine And.symm ⟨λ c4=>?_,λ c4=>?_⟩
 ·try simp only [nrm] at c4
  have hE:Bh neg m d=false:=Cl (.inl c4)
  rw [hE]
 try simp only [nrm] at c4
 refine ⟨d,by
  rfl,by
  show d.length<=9223372036854775807
  omega,?_⟩
 refine And.symm ⟨λ c8=>?_,λ c8=>?_⟩
 ·try simp only [nrm] at c8
  have hE:Bh neg m d=false:=Cl (.inr (.inl c8))
  rw [hE]
 try simp only [nrm] at c8
 refine And.symm ⟨λ c9=>?_,λ c9=>?_⟩
 ·try simp only [nrm] at c9
  have hE:Bh neg m d=false:=Cl (.inr (.inr (.inl (by omega))))
  rw [hE]
 try simp only [nrm] at c9
 refine And.symm ⟨λ c10=>?_,λ c10=>?_⟩
 ·try simp only [nrm] at c10
  have hE:Bh neg m d=false:=Cl (.inr (.inr (.inr (.inl (by omega)))))
  rw [hE]
 try simp only [nrm] at c10
 refine ⟨λ c11=>?_,λ c11=>?_⟩
 ·try simp only [nrm] at c11
  have hE:Bh neg m d=false:=Cl (.inr (.inr (.inr (.inr (by omega)))))
  rw [hE]
 try simp only [nrm] at c11
 obtain ⟨a,ea,na⟩:=D6 hpre.1 (Nh c4)
 obtain ⟨b,eb,nb⟩:=D6 hpre.2.1 c8
 have hE:=Ni c4 c8 (by omega) (by omega) (by omega)
 refine ⟨b,by
  rw [eb];rfl,by
  trivial,?_⟩
 refine And.symm ⟨λ c16=>?_,λ c16=>?_⟩
 ·try simp only [nrm] at c16
  rw [hE,ea,eb,DF,DF]
  exact congrArg Value.bool (decide_eq_true (by rw [c16];exact Nat.gcd_one_right a)).symm
 try simp only [nrm] at c16
 refine ⟨(a,b),by
  rw [ea,eb];rfl,by
  show nl a<=131072/\nl b<=131072
  exact ⟨by omega,by omega⟩,?_⟩
 refine ⟨(a.gcd b),by
  rfl,by
  trivial,?_⟩
 rw [hE,ea,eb,DF,DF]
end Go.Proofs.YtkffpiaagjcmpaaGreat
