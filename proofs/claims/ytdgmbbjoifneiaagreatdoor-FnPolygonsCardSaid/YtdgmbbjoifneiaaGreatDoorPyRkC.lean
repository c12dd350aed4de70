import Derived.Test.YtdgmbbjoifneiaaGreatDoorPyRkM
import Derived.Test.YtdgmbbjoifneiaaGreatDoorPyNum3
namespace Go.Proofs.YtdgmbbjoifneiaaGreatDoor
set_option maxRecDepth 100000
set_option linter.unusedVariables false
set_option linter.unusedSimpArgs false
open Go.RowKit
theorem Wm (r:Fr):decide ((((L r.d).length:Nat):Int)>(0:Int))=r.good:=by
 rw [← Fr.d_good'];congr 1;apply propext;omega
theorem Wn:nl 1=1:=Tb (by decide) (by decide)
theorem C6 {z:Int} {d:Nat} (hd:d≠0) (h1:nl (z.natAbs/z.natAbs.gcd d)<=24) (h2:nl (d/z.natAbs.gcd d)<=24) :
  decide ((Fr.mk' z d).z<0)=decide (z<0)/\(Fr.mk' z d).z.natAbs=z.natAbs/z.natAbs.gcd d/\(Fr.mk' z d).d=d/z.natAbs.gcd d:=by
 have hv:(Fr.mk' z d).v=some (mkRat z d):=Bi (Cq.2 ⟨by rw [C5 hd];exact h1,by rw [(DH hd).2];exact h2⟩)
 exact ⟨by rw [Fr.z_some hv,Rf hd],by rw [Fr.z_some hv,C5 hd],by rw [Fr.d_some hv,(DH hd).2]⟩
theorem KA {n:Int} (h:nl n.natAbs<=24):(Fr.ofInt n).z=n/\(Fr.ofInt n).d=1:=by
 rw [Fr.z_some (QT h),Fr.d_some (QT h),Rat.num_intCast,Rat.den_intCast];exact ⟨rfl,rfl⟩
theorem Qb (neg:Bool) (m:Nat):decide (zOf neg m<0)=(neg && decide ((((L m).length:Nat):Int)>(0:Int))):=by
 rw [Tp];congr 2;apply propext;omega
theorem N4 {r:Fr} (h:r.good=false):r.d=0:=Classical.byContradiction λ h2=>by rw [Fr.d_good.2 h2] at h;cases h
theorem FY {r:Fr} (h:r.good=true):r.d≠0:=Fr.d_good.1 h
theorem Xz {z:Int} (h:(L z.natAbs).length=0):z=0:=by
 rw [Aq] at h
 have:=Db.1 h
 omega
theorem XS {z:Int} (h:(L z.natAbs).length≠0):z≠0:=by
 rintro rfl
 exact h (by rw [Aq];exact By)
theorem Qc (l:List (List Dat)):l.all (λ r=>inB (rn r))=!(l.any λ r=>!(inB (rn r))):=by rw [List.all_eq_not_any_not]
theorem PR {l:List (List Dat)} (h:60<l.length):A6 l=false:=by
 unfold A6;rw [decide_eq_false (show ¬ l.length<=60 by omega)];rfl
theorem PS {l:List (List Dat)} (h:(l.any λ r=>!(inB (rn r)))=true):A6 l=false:=by
 unfold A6;rw [Qc,h];simp
theorem PT {l:List (List Dat)} (h:l.length=0):A6 l=true:=by
 rw [List.eq_nil_of_length_eq_zero h];rfl
theorem N5 {l:List (List Dat)} (h1:l.length<=60) (h:(l.any λ r=>!(inB (rn r)))=false) (h0:l.length≠0):A6 l=(rn (l.getD (l.length-1) []) != 0):=by
 unfold A6
 rw [Qc,h,decide_eq_true h1,decide_eq_false h0]
 generalize rn (l.getD (l.length-1) [])=v
 by_cases hv:v=0 <;> simp [hv]
theorem PU {m:List (List Dat)} (h:A6 m=true):B7 true m=!(((m.length:Nat):Int) == (0:Int)):=by
 unfold B7;rw [h]
 by_cases hv:m.length=0
 ·rw [hv];rfl
 ·have:((((m.length:Nat):Int)) == (0:Int))=false:=by rw [beq_eq_false_iff_ne];omega
  rw [this];simp [hv]
theorem PV {neg:Bool} {m:List (List Dat)} (h:B7 neg m=true):A6 m=true:=by
 unfold B7 at h;rw [Bool.and_eq_true] at h;exact h.1
theorem EV {neg:Bool} {m d:List (List Dat)} (h:B7 neg m=false∨A6 d=false∨d.length=0∨24<m.length∨24<d.length):A7 neg m d=false:=by
 unfold A7
 rcases h with h|h|h|h|h
 ·rw [h];rfl
 ·rw [h];simp
 ·simp [h]
 ·rw [decide_eq_false (show ¬ m.length<=24 by omega)];simp
 ·rw [decide_eq_false (show ¬ d.length<=24 by omega)];simp
theorem PW {neg:Bool} {m d:List (List Dat)} (h1:B7 neg m=true) (h2:A6 d=true) (h3:d.length≠0) (h4:m.length<=24) (h5:d.length<=24):A7 neg m d=decide ((Io m).gcd (Io d)=1):=by
 unfold A7;rw [h1,h2,decide_eq_false h3,decide_eq_true h4,decide_eq_true h5];rfl
theorem PX {n:Int} (h:-9223372036854775808<=n/\n<=9223372036854775807):nl n.natAbs<=24:=(Dc _ _).2 (Nat.lt_of_le_of_lt (show n.natAbs<=9223372036854775808 by omega) (by decide))
theorem VX {a b:Nat} (h:b≠0):a.gcd b≠0/\nl (a.gcd b)<=nl b:=⟨λ e=>h (Nat.eq_zero_of_gcd_eq_zero_right e),Fz (Nat.gcd_le_right _ (Nat.pos_of_ne_zero h))⟩
def Ai:Con:={ ι:=(List (List Dat)),pre:=λ i=>i.length<=1073741824,args:=λ i=>[.one (cS i)],mono:=true,res:=λ i=>⟨false,[none],[.own 3 [.int] i]⟩ }
theorem HF:Ai.Ok Tryz.prog 114:=by
 refine fok (X:=⟨tt,[],[],8,[]⟩) mixed AP (CTok.nil _) Tryz.func114 (λ _=>[]) ?_
 intro (ls:List (List Dat)) hpre
 have hpre:ls.length<=1073741824:=hpre
 refine AO (q:=∀ b1:Bool,(b1=true->ls=[])->(ifB (b1) ((([]:List (List Dat))=ls)) ((([]:List (List Dat)).length+ls.length<=2199023255552)/\(((([]:List (List Dat))++ls)=ls))))) (by kernel_rfl) ?_
 delta ifB
 intro b1 q1
 refine ⟨λ c2=>?_,λ c2=>?_⟩
 ·try simp only [nrm] at c2
  rw [q1 c2]
 try simp only [nrm] at c2
 refine ao (by simp;omega) λ o4=>?_
 rfl
def BP:Con:={ ι:=Nat,pre:=λ i=>True,args:=λ i=>[.one (cS (L i))],mono:=true,res:=λ i=>⟨false,[none],[rcB (decide (i=1))]⟩ }
theorem N6:BP.Ok Tryz.prog 87:=by
 refine fok (X:=⟨tt,[],[],12,[]⟩) mixed AP (CTok.nil _) Tryz.func87 (λ _=>[]) ?_
 intro (a:Nat) hpre
 have hpre:True:=hpre
 refine AO (q:=ifB (((nI ((L a).length)) == (1:Int))) ((0<=(0:Int)/\(0:Int)<((L a).length:Int))/\((0<(L a).length)/\((vB (((((L a).getD 0 []).getD 0 (.int 0))).n == (1:Int))=vB (decide (a=1)))))) ((vB false=vB (decide (a=1))))) (by kernel_rfl) ?_
 delta ifB vB nI
 have ha:=Aq a
 refine And.symm ⟨λ c1=>?_,λ c1=>?_⟩
 ·try simp only [nrm] at c1
  exact congrArg Value.bool (decide_eq_false (λ e=>by subst e;rw [Wn] at ha;omega)).symm
 try simp only [nrm] at c1
 have h1:=J5 (b:=a) (by omega)
 refine ao (by omega) λ o2=>?_
 refine ao (by omega) λ o3=>?_
 rw [L_n,h1.1]
 exact congrArg Value.bool (by rw [Bool.eq_iff_iff,beq_iff_eq,decide_eq_true_iff];omega)
def Ah:Con:={ ι:=Bool×Nat,pre:=λ i=>True,args:=λ i=>[.one (cB i.1),.one (cS (L i.2))],mono:=true,res:=λ i=>⟨false,[some 2],[rcB (decide ((zOf i.1 i.2)<0)),.view 3 [.int] (L (zOf i.1 i.2).natAbs)]⟩ }
theorem Gb:Ah.Ok Tryz.prog 115:=by
 refine fok (X:=⟨tt,[],[],13,[]⟩) mixed AP (CTok.nil _) Tryz.func115 (λ _=>[]) ?_
 rintro ⟨neg,m⟩ hpre
 have hpre:True:=hpre
 refine AO (q:=let Z2:=decide ((zOf neg m)<0);let Z1:=(L m)=L (zOf neg m).natAbs;ifB (neg) ((vB (decide ((nI ((L m).length))>(0:Int)))=vB Z2)/\Z1) ((vB false=vB Z2)/\Z1)) (by kernel_rfl) ?_
 conv=>zeta
 delta ifB vB nI
 refine ⟨λ c1=>?_,λ c1=>?_⟩
 ·try simp only [nrm] at c1
  refine ⟨?_,?_⟩
  ·rw [Qb,c1];rfl
  rw [HE]
 try simp only [nrm] at c1
 refine ⟨?_,?_⟩
 ·rw [Qb,c1];rfl
 rw [HE]
def Et:Con:={ ι:=Int,pre:=λ i=>True,args:=λ i=>[dB i],mono:=true,res:=λ i=>⟨false,[some 2],[rcB (decide ((-i)<0)),.view 3 [.int] (L (-i).natAbs)]⟩ }
theorem Rn:Et.Ok Tryz.prog 118:=by
 refine fok (X:=⟨tt,[(115,Ah)],[],9,[]⟩) mixed AP (CTok.cons Gb (CTok.nil _)) Tryz.func118 (λ _=>[]) ?_
 intro (z:Int) hpre
 have hpre:True:=hpre
 refine AO (q:=∃ i1:Bool×Nat,[DA.one (cB (!(decide (z<0)))),DA.one (cS (L z.natAbs))]=Ah.args i1/\Ah.pre i1/\((vB (decide ((zOf i1.1 i1.2)<0))=vB (decide ((-z)<0)))/\(L (zOf i1.1 i1.2).natAbs=L (-z).natAbs))) (by kernel_rfl) ?_
 delta vB
 refine ⟨((!(decide (z<0))),z.natAbs),by
  rfl,by
  trivial,?_⟩
 refine ⟨?_,?_⟩
 ·rw [QZ]
 rw [QZ]
def Eu:Con:={ ι:=Int×Int,pre:=λ i=>nl i.1.natAbs<=1000/\nl i.2.natAbs<=1000,args:=λ i=>[dB i.1,dB i.2],mono:=true,res:=λ i=>⟨false,[some 2],[rcB (decide ((i.1+i.2)<0)),.view 3 [.int] (L (i.1+i.2).natAbs)]⟩ }
theorem Ro:Eu.Ok Tryz.prog 117:=by
 refine fok (X:=⟨tt,[(75,B5),(115,Ah),(129,Am),(131,BL)],[],42,[]⟩) mixed AP (CTok.cons LX (CTok.cons Gb (CTok.cons IC (CTok.cons LY (CTok.nil _))))) Tryz.func117 (λ _=>[]) ?_
 rintro ⟨x,y⟩ hpre
 have hpre:nl x.natAbs<=1000/\nl y.natAbs<=1000:=hpre
 refine AO (q:=let Z4:=decide (x<0);let Z3:=decide ((x+y)<0);let Z2:=cS (L y.natAbs);let Z1:=cS (L x.natAbs);ifB ((Z4 == (decide (y<0)))) (∃ i1:Nat×Nat,[DA.one Z1,DA.one Z2]=B5.args i1/\B5.pre i1/\(∃ i2:Bool×Nat,[DA.one (cB Z4),DA.one (cS (L (i1.1+i1.2)))]=Ah.args i2/\Ah.pre i2/\((vB (decide ((zOf i2.1 i2.2)<0))=vB Z3)/\(L (zOf i2.1 i2.2).natAbs=L (x+y).natAbs)))) (∃ i3:Nat×Nat,[DA.one Z1,DA.one Z2]=Am.args i3/\Am.pre i3/\(ifB ((decide ((Dd i3.1 i3.2)≥(0:Int)))) (∃ i4:Nat×Nat,[DA.one Z1,DA.one Z2]=BL.args i4/\BL.pre i4/\(∃ i5:Bool×Nat,[DA.one (cB Z4),DA.one (cS (L (i4.1-i4.2)))]=Ah.args i5/\Ah.pre i5/\((vB (decide ((zOf i5.1 i5.2)<0))=vB Z3)/\(L (zOf i5.1 i5.2).natAbs=L (x+y).natAbs)))) (∃ i6:Nat×Nat,[DA.one Z2,DA.one Z1]=BL.args i6/\BL.pre i6/\(∃ i7:Bool×Nat,[DA.one (cB (decide (y<0))),DA.one (cS (L (i6.1-i6.2)))]=Ah.args i7/\Ah.pre i7/\((vB (decide ((zOf i7.1 i7.2)<0))=vB Z3)/\(L (zOf i7.1 i7.2).natAbs=L (x+y).natAbs))))))) (by kernel_rfl) ?_
 conv=>zeta
 delta ifB vB
 refine ⟨λ c1=>?_,λ c1=>?_⟩
 ·try simp only [nrm] at c1
  refine ⟨(x.natAbs,y.natAbs),by
   rfl,by
   show nl x.natAbs<=1048576/\nl y.natAbs<=1048576
   exact ⟨by omega,by omega⟩,?_⟩
  refine ⟨(decide (x<0),(x.natAbs+y.natAbs)),by
   rfl,by
   trivial,?_⟩
  refine ⟨?_,?_⟩
  ·rw [N2 c1]
  rw [N2 c1]
 try simp only [nrm] at c1
 refine ⟨(x.natAbs,y.natAbs),by
  rfl,by
  show nl x.natAbs<=1048576/\nl y.natAbs<=1048576
  exact ⟨by omega,by omega⟩,?_⟩
 refine ⟨λ c13=>?_,λ c13=>?_⟩
 ·try simp only [nrm] at c13
  refine ⟨(x.natAbs,y.natAbs),by
   rfl,by
   show nl x.natAbs<=1048576/\nl y.natAbs<=1048576/\y.natAbs<=x.natAbs
   exact ⟨by omega,by omega,FV.1 c13⟩,?_⟩
  refine ⟨(decide (x<0),(x.natAbs-y.natAbs)),by
   rfl,by
   trivial,?_⟩
  refine ⟨?_,?_⟩
  ·rw [J9 c1 (FV.1 c13)]
  rw [J9 c1 (FV.1 c13)]
 try simp only [nrm] at c13
 refine ⟨(y.natAbs,x.natAbs),by
  rfl,by
  show nl y.natAbs<=1048576/\nl x.natAbs<=1048576/\x.natAbs<=y.natAbs
  exact ⟨by omega,by omega,Nat.le_of_lt (ES.1 c13)⟩,?_⟩
 refine ⟨(decide (y<0),(y.natAbs-x.natAbs)),by
  rfl,by
  trivial,?_⟩
 refine ⟨?_,?_⟩
 ·rw [N3 c1 (Nat.le_of_lt (ES.1 c13))]
 rw [N3 c1 (Nat.le_of_lt (ES.1 c13))]
def BV:Con:={ ι:=Int×Int,pre:=λ i=>nl i.1.natAbs<=1000/\nl i.2.natAbs<=1000,args:=λ i=>[dB i.1,dB i.2],mono:=true,res:=λ i=>⟨false,[some 2],[rcB (decide ((i.1*i.2)<0)),.view 3 [.int] (L (i.1*i.2).natAbs)]⟩ }
theorem Lb:BV.Ok Tryz.prog 91:=by
 refine fok (X:=⟨tt,[(92,Ab),(115,Ah)],[],16,[]⟩) mixed AP (CTok.cons ET (CTok.cons Gb (CTok.nil _))) Tryz.func91 (λ _=>[]) ?_
 rintro ⟨x,y⟩ hpre
 have hpre:nl x.natAbs<=1000/\nl y.natAbs<=1000:=hpre
 refine AO (q:=∃ i1:Nat×Nat,[DA.one (cS (L x.natAbs)),DA.one (cS (L y.natAbs))]=Ab.args i1/\Ab.pre i1/\(∃ i2:Bool×Nat,[DA.one (cB ((decide (x<0)) != (decide (y<0)))),DA.one (cS (L (i1.1*i1.2)))]=Ah.args i2/\Ah.pre i2/\((vB (decide ((zOf i2.1 i2.2)<0))=vB (decide ((x*y)<0)))/\(L (zOf i2.1 i2.2).natAbs=L (x*y).natAbs)))) (by kernel_rfl) ?_
 delta vB
 refine ⟨(x.natAbs,y.natAbs),by
  rfl,by
  show nl x.natAbs<=524288/\nl y.natAbs<=524288
  exact ⟨by omega,by omega⟩,?_⟩
 refine ⟨(((decide (x<0)) != (decide (y<0))),(x.natAbs*y.natAbs)),by
  rfl,by
  trivial,?_⟩
 refine ⟨?_,?_⟩
 ·rw [Qa]
 rw [Qa]
def Be:Con:={ ι:=Bool×Nat,pre:=λ i=>nl i.2<=60,args:=λ i=>[DA.agg [cB i.1,cS (L i.2)]],mono:=true,res:=λ i=>⟨false,[some 2],[rcB i.1,.own 3 [.int] (L i.2)]⟩ }
theorem Rp:Be.Ok Tryz.prog 113:=by
 refine fok (X:=⟨tt,[(114,Ai)],[],14,[]⟩) mixed AP (CTok.cons HF (CTok.nil _)) Tryz.func113 (λ _=>[]) ?_
 rintro ⟨neg,m⟩ hpre
 have hpre:nl m<=60:=hpre
 refine AO (q:=ifB ((decide ((nI ((L m).length))>(60:Int)))) ((vB false=vB neg)/\(([]:List (List Dat))=L m)) (∃ i1:(List (List Dat)),[DA.one (cS (L m))]=Ai.args i1/\Ai.pre i1/\((vB neg=vB neg)/\(i1=L m)))) (by kernel_rfl) ?_
 delta ifB vB nI
 have hm:=Aq m
 refine ⟨λ c1=>?_,λ c1=>?_⟩
 ·try simp only [nrm] at c1
  refine ⟨?_,?_⟩
  ·exfalso;omega
  exfalso;omega
 try simp only [nrm] at c1
 refine ⟨(L m),by
  rfl,by
  show (L m).length<=1073741824
  omega,?_⟩
 exact ⟨rfl,rfl⟩
def F5:Con:={ ι:=Int,pre:=λ i=>-9223372036854775808<=i/\i<=9223372036854775807,args:=λ i=>[.one (cI i)],mono:=true,res:=λ i=>⟨false,[some 2],[rcB (decide (i<0)),.own 3 [.int] (L i.natAbs)]⟩ }
theorem Ts:F5.Ok Tryz.prog 52:=by
 refine fok (X:=⟨tt,[(74,Ac),(75,B5)],[],18,[]⟩) mixed AP (CTok.cons J1 (CTok.cons LX (CTok.nil _))) Tryz.func52 (λ _=>[]) ?_
 intro (n:Int) hpre
 have hpre:-9223372036854775808<=n/\n<=9223372036854775807:=hpre
 refine AO (q:=let Z1:=vB true=vB (decide (n<0));ifB ((decide (n≥(0:Int)))) (∃ i1:Nat,[DA.one (cI n)]=Ac.args i1/\Ac.pre i1/\((vB false=vB (decide (n<0)))/\(L i1=L n.natAbs))) (ifB ((n == (-9223372036854775808:Int))) (∃ i2:Nat,[DA.one (cI (9223372036854775807:Int))]=Ac.args i2/\Ac.pre i2/\(∃ i3:Nat,[DA.one (cI (1:Int))]=Ac.args i3/\Ac.pre i3/\(∃ i4:Nat×Nat,[DA.one (cS (L i2)),DA.one (cS (L i3))]=B5.args i4/\B5.pre i4/\(Z1/\(L (i4.1+i4.2)=L n.natAbs))))) (∃ i5:Nat,[DA.one (cI (wR (0-n)))]=Ac.args i5/\Ac.pre i5/\(Z1/\(L i5=L n.natAbs))))) (by kernel_rfl) ?_
 conv=>zeta
 delta ifB vB wR
 refine ⟨λ c1=>?_,λ c1=>?_⟩
 ·try simp only [nrm] at c1
  have en:n=((n.toNat:Nat):Int):=by omega
  have ea:n.natAbs=n.toNat:=by omega
  refine ⟨n.toNat,by
   show [DA.one (DC.im (Value.int .i64 n))]=[DA.one (DC.im (Value.int .i64 ((n.toNat:Nat):Int)))]
   rw [← en],by
   show n.toNat<=9223372036854775807
   omega,?_⟩
  refine ⟨?_,?_⟩
  ·rw [decide_eq_false (show ¬ n<0 by omega)];done
  rw [ea];done
 try simp only [nrm] at c1
 refine And.symm ⟨λ c7=>?_,λ c7=>?_⟩
 ·try simp only [nrm] at c7
  have en:IntKind.i64.wrap (0-n)=(((-n).toNat:Nat):Int):=by rw [AF (by omega) (by omega)];omega
  have ea:n.natAbs=(-n).toNat:=by omega
  refine ⟨(-n).toNat,by
   rw [en];rfl,by
   show ((-n).toNat)<=9223372036854775807
   omega,?_⟩
  refine ⟨?_,?_⟩
  ·rw [decide_eq_true (show n<0 by omega)];done
  rw [ea];done
 try simp only [nrm] at c7
 refine ⟨9223372036854775807,by
  rfl,by
  show 9223372036854775807<=9223372036854775807
  trivial,?_⟩
 refine ⟨1,by
  rfl,by
  show 1<=9223372036854775807
  trivial,?_⟩
 refine ⟨(9223372036854775807,1),by
  rfl,by
  exact ⟨Nat.le_trans ((Dc 3 _).2 (by decide)) (by decide),Nat.le_trans ((Dc 3 _).2 (by decide)) (by decide)⟩,?_⟩
 refine ⟨?_,?_⟩
 ·rw [decide_eq_true (show n<0 by omega)];done
 rw [show n.natAbs=9223372036854775807+1 by omega];done
def An:Con:={ ι:=Fr,pre:=λ i=>True,args:=λ i=>[dF i],mono:=true,res:=λ i=>⟨false,[none],[rcB i.good]⟩ }
theorem ID:An.Ok Tryz.prog 89:=by
 refine fok (X:=⟨tt,[],[],7,[]⟩) mixed AP (CTok.nil _) Tryz.func89 (λ _=>[]) ?_
 intro (r:Fr) hpre
 have hpre:True:=hpre
 refine AO (q:=(vB (decide ((nI ((L r.d).length))>(0:Int)))=vB r.good)) (by kernel_rfl) ?_
 delta vB nI
 rw [Wm]
def Bf:Con:={ ι:=Int×Nat,pre:=λ i=>i.2≠0/\nl i.1.natAbs<=1000/\nl i.2<=1000,args:=λ i=>[dB i.1,.one (cS (L i.2))],mono:=true,res:=λ i=>⟨false,[some 3],[rcB (decide ((Fr.mk' i.1 i.2).z<0)),.own 3 [.int] (L (Fr.mk' i.1 i.2).z.natAbs),.own 3 [.int] (L (Fr.mk' i.1 i.2).d)]⟩ }
theorem KB:Bf.Ok Tryz.prog 90:=by
 refine fok (X:=⟨tt,[(87,BP),(88,B6),(111,BU),(113,Be),(114,Ai)],[],45,[]⟩) mixed AP (CTok.cons N6 (CTok.cons La (CTok.cons LZ (CTok.cons Rp (CTok.cons HF (CTok.nil _)))))) Tryz.func90 (λ _=>[]) ?_
 rintro ⟨z,d⟩ hpre
 have hpre:d≠0/\nl z.natAbs<=1000/\nl d<=1000:=hpre
 refine AO (q:=let Z8:=cS (L d);let Z7:=List (List Dat);let Z3:=(decide ((nI ((L d).length))>(24:Int)));let Z2:=(!(decide ((nI ((L z.natAbs).length))>(24:Int))));let Z1:=Fr.mk' z d;let Z6:=decide (Z1.z<0);let Z5:=(eqN Z1);∃ i1:Nat,[DA.one Z8]=BP.args i1/\BP.pre i1/\(ifB ((!(decide (i1=1)))) (∃ i2:Nat×Nat,let Z4:=cS (L (i2.1.gcd i2.2));[DA.one (cS (L z.natAbs)),DA.one Z8]=B6.args i2/\B6.pre i2/\(∃ i3:Nat,[DA.one Z4]=BP.args i3/\BP.pre i3/\(ifB ((!(decide (i3=1)))) (∃ i4:Nat×Nat,[DA.one (cS (L z.natAbs)),DA.one Z4]=BU.args i4/\BU.pre i4/\(∃ i5:Nat×Nat,[DA.one Z8,DA.one Z4]=BU.args i5/\BU.pre i5/\(ifB ((!(decide ((nI ((L (i4.1/i4.2)).length))>(24:Int))))) (ifB ((decide ((nI ((L (i5.1/i5.2)).length))>(24:Int)))) Z5 (∃ i6:Bool×Nat,[DA.agg [cB (decide (z<0)),cS (L (i4.1/i4.2))]]=Be.args i6/\Be.pre i6/\(∃ i7:Z7,[DA.one (cS (L (i5.1/i5.2)))]=Ai.args i7/\Ai.pre i7/\((vB i6.1=vB Z6)/\(L i6.2=L Z1.z.natAbs)/\(i7=L Z1.d))))) Z5))) (ifB Z2 (ifB Z3 Z5 (∃ i8:Bool×Nat,[dB z]=Be.args i8/\Be.pre i8/\(∃ i9:Z7,[DA.one Z8]=Ai.args i9/\Ai.pre i9/\((vB i8.1=vB Z6)/\(L i8.2=L Z1.z.natAbs)/\(i9=L Z1.d))))) Z5)))) (ifB Z2 (ifB Z3 Z5 (∃ i10:Bool×Nat,[dB z]=Be.args i10/\Be.pre i10/\(∃ i11:Z7,[DA.one Z8]=Ai.args i11/\Ai.pre i11/\((vB i10.1=vB Z6)/\(L i10.2=L Z1.z.natAbs)/\(i11=L Z1.d))))) Z5))) (by kernel_rfl) ?_
 conv=>zeta
 delta ifB vB nI
 have hg:=VX (a:=z.natAbs) hpre.1
 refine ⟨d,by
  rfl,by
  trivial,?_⟩
 refine And.symm ⟨λ c4=>?_,λ c4=>?_⟩
 ·try simp only [nrm] at c4
  have e1:z.natAbs.gcd d=1:=by rw [c4];exact Nat.gcd_one_right _
  have ez:z.natAbs/z.natAbs.gcd d=z.natAbs:=by rw [e1,Nat.div_one]
  have ed:d/z.natAbs.gcd d=d:=by rw [e1,Nat.div_one]
  have lz:=Aq (z.natAbs/z.natAbs.gcd d)
  have ld:=Aq (d/z.natAbs.gcd d)
  rw [ez] at lz
  rw [ed] at ld
  refine And.symm ⟨λ c52=>?_,λ c52=>?_⟩
  ·try simp only [nrm] at c52
   refine EC ?_
   rw [EU hpre.1 (by rw [ez,ed];omega)];done
  try simp only [nrm] at c52
  refine ⟨λ c53=>?_,λ c53=>?_⟩
  ·try simp only [nrm] at c53
   refine EC ?_
   rw [EU hpre.1 (by rw [ez,ed];omega)];done
  try simp only [nrm] at c53
  refine ⟨(decide (z<0),z.natAbs),by
   rfl,by
   show nl z.natAbs<=60
   omega,?_⟩
  refine ⟨(L d),by
   rfl,by
   show (L d).length<=1073741824
   omega,?_⟩
  refine ⟨?_,?_,?_⟩
  ·rw [(C6 hpre.1 (by rw [ez];omega) (by rw [ed];omega)).1];done
  ·rw [(C6 hpre.1 (by rw [ez];omega) (by rw [ed];omega)).2.1,ez];done
  rw [(C6 hpre.1 (by rw [ez];omega) (by rw [ed];omega)).2.2,ed];done
 try simp only [nrm] at c4
 refine ⟨(z.natAbs,d),by
  rfl,by
  show nl z.natAbs<=131072/\nl d<=131072
  exact ⟨by omega,by omega⟩,?_⟩
 refine ⟨(z.natAbs.gcd d),by
  rfl,by
  trivial,?_⟩
 refine And.symm ⟨λ c11=>?_,λ c11=>?_⟩
 ·try simp only [nrm] at c11
  have e1:z.natAbs.gcd d=1:=c11
  have ez:z.natAbs/z.natAbs.gcd d=z.natAbs:=by rw [e1,Nat.div_one]
  have ed:d/z.natAbs.gcd d=d:=by rw [e1,Nat.div_one]
  have lz:=Aq (z.natAbs/z.natAbs.gcd d)
  have ld:=Aq (d/z.natAbs.gcd d)
  rw [ez] at lz
  rw [ed] at ld
  refine And.symm ⟨λ c35=>?_,λ c35=>?_⟩
  ·try simp only [nrm] at c35
   refine EC ?_
   rw [EU hpre.1 (by rw [ez,ed];omega)];done
  try simp only [nrm] at c35
  refine ⟨λ c36=>?_,λ c36=>?_⟩
  ·try simp only [nrm] at c36
   refine EC ?_
   rw [EU hpre.1 (by rw [ez,ed];omega)];done
  try simp only [nrm] at c36
  refine ⟨(decide (z<0),z.natAbs),by
   rfl,by
   show nl z.natAbs<=60
   omega,?_⟩
  refine ⟨(L d),by
   rfl,by
   show (L d).length<=1073741824
   omega,?_⟩
  refine ⟨?_,?_,?_⟩
  ·rw [(C6 hpre.1 (by rw [ez];omega) (by rw [ed];omega)).1];done
  ·rw [(C6 hpre.1 (by rw [ez];omega) (by rw [ed];omega)).2.1,ez];done
  rw [(C6 hpre.1 (by rw [ez];omega) (by rw [ed];omega)).2.2,ed];done
 try simp only [nrm] at c11
 have ez:z.natAbs/z.natAbs.gcd d=z.natAbs/z.natAbs.gcd d:=rfl
 have ed:d/z.natAbs.gcd d=d/z.natAbs.gcd d:=rfl
 have lz:=Aq (z.natAbs/z.natAbs.gcd d)
 have ld:=Aq (d/z.natAbs.gcd d)
 rw [ez] at lz
 rw [ed] at ld
 refine ⟨(z.natAbs,(z.natAbs.gcd d)),by
  rfl,by
  show (z.natAbs.gcd d)≠0/\nl z.natAbs<=131072/\nl (z.natAbs.gcd d)<=131072
  exact ⟨by omega,by omega⟩,?_⟩
 refine ⟨(d,(z.natAbs.gcd d)),by
  rfl,by
  show (z.natAbs.gcd d)≠0/\nl d<=131072/\nl (z.natAbs.gcd d)<=131072
  exact ⟨by omega,by omega⟩,?_⟩
 refine And.symm ⟨λ c18=>?_,λ c18=>?_⟩
 ·try simp only [nrm] at c18
  refine EC ?_
  rw [EU hpre.1 (by rw [ez,ed];omega)];done
 try simp only [nrm] at c18
 refine ⟨λ c19=>?_,λ c19=>?_⟩
 ·try simp only [nrm] at c19
  refine EC ?_
  rw [EU hpre.1 (by rw [ez,ed];omega)];done
 try simp only [nrm] at c19
 refine ⟨(decide (z<0),(z.natAbs/(z.natAbs.gcd d))),by
  rfl,by
  show nl (z.natAbs/(z.natAbs.gcd d))<=60
  omega,?_⟩
 refine ⟨L (d/(z.natAbs.gcd d)),by
  rfl,by
  show (L (d/(z.natAbs.gcd d))).length<=1073741824
  omega,?_⟩
 refine ⟨?_,?_,?_⟩
 ·rw [(C6 hpre.1 (by rw [ez];omega) (by rw [ed];omega)).1];done
 ·rw [(C6 hpre.1 (by rw [ez];omega) (by rw [ed];omega)).2.1,ez];done
 rw [(C6 hpre.1 (by rw [ez];omega) (by rw [ed];omega)).2.2,ed];done
def CX:Con:={ ι:=Int,pre:=λ i=>-9223372036854775808<=i/\i<=9223372036854775807,args:=λ i=>[.one (cI i)],mono:=true,res:=λ i=>⟨false,[some 3],[rcB (decide ((Fr.ofInt i).z<0)),.own 3 [.int] (L (Fr.ofInt i).z.natAbs),.own 3 [.int] (L (Fr.ofInt i).d)]⟩ }
theorem Rq:CX.Ok Tryz.prog 32:=by
 refine fok (X:=⟨tt,[(52,F5)],[],7,[]⟩) mixed AP (CTok.cons Ts (CTok.nil _)) Tryz.func32 (λ _=>[]) ?_
 intro (n:Int) hpre
 have hpre:-9223372036854775808<=n/\n<=9223372036854775807:=hpre
 refine AO (q:=∃ i1:Int,[DA.one (cI n)]=F5.args i1/\F5.pre i1/\((vB (decide (i1<0))=vB (decide ((Fr.ofInt n).z<0)))/\(L i1.natAbs=L (Fr.ofInt n).z.natAbs)/\(([[Dat.int (1:Int)]]:List (List Dat))=L (Fr.ofInt n).d))) (by kernel_rfl) ?_
 delta vB
 refine ⟨n,by
  rfl,by
  exact hpre,?_⟩
 refine ⟨?_,?_,?_⟩
 ·rw [(KA (PX hpre)).1];done
 ·rw [(KA (PX hpre)).1];done
 rw [(KA (PX hpre)).2];exact WC (by decide) (by decide)
def Ev:Con:={ ι:=Fr×Fr,pre:=λ i=>True,args:=λ i=>[dF i.1,dF i.2],mono:=true,res:=λ i=>⟨false,[some 3],[rcB (decide ((Fr.add i.1 i.2).z<0)),.own 3 [.int] (L (Fr.add i.1 i.2).z.natAbs),.own 3 [.int] (L (Fr.add i.1 i.2).d)]⟩ }
theorem Rr:Ev.Ok Tryz.prog 93:=by
 refine fok (X:=⟨tt,[(89,An),(91,BV),(117,Eu),(92,Ab),(90,Bf)],[],35,[]⟩) mixed AP (CTok.cons ID (CTok.cons Lb (CTok.cons Ro (CTok.cons ET (CTok.cons KB (CTok.nil _)))))) Tryz.func93 (λ _=>[]) ?_
 rintro ⟨r,s⟩ hpre
 have hpre:True:=hpre
 refine AO (q:=∃ i1:Fr,[dF r]=An.args i1/\An.pre i1/\(ifB ((!(!i1.good))) (∃ i2:Fr,[dF s]=An.args i2/\An.pre i2/\(ifB ((!i2.good)) ((eqN (Fr.add r s))) (∃ i3:Int×Int,[dB r.z,DA.agg [cB false,cS (L s.d)]]=BV.args i3/\BV.pre i3/\(∃ i4:Int×Int,[dB s.z,DA.agg [cB false,cS (L r.d)]]=BV.args i4/\BV.pre i4/\(∃ i5:Int×Int,[dB (i3.1*i3.2),dB (i4.1*i4.2)]=Eu.args i5/\Eu.pre i5/\(∃ i6:Nat×Nat,[DA.one (cS (L r.d)),DA.one (cS (L s.d))]=Ab.args i6/\Ab.pre i6/\(∃ i7:Int×Nat,[dB (i5.1+i5.2),DA.one (cS (L (i6.1*i6.2)))]=Bf.args i7/\Bf.pre i7/\((eqC (Fr.mk' i7.1 i7.2) (Fr.add r s)))))))))) ((eqN (Fr.add r s))))) (by kernel_rfl) ?_
 delta ifB
 have h1:=r.nlz
 have h2:=r.nld
 have h3:=s.nlz
 have h4:=s.nld
 refine ⟨r,by
  rfl,by
  trivial,?_⟩
 refine And.symm ⟨λ c4=>?_,λ c4=>?_⟩
 ·try simp only [nrm] at c4
  have hE:Fr.add r s=Fr.none:=Fr.bin_bad _ (.inl (N4 c4))
  refine EC ?_
  rw [hE];done
 try simp only [nrm] at c4
 refine ⟨s,by
  rfl,by
  trivial,?_⟩
 refine ⟨λ c8=>?_,λ c8=>?_⟩
 ·try simp only [nrm] at c8
  have hE:Fr.add r s=Fr.none:=Fr.bin_bad _ (.inr (N4 c8))
  refine EC ?_
  rw [hE];done
 try simp only [nrm] at c8
 have hE:=Fr.add_zd (FY c4) (FY c8)
 have m1:=Ga r.z ((s.d:Nat):Int)
 have m2:=Ga s.z ((r.d:Nat):Int)
 rw [MI] at m1 m2
 have m3:=PP (r.z*((s.d:Nat):Int)) (s.z*((r.d:Nat):Int))
 have m4:=DG r.d s.d
 have m5:r.d*s.d≠0:=Nat.mul_ne_zero (FY c4) (FY c8)
 refine ⟨(r.z,((s.d:Nat):Int)),by
  rfl,by
  show nl r.z.natAbs<=1000/\nl ((s.d:Nat):Int).natAbs<=1000
  exact ⟨by omega,by rw [MI];omega⟩,?_⟩
 refine ⟨(s.z,((r.d:Nat):Int)),by
  rfl,by
  show nl s.z.natAbs<=1000/\nl ((r.d:Nat):Int).natAbs<=1000
  exact ⟨by omega,by rw [MI];omega⟩,?_⟩
 refine ⟨((r.z*((s.d:Nat):Int)),(s.z*((r.d:Nat):Int))),by
  rfl,by
  show nl (r.z*((s.d:Nat):Int)).natAbs<=1000/\nl (s.z*((r.d:Nat):Int)).natAbs<=1000
  exact ⟨by omega,by omega⟩,?_⟩
 refine ⟨(r.d,s.d),by
  rfl,by
  show nl r.d<=524288/\nl s.d<=524288
  exact ⟨by omega,by omega⟩,?_⟩
 refine ⟨(((r.z*((s.d:Nat):Int))+(s.z*((r.d:Nat):Int))),(r.d*s.d)),by
  rfl,by
  show (r.d*s.d)≠0/\nl ((r.z*((s.d:Nat):Int))+(s.z*((r.d:Nat):Int))).natAbs<=1000/\nl (r.d*s.d)<=1000
  exact ⟨by omega,by omega⟩,?_⟩
 refine MJ ?_
 rw [hE];done
def CY:Con:={ ι:=Fr×Fr,pre:=λ i=>True,args:=λ i=>[dF i.1,dF i.2],mono:=true,res:=λ i=>⟨false,[some 3],[rcB (decide ((Fr.mul i.1 i.2).z<0)),.own 3 [.int] (L (Fr.mul i.1 i.2).z.natAbs),.own 3 [.int] (L (Fr.mul i.1 i.2).d)]⟩ }
theorem Rs:CY.Ok Tryz.prog 71:=by
 refine fok (X:=⟨tt,[(89,An),(91,BV),(92,Ab),(90,Bf)],[],25,[]⟩) mixed AP (CTok.cons ID (CTok.cons Lb (CTok.cons ET (CTok.cons KB (CTok.nil _))))) Tryz.func71 (λ _=>[]) ?_
 rintro ⟨r,s⟩ hpre
 have hpre:True:=hpre
 refine AO (q:=∃ i1:Fr,[dF r]=An.args i1/\An.pre i1/\(ifB ((!(!i1.good))) (∃ i2:Fr,[dF s]=An.args i2/\An.pre i2/\(ifB ((!i2.good)) ((eqN (Fr.mul r s))) (∃ i3:Int×Int,[dB r.z,dB s.z]=BV.args i3/\BV.pre i3/\(∃ i4:Nat×Nat,[DA.one (cS (L r.d)),DA.one (cS (L s.d))]=Ab.args i4/\Ab.pre i4/\(∃ i5:Int×Nat,[dB (i3.1*i3.2),DA.one (cS (L (i4.1*i4.2)))]=Bf.args i5/\Bf.pre i5/\((eqC (Fr.mk' i5.1 i5.2) (Fr.mul r s)))))))) ((eqN (Fr.mul r s))))) (by kernel_rfl) ?_
 delta ifB
 have h1:=r.nlz
 have h2:=r.nld
 have h3:=s.nlz
 have h4:=s.nld
 refine ⟨r,by
  rfl,by
  trivial,?_⟩
 refine And.symm ⟨λ c4=>?_,λ c4=>?_⟩
 ·try simp only [nrm] at c4
  have hE:Fr.mul r s=Fr.none:=Fr.bin_bad _ (.inl (N4 c4))
  refine EC ?_
  rw [hE];done
 try simp only [nrm] at c4
 refine ⟨s,by
  rfl,by
  trivial,?_⟩
 refine ⟨λ c8=>?_,λ c8=>?_⟩
 ·try simp only [nrm] at c8
  have hE:Fr.mul r s=Fr.none:=Fr.bin_bad _ (.inr (N4 c8))
  refine EC ?_
  rw [hE];done
 try simp only [nrm] at c8
 have hE:=Fr.mul_zd (FY c4) (FY c8)
 have m1:=Ga r.z s.z
 have m4:=DG r.d s.d
 have m5:r.d*s.d≠0:=Nat.mul_ne_zero (FY c4) (FY c8)
 refine ⟨(r.z,s.z),by
  rfl,by
  show nl r.z.natAbs<=1000/\nl s.z.natAbs<=1000
  exact ⟨by omega,by omega⟩,?_⟩
 refine ⟨(r.d,s.d),by
  rfl,by
  show nl r.d<=524288/\nl s.d<=524288
  exact ⟨by omega,by omega⟩,?_⟩
 refine ⟨((r.z*s.z),(r.d*s.d)),by
  rfl,by
  show (r.d*s.d)≠0/\nl (r.z*s.z).natAbs<=1000/\nl (r.d*s.d)<=1000
  exact ⟨by omega,by omega⟩,?_⟩
 refine MJ ?_
 rw [hE];done
def Ew:Con:={ ι:=Fr,pre:=λ i=>True,args:=λ i=>[dF i],mono:=true,res:=λ i=>⟨false,[some 3],[rcB (decide (i.opp.z<0)),.view 3 [.int] (L i.opp.z.natAbs),.view 3 [.int] (L i.opp.d)]⟩ }
theorem Rt:Ew.Ok Tryz.prog 94:=by
 refine fok (X:=⟨tt,[(118,Et)],[],9,[]⟩) mixed AP (CTok.cons Rn (CTok.nil _)) Tryz.func94 (λ _=>[]) ?_
 intro (r:Fr) hpre
 have hpre:True:=hpre
 refine AO (q:=∃ i1:Int,[dB r.z]=Et.args i1/\Et.pre i1/\((vB (decide ((-i1)<0))=vB (decide (r.opp.z<0)))/\(L (-i1).natAbs=L r.opp.z.natAbs)/\((L r.d)=L r.opp.d))) (by kernel_rfl) ?_
 delta vB
 refine ⟨r.z,by
  rfl,by
  trivial,?_⟩
 refine ⟨?_,?_,?_⟩
 ·rw [Fr.opp_z];done
 ·rw [Fr.opp_z];done
 rw [Fr.opp_d]
def Ax:Con:={ ι:=Fr×Fr,pre:=λ i=>True,args:=λ i=>[dF i.1,dF i.2],mono:=true,res:=λ i=>⟨false,[some 3],[rcB (decide ((Fr.sub i.1 i.2).z<0)),.own 3 [.int] (L (Fr.sub i.1 i.2).z.natAbs),.own 3 [.int] (L (Fr.sub i.1 i.2).d)]⟩ }
theorem Ru:Ax.Ok Tryz.prog 72:=by
 refine fok (X:=⟨tt,[(94,Ew),(93,Ev)],[],9,[]⟩) mixed AP (CTok.cons Rt (CTok.cons Rr (CTok.nil _))) Tryz.func72 (λ _=>[]) ?_
 rintro ⟨r,s⟩ hpre
 have hpre:True:=hpre
 refine AO (q:=∃ i1:Fr,[dF s]=Ew.args i1/\Ew.pre i1/\(∃ i2:Fr×Fr,[dF r,dF i1.opp]=Ev.args i2/\Ev.pre i2/\((eqC (Fr.add i2.1 i2.2) (Fr.sub r s))))) (by kernel_rfl) ?_
 refine ⟨s,by
  rfl,by
  trivial,?_⟩
 refine ⟨(r,s.opp),by
  rfl,by
  trivial,?_⟩
 refine MJ ?_
 rw [Fr.sub_opp]
def D2:Con:={ ι:=Fr,pre:=λ i=>True,args:=λ i=>[dF i],mono:=true,res:=λ i=>⟨false,[none],[rcI i.sgn]⟩ }
theorem PY:D2.Ok Tryz.prog 73:=by
 refine fok (X:=⟨tt,[(89,An)],[],18,[]⟩) mixed AP (CTok.cons ID (CTok.nil _)) Tryz.func73 (λ _=>[]) ?_
 intro (r:Fr) hpre
 have hpre:True:=hpre
 refine AO (q:=let Z1:=(vI (0:Int)=vI r.sgn);∃ i1:Fr,[dF r]=An.args i1/\An.pre i1/\(ifB ((!(!i1.good))) (ifB (((nI ((L r.z.natAbs).length)) == (0:Int))) Z1 (ifB (decide (r.z<0)) ((vI (-1:Int)=vI r.sgn)) ((vI (1:Int)=vI r.sgn)))) Z1)) (by kernel_rfl) ?_
 conv=>zeta
 delta ifB vI nI
 refine ⟨r,by
  rfl,by
  trivial,?_⟩
 refine And.symm ⟨λ c4=>?_,λ c4=>?_⟩
 ·try simp only [nrm] at c4
  have hz:r.z=0:=by rw [Fr.bad_z (N4 c4)];rfl
  rw [Fr.sgn_z,hz];rfl
 try simp only [nrm] at c4
 refine ⟨λ c5=>?_,λ c5=>?_⟩
 ·try simp only [nrm] at c5
  have hz:r.z=0:=Xz (by omega)
  rw [Fr.sgn_z,hz];rfl
 try simp only [nrm] at c5
 have hz:r.z≠0:=XS (by omega)
 refine ⟨λ c7=>?_,λ c7=>?_⟩
 ·try simp only [nrm] at c7
  rw [Fr.sgn_z];unfold FU;rw [if_pos (by omega)];done
 try simp only [nrm] at c7
 rw [Fr.sgn_z];unfold FU;rw [if_neg (by omega),if_neg (by omega)];done
def CZ:Con:={ ι:=(List (List Dat)),pre:=λ i=>i.length<=9223372036854775807,args:=λ i=>[.one (cS i)],mono:=true,res:=λ i=>⟨false,[none],[rcB (A6 i)]⟩ }
theorem N7:CZ.Ok Tryz.prog 86:=by
 refine fok (X:=⟨tt,[(109,F0)],[],22,[]⟩) mixed AP (CTok.cons Tg (CTok.nil _)) Tryz.func86 (λ _=>[]) ?_
 intro (l:List (List Dat)) hpre
 have hpre:l.length<=9223372036854775807:=hpre
 refine AO (q:=let Z2:=(vB false=vB (A6 l));let Z1:=wR ((nI l.length)-(1:Int));ifB ((!(decide ((nI l.length)>(60:Int))))) (∃ i1:(List (List Dat)),[DA.one (cS l),DA.one (DC.ro (.fn 110 []))]=F0.args i1/\F0.pre i1/\(ifB ((i1.any (λ r=>!(inB (rn r))))) Z2 (ifB ((!((nI l.length) == (0:Int)))) ((0<=Z1/\Z1<(l.length:Int))/\((Z1.toNat<l.length)/\((vB ((((l.getD (Z1.toNat) []).getD 0 (.int 0))).n != (0:Int))=vB (A6 l))))) ((vB true=vB (A6 l)))))) Z2) (by kernel_rfl) ?_
 conv=>zeta
 delta ifB vB wR nI
 refine And.symm ⟨λ c1=>?_,λ c1=>?_⟩
 ·try simp only [nrm] at c1
  have hE:=PR (l:=l) (by omega)
  rw [hE]
 try simp only [nrm] at c1
 refine ⟨l,by
  rfl,by
  trivial,?_⟩
 refine ⟨λ c5=>?_,λ c5=>?_⟩
 ·try simp only [nrm] at c5
  have hE:=PS c5
  rw [hE]
 try simp only [nrm] at c5
 refine And.symm ⟨λ c7=>?_,λ c7=>?_⟩
 ·try simp only [nrm] at c7
  have hE:=PT (l:=l) (by omega)
  rw [hE]
 try simp only [nrm] at c7
 have hE:=N5 (l:=l) (by omega) c5 (by omega)
 have hw:(IntKind.i64.wrap (((l.length:Nat):Int)-(1:Int)))=((l.length-1:Nat):Int):=by rw [AF (by omega) (by omega)];omega
 refine ao (by rw [hw];omega) λ o8=>?_
 refine ao (by rw [hw];omega) λ o9=>?_
 rw [hw,Int.toNat_natCast,hE];rfl
def C7:Con:={ ι:=Bool×(List (List Dat)),pre:=λ i=>i.2.length<=9223372036854775807,args:=λ i=>[DA.agg [cB i.1,cS i.2]],mono:=true,res:=λ i=>⟨false,[none],[rcB (B7 i.1 i.2)]⟩ }
theorem N8:C7.Ok Tryz.prog 85:=by
 refine fok (X:=⟨tt,[(86,CZ)],[],17,[]⟩) mixed AP (CTok.cons N7 (CTok.nil _)) Tryz.func85 (λ _=>[]) ?_
 rintro ⟨neg,m⟩ hpre
 have hpre:m.length<=9223372036854775807:=hpre
 refine AO (q:=let Z1:=B7 neg m;∃ i1:(List (List Dat)),[DA.one (cS m)]=CZ.args i1/\CZ.pre i1/\(ifB ((A6 i1)) (ifB (neg) ((vB (!((nI m.length) == (0:Int)))=vB Z1)) ((vB (!false)=vB Z1))) ((vB false=vB Z1)))) (by kernel_rfl) ?_
 conv=>zeta
 delta ifB vB nI
 refine ⟨m,by
  rfl,by
  trivial,?_⟩
 refine And.symm ⟨λ c4=>?_,λ c4=>?_⟩
 ·try simp only [nrm] at c4
  unfold B7;rw [c4];rfl
 try simp only [nrm] at c4
 refine ⟨λ c5=>?_,λ c5=>?_⟩
 ·try simp only [nrm] at c5
  rw [c5,PU c4];done
 try simp only [nrm] at c5
 unfold B7;rw [c4,c5];rfl
def DI:Con:={ ι:=Bool×(List (List Dat))×(List (List Dat)),pre:=λ i=>Dat.has (.sl 3 [.int]) (.sl i.2.1)/\Dat.has (.sl 3 [.int]) (.sl i.2.2)/\i.2.1.length<=9223372036854775807/\i.2.2.length<=9223372036854775807,args:=λ i=>[DA.agg [cB i.1,cS i.2.1,cS i.2.2]],mono:=true,res:=λ i=>⟨false,[none],[rcB (A7 i.1 i.2.1 i.2.2)]⟩ }
theorem Tt:DI.Ok Tryz.prog 70:=by
 refine fok (X:=⟨tt,[(85,C7),(86,CZ),(87,BP),(88,B6)],[],44,[]⟩) mixed AP (CTok.cons N8 (CTok.cons N7 (CTok.cons N6 (CTok.cons La (CTok.nil _))))) Tryz.func70 (λ _=>[]) ?_
 rintro ⟨neg,m,d⟩ hpre
 have hpre:Dat.has (.sl 3 [.int]) (.sl m)/\Dat.has (.sl 3 [.int]) (.sl d)/\m.length<=9223372036854775807/\d.length<=9223372036854775807:=hpre
 refine AO (q:=let Z2:=A7 neg m d;let Z1:=(vB false=vB Z2);∃ i1:Bool×(List (List Dat)),[DA.agg [cB neg,cS m]]=C7.args i1/\C7.pre i1/\(ifB ((!(!(B7 i1.1 i1.2)))) (∃ i2:(List (List Dat)),[DA.one (cS d)]=CZ.args i2/\CZ.pre i2/\(ifB ((!(!(A6 i2)))) (ifB ((!((nI d.length) == (0:Int)))) (ifB ((!(decide ((nI m.length)>(24:Int))))) (ifB ((decide ((nI d.length)>(24:Int)))) Z1 (∃ i3:Nat,[DA.one (cS d)]=BP.args i3/\BP.pre i3/\(ifB ((!(decide (i3=1)))) (∃ i4:Nat×Nat,[DA.one (cS m),DA.one (cS d)]=B6.args i4/\B6.pre i4/\(∃ i5:Nat,[DA.one (cS (L (i4.1.gcd i4.2)))]=BP.args i5/\BP.pre i5/\((vB (decide (i5=1))=vB Z2)))) ((vB true=vB Z2))))) Z1) Z1) Z1)) Z1)) (by kernel_rfl) ?_
 conv=>zeta
 delta ifB vB nI
 refine ⟨(neg,m),by
  rfl,by
  show m.length<=9223372036854775807
  omega,?_⟩
 refine And.symm ⟨λ c4=>?_,λ c4=>?_⟩
 ·try simp only [nrm] at c4
  have hE:A7 neg m d=false:=EV (.inl c4)
  rw [hE]
 try simp only [nrm] at c4
 refine ⟨d,by
  rfl,by
  show d.length<=9223372036854775807
  omega,?_⟩
 refine And.symm ⟨λ c8=>?_,λ c8=>?_⟩
 ·try simp only [nrm] at c8
  have hE:A7 neg m d=false:=EV (.inr (.inl c8))
  rw [hE]
 try simp only [nrm] at c8
 refine And.symm ⟨λ c9=>?_,λ c9=>?_⟩
 ·try simp only [nrm] at c9
  have hE:A7 neg m d=false:=EV (.inr (.inr (.inl (by omega))))
  rw [hE]
 try simp only [nrm] at c9
 refine And.symm ⟨λ c10=>?_,λ c10=>?_⟩
 ·try simp only [nrm] at c10
  have hE:A7 neg m d=false:=EV (.inr (.inr (.inr (.inl (by omega)))))
  rw [hE]
 try simp only [nrm] at c10
 refine ⟨λ c11=>?_,λ c11=>?_⟩
 ·try simp only [nrm] at c11
  have hE:A7 neg m d=false:=EV (.inr (.inr (.inr (.inr (by omega)))))
  rw [hE]
 try simp only [nrm] at c11
 obtain ⟨a,ea,na⟩:=Ep hpre.1 (PV c4)
 obtain ⟨b,eb,nb⟩:=Ep hpre.2.1 c8
 have hE:=PW c4 c8 (by omega) (by omega) (by omega)
 refine ⟨b,by
  rw [eb];rfl,by
  trivial,?_⟩
 refine And.symm ⟨λ c16=>?_,λ c16=>?_⟩
 ·try simp only [nrm] at c16
  rw [hE,ea,eb,CN,CN]
  exact congrArg Value.bool (decide_eq_true (by rw [c16];exact Nat.gcd_one_right a)).symm
 try simp only [nrm] at c16
 refine ⟨(a,b),by
  rw [ea,eb];rfl,by
  show nl a<=131072/\nl b<=131072
  exact ⟨by omega,by omega⟩,?_⟩
 refine ⟨(a.gcd b),by
  rfl,by
  trivial,?_⟩
 rw [hE,ea,eb,CN,CN]
end Go.Proofs.YtdgmbbjoifneiaaGreatDoor
