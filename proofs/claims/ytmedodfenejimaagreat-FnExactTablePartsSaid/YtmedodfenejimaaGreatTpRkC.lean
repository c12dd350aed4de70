import Derived.Test.YtmedodfenejimaaGreatTpRkM
import Derived.Test.YtmedodfenejimaaGreatTpNum3
namespace Go.Proofs.YtmedodfenejimaaGreat
set_option maxRecDepth 100000
set_option linter.unusedVariables false
set_option linter.unusedSimpArgs false
open Go.RowKit
theorem XS (n:Nat):decide (((n:Nat):Int)<0)=false:=decide_eq_false (by omega)
theorem Zb (r:Fr):decide ((((L r.d).length:Nat):Int)>(0:Int))=r.good:=by
 rw [← Fr.d_good'];congr 1;apply propext;omega
theorem Sw:nl 1=1:=Sp (by decide) (by decide)
theorem Eb {z:Int} {d:Nat} (hd:d≠0) (h1:nl (z.natAbs/z.natAbs.gcd d)<=24) (h2:nl (d/z.natAbs.gcd d)<=24) :
  decide ((Fr.mk' z d).z<0)=decide (z<0)/\(Fr.mk' z d).z.natAbs=z.natAbs/z.natAbs.gcd d/\(Fr.mk' z d).d=d/z.natAbs.gcd d:=by
 have hv:(Fr.mk' z d).v=some (mkRat z d):=BM (Ev.2 ⟨by rw [He hd];exact h1,by rw [(Gw hd).2];exact h2⟩)
 exact ⟨by rw [Fr.z_some hv,VQ hd],by rw [Fr.z_some hv,He hd],by rw [Fr.d_some hv,(Gw hd).2]⟩
theorem G4 {n:Int} (h:nl n.natAbs<=24):(Fr.ofInt n).z=n/\(Fr.ofInt n).d=1:=by
 rw [Fr.z_some (JD h),Fr.d_some (JD h),Rat.num_intCast,Rat.den_intCast];exact ⟨rfl,rfl⟩
theorem ML (neg:Bool) (m:Nat):decide (zOf neg m<0)=(neg && decide ((((L m).length:Nat):Int)>(0:Int))):=by
 rw [XO];congr 2;apply propext;omega
theorem CO {r:Fr} (h:r.good=false):r.d=0:=Classical.byContradiction λ h2=>by rw [Fr.d_good.2 h2] at h;cases h
theorem As {r:Fr} (h:r.good=true):r.d≠0:=Fr.d_good.1 h
theorem Zc {z:Int} (h:(L z.natAbs).length=0):z=0:=by
 rw [AQ] at h
 have:=Dd.1 h
 omega
theorem XT {z:Int} (h:(L z.natAbs).length≠0):z≠0:=by
 rintro rfl
 exact h (by rw [AQ];exact Cc)
theorem UZ (l:List (List Dat)):l.all (λ r=>inB (rn r))=!(l.any λ r=>!(inB (rn r))):=by rw [List.all_eq_not_any_not]
theorem NY {l:List (List Dat)} (h:60<l.length):BO l=false:=by
 unfold BO;rw [decide_eq_false (show ¬ l.length<=60 by omega)];rfl
theorem NZ {l:List (List Dat)} (h:(l.any λ r=>!(inB (rn r)))=true):BO l=false:=by
 unfold BO;rw [UZ,h];simp
theorem Na {l:List (List Dat)} (h:l.length=0):BO l=true:=by
 rw [List.eq_nil_of_length_eq_zero h];rfl
theorem Lq {l:List (List Dat)} (h1:l.length<=60) (h:(l.any λ r=>!(inB (rn r)))=false) (h0:l.length≠0):BO l=(rn (l.getD (l.length-1) []) != 0):=by
 unfold BO
 rw [UZ,h,decide_eq_true h1,decide_eq_false h0]
 generalize rn (l.getD (l.length-1) [])=v
 by_cases hv:v=0 <;> simp [hv]
theorem Nb {m:List (List Dat)} (h:BO m=true):CK true m=!(((m.length:Nat):Int) == (0:Int)):=by
 unfold CK;rw [h]
 by_cases hv:m.length=0
 ·rw [hv];rfl
 ·have:((((m.length:Nat):Int)) == (0:Int))=false:=by rw [beq_eq_false_iff_ne];omega
  rw [this];simp [hv]
theorem Nc {neg:Bool} {m:List (List Dat)} (h:CK neg m=true):BO m=true:=by
 unfold CK at h;rw [Bool.and_eq_true] at h;exact h.1
theorem Ck {neg:Bool} {m d:List (List Dat)} (h:CK neg m=false∨BO d=false∨d.length=0∨24<m.length∨24<d.length):Ap neg m d=false:=by
 unfold Ap
 rcases h with h|h|h|h|h
 ·rw [h];rfl
 ·rw [h];simp
 ·simp [h]
 ·rw [decide_eq_false (show ¬ m.length<=24 by omega)];simp
 ·rw [decide_eq_false (show ¬ d.length<=24 by omega)];simp
theorem Nd {neg:Bool} {m d:List (List Dat)} (h1:CK neg m=true) (h2:BO d=true) (h3:d.length≠0) (h4:m.length<=24) (h5:d.length<=24):Ap neg m d=decide ((RM m).gcd (RM d)=1):=by
 unfold Ap;rw [h1,h2,decide_eq_false h3,decide_eq_true h4,decide_eq_true h5];rfl
theorem E3 {n:Int} (h:-9223372036854775808<=n/\n<=9223372036854775807):nl n.natAbs<=24:=(EO _ _).2 (Nat.lt_of_le_of_lt (show n.natAbs<=9223372036854775808 by omega) (by decide))
theorem Ua {a b:Nat} (h:b≠0):a.gcd b≠0/\nl (a.gcd b)<=nl b:=⟨λ e=>h (Nat.eq_zero_of_gcd_eq_zero_right e),D9 (Nat.gcd_le_right _ (Nat.pos_of_ne_zero h))⟩
def BP:Con:={ ι:=(List (List Dat)),pre:=λ i=>i.length<=1073741824,args:=λ i=>[.one (cS i)],res:=λ i=>⟨false,[none],[.own 3 [.int] i]⟩ }
theorem KX:BP.Ok Tryz.prog 196:=by
 refine fok (X:=⟨tt,[],[],8,[]⟩) AI AF (CTok.nil _) Tryz.func196 (λ _=>[]) ?_
 intro (ls:List (List Dat)) hpre
 have hpre:ls.length<=1073741824:=hpre
 refine AH (q:=∀ b1:Bool,(b1=true->ls=[])->(ifB (b1) ((([]:List (List Dat))=ls)) ((([]:List (List Dat)).length+ls.length<=1073741824)/\(((([]:List (List Dat))++ls)=ls))))) (by kernel_rfl) ?_
 delta ifB
 intro b1 q1
 refine ⟨λ c2=>?_,λ c2=>?_⟩
 ·try simp only [nrm] at c2
  rw [q1 c2]
 try simp only [nrm] at c2
 refine ao (by simp;omega) λ o4=>?_
 rfl
def CW:Con:={ ι:=Nat,pre:=λ i=>True,args:=λ i=>[.one (cS (L i))],res:=λ i=>⟨false,[none],[rcB (decide (i=1))]⟩ }
theorem RN:CW.Ok Tryz.prog 308:=by
 refine fok (X:=⟨tt,[],[],12,[]⟩) AI AF (CTok.nil _) Tryz.func308 (λ _=>[]) ?_
 intro (a:Nat) hpre
 have hpre:True:=hpre
 refine AH (q:=ifB (((nI ((L a).length)) == (1:Int))) ((0<=(0:Int)/\(0:Int)<((L a).length:Int))/\((0<(L a).length)/\((vB (((((L a).getD 0 []).getD 0 (.int 0))).n == (1:Int))=vB (decide (a=1)))))) ((vB false=vB (decide (a=1))))) (by kernel_rfl) ?_
 delta ifB vB nI
 have ha:=AQ a
 refine And.symm ⟨λ c1=>?_,λ c1=>?_⟩
 ·try simp only [nrm] at c1
  exact congrArg Value.bool (decide_eq_false (λ e=>by subst e;rw [Sw] at ha;omega)).symm
 try simp only [nrm] at c1
 have h1:=Il (b:=a) (by omega)
 refine ao (by omega) λ o2=>?_
 refine ao (by omega) λ o3=>?_
 rw [L_n,h1.1]
 exact congrArg Value.bool (by rw [Bool.eq_iff_iff,beq_iff_eq,decide_eq_true_iff];omega)
def A3:Con:={ ι:=Bool×Nat,pre:=λ i=>True,args:=λ i=>[.one (cB i.1),.one (cS (L i.2))],res:=λ i=>⟨false,[some 2],[rcB (decide ((zOf i.1 i.2)<0)),.view 3 [.int] (L (zOf i.1 i.2).natAbs)]⟩ }
theorem Hj:A3.Ok Tryz.prog 264:=by
 refine fok (X:=⟨tt,[],[],13,[]⟩) AI AF (CTok.nil _) Tryz.func264 (λ _=>[]) ?_
 rintro ⟨neg,m⟩ hpre
 have hpre:True:=hpre
 refine AH (q:=let Z2:=decide ((zOf neg m)<0);let Z1:=(L m)=L (zOf neg m).natAbs;ifB (neg) ((vB (decide ((nI ((L m).length))>(0:Int)))=vB Z2)/\Z1) ((vB false=vB Z2)/\Z1)) (by kernel_rfl) ?_
 conv=>zeta
 delta ifB vB nI
 refine ⟨λ c1=>?_,λ c1=>?_⟩
 ·try simp only [nrm] at c1
  refine ⟨?_,?_⟩
  ·rw [ML,c1];rfl
  rw [Ea]
 try simp only [nrm] at c1
 refine ⟨?_,?_⟩
 ·rw [ML,c1];rfl
 rw [Ea]
def Hk:Con:={ ι:=Int,pre:=λ i=>True,args:=λ i=>[dB i],res:=λ i=>⟨false,[some 2],[rcB (decide ((-i)<0)),.view 3 [.int] (L (-i).natAbs)]⟩ }
theorem VX:Hk.Ok Tryz.prog 306:=by
 refine fok (X:=⟨tt,[(264,A3)],[],9,[]⟩) AI AF (CTok.cons Hj (CTok.nil _)) Tryz.func306 (λ _=>[]) ?_
 intro (z:Int) hpre
 have hpre:True:=hpre
 refine AH (q:=∃ i1:Bool×Nat,[DA.one (cB (!(decide (z<0)))),DA.one (cS (L z.natAbs))]=A3.args i1/\A3.pre i1/\((vB (decide ((zOf i1.1 i1.2)<0))=vB (decide ((-z)<0)))/\(L (zOf i1.1 i1.2).natAbs=L (-z).natAbs))) (by kernel_rfl) ?_
 delta vB
 refine ⟨((!(decide (z<0))),z.natAbs),by
  rfl,by
  trivial,?_⟩
 refine ⟨?_,?_⟩
 ·rw [Pi]
 rw [Pi]
def Hl:Con:={ ι:=Int×Int,pre:=λ i=>nl i.1.natAbs<=1000/\nl i.2.natAbs<=1000,args:=λ i=>[dB i.1,dB i.2],res:=λ i=>⟨false,[some 2],[rcB (decide ((i.1+i.2)<0)),.view 3 [.int] (L (i.1+i.2).natAbs)]⟩ }
theorem VY:Hl.Ok Tryz.prog 270:=by
 refine fok (X:=⟨tt,[(251,Df),(264,A3),(263,Av),(312,CJ)],[],42,[]⟩) AI AF (CTok.cons Om (CTok.cons Hj (CTok.cons JG (CTok.cons On (CTok.nil _))))) Tryz.func270 (λ _=>[]) ?_
 rintro ⟨x,y⟩ hpre
 have hpre:nl x.natAbs<=1000/\nl y.natAbs<=1000:=hpre
 refine AH (q:=let Z4:=decide (x<0);let Z3:=decide ((x+y)<0);let Z2:=cS (L y.natAbs);let Z1:=cS (L x.natAbs);ifB ((Z4 == (decide (y<0)))) (∃ i1:Nat×Nat,[DA.one Z1,DA.one Z2]=Df.args i1/\Df.pre i1/\(∃ i2:Bool×Nat,[DA.one (cB Z4),DA.one (cS (L (i1.1+i1.2)))]=A3.args i2/\A3.pre i2/\((vB (decide ((zOf i2.1 i2.2)<0))=vB Z3)/\(L (zOf i2.1 i2.2).natAbs=L (x+y).natAbs)))) (∃ i3:Nat×Nat,[DA.one Z1,DA.one Z2]=Av.args i3/\Av.pre i3/\(ifB ((decide ((CA i3.1 i3.2)≥(0:Int)))) (∃ i4:Nat×Nat,[DA.one Z1,DA.one Z2]=CJ.args i4/\CJ.pre i4/\(∃ i5:Bool×Nat,[DA.one (cB Z4),DA.one (cS (L (i4.1-i4.2)))]=A3.args i5/\A3.pre i5/\((vB (decide ((zOf i5.1 i5.2)<0))=vB Z3)/\(L (zOf i5.1 i5.2).natAbs=L (x+y).natAbs)))) (∃ i6:Nat×Nat,[DA.one Z2,DA.one Z1]=CJ.args i6/\CJ.pre i6/\(∃ i7:Bool×Nat,[DA.one (cB (decide (y<0))),DA.one (cS (L (i6.1-i6.2)))]=A3.args i7/\A3.pre i7/\((vB (decide ((zOf i7.1 i7.2)<0))=vB Z3)/\(L (zOf i7.1 i7.2).natAbs=L (x+y).natAbs))))))) (by kernel_rfl) ?_
 conv=>zeta
 delta ifB vB
 refine ⟨λ c1=>?_,λ c1=>?_⟩
 ·try simp only [nrm] at c1
  refine ⟨(x.natAbs,y.natAbs),by
   rfl,by
   show nl x.natAbs<=1048576/\nl y.natAbs<=1048576
   exact ⟨by omega,by omega⟩,?_⟩
  refine ⟨(decide (x<0),(x.natAbs+y.natAbs)),by
   rfl,by
   trivial,?_⟩
  refine ⟨?_,?_⟩
  ·rw [NW c1]
  rw [NW c1]
 try simp only [nrm] at c1
 refine ⟨(x.natAbs,y.natAbs),by
  rfl,by
  show nl x.natAbs<=1048576/\nl y.natAbs<=1048576
  exact ⟨by omega,by omega⟩,?_⟩
 refine ⟨λ c13=>?_,λ c13=>?_⟩
 ·try simp only [nrm] at c13
  refine ⟨(x.natAbs,y.natAbs),by
   rfl,by
   show nl x.natAbs<=1048576/\nl y.natAbs<=1048576/\y.natAbs<=x.natAbs
   exact ⟨by omega,by omega,Ff.1 c13⟩,?_⟩
  refine ⟨(decide (x<0),(x.natAbs-y.natAbs)),by
   rfl,by
   trivial,?_⟩
  refine ⟨?_,?_⟩
  ·rw [KW c1 (Ff.1 c13)]
  rw [KW c1 (Ff.1 c13)]
 try simp only [nrm] at c13
 refine ⟨(y.natAbs,x.natAbs),by
  rfl,by
  show nl y.natAbs<=1048576/\nl x.natAbs<=1048576/\x.natAbs<=y.natAbs
  exact ⟨by omega,by omega,Nat.le_of_lt (EA.1 c13)⟩,?_⟩
 refine ⟨(decide (y<0),(y.natAbs-x.natAbs)),by
  rfl,by
  trivial,?_⟩
 refine ⟨?_,?_⟩
 ·rw [NX c1 (Nat.le_of_lt (EA.1 c13))]
 rw [NX c1 (Nat.le_of_lt (EA.1 c13))]
def BE:Con:={ ι:=Int×Int,pre:=λ i=>nl i.1.natAbs<=1000/\nl i.2.natAbs<=1000,args:=λ i=>[dB i.1,dB i.2],res:=λ i=>⟨false,[some 2],[rcB (decide ((i.1*i.2)<0)),.view 3 [.int] (L (i.1*i.2).natAbs)]⟩ }
theorem JI:BE.Ok Tryz.prog 216:=by
 refine fok (X:=⟨tt,[(265,Aw),(264,A3)],[],16,[]⟩) AI AF (CTok.cons FP (CTok.cons Hj (CTok.nil _))) Tryz.func216 (λ _=>[]) ?_
 rintro ⟨x,y⟩ hpre
 have hpre:nl x.natAbs<=1000/\nl y.natAbs<=1000:=hpre
 refine AH (q:=∃ i1:Nat×Nat,[DA.one (cS (L x.natAbs)),DA.one (cS (L y.natAbs))]=Aw.args i1/\Aw.pre i1/\(∃ i2:Bool×Nat,[DA.one (cB ((decide (x<0)) != (decide (y<0)))),DA.one (cS (L (i1.1*i1.2)))]=A3.args i2/\A3.pre i2/\((vB (decide ((zOf i2.1 i2.2)<0))=vB (decide ((x*y)<0)))/\(L (zOf i2.1 i2.2).natAbs=L (x*y).natAbs)))) (by kernel_rfl) ?_
 delta vB
 refine ⟨(x.natAbs,y.natAbs),by
  rfl,by
  show nl x.natAbs<=524288/\nl y.natAbs<=524288
  exact ⟨by omega,by omega⟩,?_⟩
 refine ⟨(((decide (x<0)) != (decide (y<0))),(x.natAbs*y.natAbs)),by
  rfl,by
  trivial,?_⟩
 refine ⟨?_,?_⟩
 ·rw [MK]
 rw [MK]
def Hm:Con:={ ι:=Int×Int,pre:=λ i=>nl i.1.natAbs<=1000/\nl i.2.natAbs<=1000,args:=λ i=>[dB i.1,dB i.2],res:=λ i=>⟨false,[none],[rcI (CQ i.1 i.2)]⟩ }
theorem VZ:Hm.Ok Tryz.prog 215:=by
 refine fok (X:=⟨tt,[(263,Av)],[],28,[]⟩) AI AF (CTok.cons JG (CTok.nil _)) Tryz.func215 (λ _=>[]) ?_
 rintro ⟨x,y⟩ hpre
 have hpre:nl x.natAbs<=1000/\nl y.natAbs<=1000:=hpre
 refine AH (q:=let Z5:=decide (y<0);let Z4:=decide (x<0);let Z3:=cS (L x.natAbs);let Z2:=cS (L y.natAbs);let Z1:=CQ x y;let Z7:=(vI (1:Int)=vI Z1);let Z6:=(vI (-1:Int)=vI Z1);ifB Z4 (ifB Z5 (∃ i1:Nat×Nat,[DA.one Z2,DA.one Z3]=Av.args i1/\Av.pre i1/\((vI (CA i1.1 i1.2)=vI Z1))) (ifB Z4 Z6 (ifB Z5 Z7 (∃ i2:Nat×Nat,[DA.one Z3,DA.one Z2]=Av.args i2/\Av.pre i2/\((vI (CA i2.1 i2.2)=vI Z1)))))) (ifB Z4 Z6 (ifB Z5 Z7 (∃ i3:Nat×Nat,[DA.one Z3,DA.one Z2]=Av.args i3/\Av.pre i3/\((vI (CA i3.1 i3.2)=vI Z1)))))) (by kernel_rfl) ?_
 conv=>zeta
 delta ifB vI
 refine And.symm ⟨λ c1=>?_,λ c1=>?_⟩
 ·try simp only [nrm] at c1
  refine ⟨λ c15=>?_,λ c15=>?_⟩
  ·try simp only [nrm] at c15
   exfalso;omega
  try simp only [nrm] at c15
  refine ⟨λ c17=>?_,λ c17=>?_⟩
  ·try simp only [nrm] at c17
   rw [← UY (by omega) (by omega)]
  try simp only [nrm] at c17
  refine ⟨(x.natAbs,y.natAbs),by
   rfl,by
   show nl x.natAbs<=1048576/\nl y.natAbs<=1048576
   exact ⟨by omega,by omega⟩,?_⟩
  rw [UW (by omega) (by omega)]
 try simp only [nrm] at c1
 refine ⟨λ c2=>?_,λ c2=>?_⟩
 ·try simp only [nrm] at c2
  refine ⟨(y.natAbs,x.natAbs),by
   rfl,by
   show nl y.natAbs<=1048576/\nl x.natAbs<=1048576
   exact ⟨by omega,by omega⟩,?_⟩
  rw [UV (by omega) (by omega)]
 try simp only [nrm] at c2
 refine ⟨λ c7=>?_,λ c7=>?_⟩
 ·try simp only [nrm] at c7
  rw [← UX (by omega) (by omega)]
 try simp only [nrm] at c7
 refine ⟨λ c9=>?_,λ c9=>?_⟩
 ·try simp only [nrm] at c9
  exfalso;omega
 try simp only [nrm] at c9
 refine ⟨(x.natAbs,y.natAbs),by
  rfl,by
  exact ⟨by omega,by omega⟩,?_⟩
 exfalso;omega
def C2:Con:={ ι:=Bool×Nat,pre:=λ i=>nl i.2<=60,args:=λ i=>[DA.agg [cB i.1,cS (L i.2)]],res:=λ i=>⟨false,[some 2],[rcB i.1,.own 3 [.int] (L i.2)]⟩ }
theorem Va:C2.Ok Tryz.prog 311:=by
 refine fok (X:=⟨tt,[(196,BP)],[],14,[]⟩) AI AF (CTok.cons KX (CTok.nil _)) Tryz.func311 (λ _=>[]) ?_
 rintro ⟨neg,m⟩ hpre
 have hpre:nl m<=60:=hpre
 refine AH (q:=ifB ((decide ((nI ((L m).length))>(60:Int)))) ((vB false=vB neg)/\(([]:List (List Dat))=L m)) (∃ i1:(List (List Dat)),[DA.one (cS (L m))]=BP.args i1/\BP.pre i1/\((vB neg=vB neg)/\(i1=L m)))) (by kernel_rfl) ?_
 delta ifB vB nI
 have hm:=AQ m
 refine ⟨λ c1=>?_,λ c1=>?_⟩
 ·try simp only [nrm] at c1
  refine ⟨?_,?_⟩
  ·exfalso;omega
  exfalso;omega
 try simp only [nrm] at c1
 refine ⟨(L m),by
  rfl,by
  show (L m).length<=1073741824
  omega,?_⟩
 exact ⟨rfl,rfl⟩
def JJ:Con:={ ι:=Int,pre:=λ i=>-9223372036854775808<=i/\i<=9223372036854775807,args:=λ i=>[.one (cI i)],res:=λ i=>⟨false,[some 2],[rcB (decide (i<0)),.own 3 [.int] (L i.natAbs)]⟩ }
theorem XU:JJ.Ok Tryz.prog 195:=by
 refine fok (X:=⟨tt,[(250,A9),(251,Df)],[],18,[]⟩) AI AF (CTok.cons NS (CTok.cons Om (CTok.nil _))) Tryz.func195 (λ _=>[]) ?_
 intro (n:Int) hpre
 have hpre:-9223372036854775808<=n/\n<=9223372036854775807:=hpre
 refine AH (q:=let Z1:=vB true=vB (decide (n<0));ifB ((decide (n≥(0:Int)))) (∃ i1:Nat,[DA.one (cI n)]=A9.args i1/\A9.pre i1/\((vB false=vB (decide (n<0)))/\(L i1=L n.natAbs))) (ifB ((n == (-9223372036854775808:Int))) (∃ i2:Nat,[DA.one (cI (9223372036854775807:Int))]=A9.args i2/\A9.pre i2/\(∃ i3:Nat,[DA.one (cI (1:Int))]=A9.args i3/\A9.pre i3/\(∃ i4:Nat×Nat,[DA.one (cS (L i2)),DA.one (cS (L i3))]=Df.args i4/\Df.pre i4/\(Z1/\(L (i4.1+i4.2)=L n.natAbs))))) (∃ i5:Nat,[DA.one (cI (wR (0-n)))]=A9.args i5/\A9.pre i5/\(Z1/\(L i5=L n.natAbs))))) (by kernel_rfl) ?_
 conv=>zeta
 delta ifB vB wR
 refine ⟨λ c1=>?_,λ c1=>?_⟩
 ·try simp only [nrm] at c1
  have en:n=((n.toNat:Nat):Int):=by omega
  have ea:n.natAbs=n.toNat:=by omega
  refine ⟨n.toNat,by
   show [DA.one (DC.im (Value.int .i64 n))]=[DA.one (DC.im (Value.int .i64 ((n.toNat:Nat):Int)))]
   rw [← en],by
   show n.toNat<=9223372036854775807
   omega,?_⟩
  refine ⟨?_,?_⟩
  ·rw [decide_eq_false (show ¬ n<0 by omega)];done
  rw [ea];done
 try simp only [nrm] at c1
 refine And.symm ⟨λ c7=>?_,λ c7=>?_⟩
 ·try simp only [nrm] at c7
  have en:IntKind.i64.wrap (0-n)=(((-n).toNat:Nat):Int):=by rw [AD (by omega) (by omega)];omega
  have ea:n.natAbs=(-n).toNat:=by omega
  refine ⟨(-n).toNat,by
   rw [en];rfl,by
   show ((-n).toNat)<=9223372036854775807
   omega,?_⟩
  refine ⟨?_,?_⟩
  ·rw [decide_eq_true (show n<0 by omega)];done
  rw [ea];done
 try simp only [nrm] at c7
 refine ⟨9223372036854775807,by
  rfl,by
  show 9223372036854775807<=9223372036854775807
  trivial,?_⟩
 refine ⟨1,by
  rfl,by
  show 1<=9223372036854775807
  trivial,?_⟩
 refine ⟨(9223372036854775807,1),by
  rfl,by
  exact ⟨Nat.le_trans ((EO 3 _).2 (by decide)) (by decide),Nat.le_trans ((EO 3 _).2 (by decide)) (by decide)⟩,?_⟩
 refine ⟨?_,?_⟩
 ·rw [decide_eq_true (show n<0 by omega)];done
 rw [show n.natAbs=9223372036854775807+1 by omega];done
def AU:Con:={ ι:=Fr,pre:=λ i=>True,args:=λ i=>[dF i],res:=λ i=>⟨false,[none],[rcB i.good]⟩ }
theorem Du:AU.Ok Tryz.prog 214:=by
 refine fok (X:=⟨tt,[],[],7,[]⟩) AI AF (CTok.nil _) Tryz.func214 (λ _=>[]) ?_
 intro (r:Fr) hpre
 have hpre:True:=hpre
 refine AH (q:=(vB (decide ((nI ((L r.d).length))>(0:Int)))=vB r.good)) (by kernel_rfl) ?_
 delta vB nI
 rw [Zb]
def Bt:Con:={ ι:=Int×Nat,pre:=λ i=>i.2≠0/\nl i.1.natAbs<=1000/\nl i.2<=1000,args:=λ i=>[dB i.1,.one (cS (L i.2))],res:=λ i=>⟨false,[some 3],[rcB (decide ((Fr.mk' i.1 i.2).z<0)),.own 3 [.int] (L (Fr.mk' i.1 i.2).z.natAbs),.own 3 [.int] (L (Fr.mk' i.1 i.2).d)]⟩ }
theorem Jy:Bt.Ok Tryz.prog 268:=by
 refine fok (X:=⟨tt,[(308,CW),(309,Dg),(310,Cd),(311,C2),(196,BP)],[],45,[]⟩) AI AF (CTok.cons RN (CTok.cons Oq (CTok.cons Oo (CTok.cons Va (CTok.cons KX (CTok.nil _)))))) Tryz.func268 (λ _=>[]) ?_
 rintro ⟨z,d⟩ hpre
 have hpre:d≠0/\nl z.natAbs<=1000/\nl d<=1000:=hpre
 refine AH (q:=let Z8:=cS (L d);let Z7:=List (List Dat);let Z3:=(decide ((nI ((L d).length))>(24:Int)));let Z2:=(!(decide ((nI ((L z.natAbs).length))>(24:Int))));let Z1:=Fr.mk' z d;let Z6:=decide (Z1.z<0);let Z5:=(eqN Z1);∃ i1:Nat,[DA.one Z8]=CW.args i1/\CW.pre i1/\(ifB ((!(decide (i1=1)))) (∃ i2:Nat×Nat,let Z4:=cS (L (i2.1.gcd i2.2));[DA.one (cS (L z.natAbs)),DA.one Z8]=Dg.args i2/\Dg.pre i2/\(∃ i3:Nat,[DA.one Z4]=CW.args i3/\CW.pre i3/\(ifB ((!(decide (i3=1)))) (∃ i4:Nat×Nat,[DA.one (cS (L z.natAbs)),DA.one Z4]=Cd.args i4/\Cd.pre i4/\(∃ i5:Nat×Nat,[DA.one Z8,DA.one Z4]=Cd.args i5/\Cd.pre i5/\(ifB ((!(decide ((nI ((L (i4.1/i4.2)).length))>(24:Int))))) (ifB ((decide ((nI ((L (i5.1/i5.2)).length))>(24:Int)))) Z5 (∃ i6:Bool×Nat,[DA.agg [cB (decide (z<0)),cS (L (i4.1/i4.2))]]=C2.args i6/\C2.pre i6/\(∃ i7:Z7,[DA.one (cS (L (i5.1/i5.2)))]=BP.args i7/\BP.pre i7/\((vB i6.1=vB Z6)/\(L i6.2=L Z1.z.natAbs)/\(i7=L Z1.d))))) Z5))) (ifB Z2 (ifB Z3 Z5 (∃ i8:Bool×Nat,[dB z]=C2.args i8/\C2.pre i8/\(∃ i9:Z7,[DA.one Z8]=BP.args i9/\BP.pre i9/\((vB i8.1=vB Z6)/\(L i8.2=L Z1.z.natAbs)/\(i9=L Z1.d))))) Z5)))) (ifB Z2 (ifB Z3 Z5 (∃ i10:Bool×Nat,[dB z]=C2.args i10/\C2.pre i10/\(∃ i11:Z7,[DA.one Z8]=BP.args i11/\BP.pre i11/\((vB i10.1=vB Z6)/\(L i10.2=L Z1.z.natAbs)/\(i11=L Z1.d))))) Z5))) (by kernel_rfl) ?_
 conv=>zeta
 delta ifB vB nI
 have hg:=Ua (a:=z.natAbs) hpre.1
 refine ⟨d,by
  rfl,by
  trivial,?_⟩
 refine And.symm ⟨λ c4=>?_,λ c4=>?_⟩
 ·try simp only [nrm] at c4
  have e1:z.natAbs.gcd d=1:=by rw [c4];exact Nat.gcd_one_right _
  have ez:z.natAbs/z.natAbs.gcd d=z.natAbs:=by rw [e1,Nat.div_one]
  have ed:d/z.natAbs.gcd d=d:=by rw [e1,Nat.div_one]
  have lz:=AQ (z.natAbs/z.natAbs.gcd d)
  have ld:=AQ (d/z.natAbs.gcd d)
  rw [ez] at lz
  rw [ed] at ld
  refine And.symm ⟨λ c52=>?_,λ c52=>?_⟩
  ·try simp only [nrm] at c52
   refine A4 ?_
   rw [Fi hpre.1 (by rw [ez,ed];omega)];done
  try simp only [nrm] at c52
  refine ⟨λ c53=>?_,λ c53=>?_⟩
  ·try simp only [nrm] at c53
   refine A4 ?_
   rw [Fi hpre.1 (by rw [ez,ed];omega)];done
  try simp only [nrm] at c53
  refine ⟨(decide (z<0),z.natAbs),by
   rfl,by
   show nl z.natAbs<=60
   omega,?_⟩
  refine ⟨(L d),by
   rfl,by
   show (L d).length<=1073741824
   omega,?_⟩
  refine ⟨?_,?_,?_⟩
  ·rw [(Eb hpre.1 (by rw [ez];omega) (by rw [ed];omega)).1];done
  ·rw [(Eb hpre.1 (by rw [ez];omega) (by rw [ed];omega)).2.1,ez];done
  rw [(Eb hpre.1 (by rw [ez];omega) (by rw [ed];omega)).2.2,ed];done
 try simp only [nrm] at c4
 refine ⟨(z.natAbs,d),by
  rfl,by
  show nl z.natAbs<=131072/\nl d<=131072
  exact ⟨by omega,by omega⟩,?_⟩
 refine ⟨(z.natAbs.gcd d),by
  rfl,by
  trivial,?_⟩
 refine And.symm ⟨λ c11=>?_,λ c11=>?_⟩
 ·try simp only [nrm] at c11
  have e1:z.natAbs.gcd d=1:=c11
  have ez:z.natAbs/z.natAbs.gcd d=z.natAbs:=by rw [e1,Nat.div_one]
  have ed:d/z.natAbs.gcd d=d:=by rw [e1,Nat.div_one]
  have lz:=AQ (z.natAbs/z.natAbs.gcd d)
  have ld:=AQ (d/z.natAbs.gcd d)
  rw [ez] at lz
  rw [ed] at ld
  refine And.symm ⟨λ c35=>?_,λ c35=>?_⟩
  ·try simp only [nrm] at c35
   refine A4 ?_
   rw [Fi hpre.1 (by rw [ez,ed];omega)];done
  try simp only [nrm] at c35
  refine ⟨λ c36=>?_,λ c36=>?_⟩
  ·try simp only [nrm] at c36
   refine A4 ?_
   rw [Fi hpre.1 (by rw [ez,ed];omega)];done
  try simp only [nrm] at c36
  refine ⟨(decide (z<0),z.natAbs),by
   rfl,by
   show nl z.natAbs<=60
   omega,?_⟩
  refine ⟨(L d),by
   rfl,by
   show (L d).length<=1073741824
   omega,?_⟩
  refine ⟨?_,?_,?_⟩
  ·rw [(Eb hpre.1 (by rw [ez];omega) (by rw [ed];omega)).1];done
  ·rw [(Eb hpre.1 (by rw [ez];omega) (by rw [ed];omega)).2.1,ez];done
  rw [(Eb hpre.1 (by rw [ez];omega) (by rw [ed];omega)).2.2,ed];done
 try simp only [nrm] at c11
 have ez:z.natAbs/z.natAbs.gcd d=z.natAbs/z.natAbs.gcd d:=rfl
 have ed:d/z.natAbs.gcd d=d/z.natAbs.gcd d:=rfl
 have lz:=AQ (z.natAbs/z.natAbs.gcd d)
 have ld:=AQ (d/z.natAbs.gcd d)
 rw [ez] at lz
 rw [ed] at ld
 refine ⟨(z.natAbs,(z.natAbs.gcd d)),by
  rfl,by
  show (z.natAbs.gcd d)≠0/\nl z.natAbs<=131072/\nl (z.natAbs.gcd d)<=131072
  exact ⟨by omega,by omega⟩,?_⟩
 refine ⟨(d,(z.natAbs.gcd d)),by
  rfl,by
  show (z.natAbs.gcd d)≠0/\nl d<=131072/\nl (z.natAbs.gcd d)<=131072
  exact ⟨by omega,by omega⟩,?_⟩
 refine And.symm ⟨λ c18=>?_,λ c18=>?_⟩
 ·try simp only [nrm] at c18
  refine A4 ?_
  rw [Fi hpre.1 (by rw [ez,ed];omega)];done
 try simp only [nrm] at c18
 refine ⟨λ c19=>?_,λ c19=>?_⟩
 ·try simp only [nrm] at c19
  refine A4 ?_
  rw [Fi hpre.1 (by rw [ez,ed];omega)];done
 try simp only [nrm] at c19
 refine ⟨(decide (z<0),(z.natAbs/(z.natAbs.gcd d))),by
  rfl,by
  show nl (z.natAbs/(z.natAbs.gcd d))<=60
  omega,?_⟩
 refine ⟨L (d/(z.natAbs.gcd d)),by
  rfl,by
  show (L (d/(z.natAbs.gcd d))).length<=1073741824
  omega,?_⟩
 refine ⟨?_,?_,?_⟩
 ·rw [(Eb hpre.1 (by rw [ez];omega) (by rw [ed];omega)).1];done
 ·rw [(Eb hpre.1 (by rw [ez];omega) (by rw [ed];omega)).2.1,ez];done
 rw [(Eb hpre.1 (by rw [ez];omega) (by rw [ed];omega)).2.2,ed];done
def BG:Con:={ ι:=Int,pre:=λ i=>-9223372036854775808<=i/\i<=9223372036854775807,args:=λ i=>[.one (cI i)],res:=λ i=>⟨false,[some 3],[rcB (decide ((Fr.ofInt i).z<0)),.own 3 [.int] (L (Fr.ofInt i).z.natAbs),.own 3 [.int] (L (Fr.ofInt i).d)]⟩ }
theorem JK:BG.Ok Tryz.prog 129:=by
 refine fok (X:=⟨tt,[(195,JJ)],[],7,[]⟩) AI AF (CTok.cons XU (CTok.nil _)) Tryz.func129 (λ _=>[]) ?_
 intro (n:Int) hpre
 have hpre:-9223372036854775808<=n/\n<=9223372036854775807:=hpre
 refine AH (q:=∃ i1:Int,[DA.one (cI n)]=JJ.args i1/\JJ.pre i1/\((vB (decide (i1<0))=vB (decide ((Fr.ofInt n).z<0)))/\(L i1.natAbs=L (Fr.ofInt n).z.natAbs)/\(([[Dat.int (1:Int)]]:List (List Dat))=L (Fr.ofInt n).d))) (by kernel_rfl) ?_
 delta vB
 refine ⟨n,by
  rfl,by
  exact hpre,?_⟩
 refine ⟨?_,?_,?_⟩
 ·rw [(G4 (E3 hpre)).1];done
 ·rw [(G4 (E3 hpre)).1];done
 rw [(G4 (E3 hpre)).2];exact XM (by decide) (by decide)
def BR:Con:={ ι:=Fr×Fr,pre:=λ i=>True,args:=λ i=>[dF i.1,dF i.2],res:=λ i=>⟨false,[some 3],[rcB (decide ((Fr.add i.1 i.2).z<0)),.own 3 [.int] (L (Fr.add i.1 i.2).z.natAbs),.own 3 [.int] (L (Fr.add i.1 i.2).d)]⟩ }
theorem JL:BR.Ok Tryz.prog 224:=by
 refine fok (X:=⟨tt,[(214,AU),(216,BE),(270,Hl),(265,Aw),(268,Bt)],[],35,[]⟩) AI AF (CTok.cons Du (CTok.cons JI (CTok.cons VY (CTok.cons FP (CTok.cons Jy (CTok.nil _)))))) Tryz.func224 (λ _=>[]) ?_
 rintro ⟨r,s⟩ hpre
 have hpre:True:=hpre
 refine AH (q:=∃ i1:Fr,[dF r]=AU.args i1/\AU.pre i1/\(ifB ((!(!i1.good))) (∃ i2:Fr,[dF s]=AU.args i2/\AU.pre i2/\(ifB ((!i2.good)) ((eqN (Fr.add r s))) (∃ i3:Int×Int,[dB r.z,DA.agg [cB false,cS (L s.d)]]=BE.args i3/\BE.pre i3/\(∃ i4:Int×Int,[dB s.z,DA.agg [cB false,cS (L r.d)]]=BE.args i4/\BE.pre i4/\(∃ i5:Int×Int,[dB (i3.1*i3.2),dB (i4.1*i4.2)]=Hl.args i5/\Hl.pre i5/\(∃ i6:Nat×Nat,[DA.one (cS (L r.d)),DA.one (cS (L s.d))]=Aw.args i6/\Aw.pre i6/\(∃ i7:Int×Nat,[dB (i5.1+i5.2),DA.one (cS (L (i6.1*i6.2)))]=Bt.args i7/\Bt.pre i7/\((eqC (Fr.mk' i7.1 i7.2) (Fr.add r s)))))))))) ((eqN (Fr.add r s))))) (by kernel_rfl) ?_
 delta ifB
 have h1:=r.nlz
 have h2:=r.nld
 have h3:=s.nlz
 have h4:=s.nld
 refine ⟨r,by
  rfl,by
  trivial,?_⟩
 refine And.symm ⟨λ c4=>?_,λ c4=>?_⟩
 ·try simp only [nrm] at c4
  have hE:Fr.add r s=Fr.none:=Fr.bin_bad _ (.inl (CO c4))
  refine A4 ?_
  rw [hE];done
 try simp only [nrm] at c4
 refine ⟨s,by
  rfl,by
  trivial,?_⟩
 refine ⟨λ c8=>?_,λ c8=>?_⟩
 ·try simp only [nrm] at c8
  have hE:Fr.add r s=Fr.none:=Fr.bin_bad _ (.inr (CO c8))
  refine A4 ?_
  rw [hE];done
 try simp only [nrm] at c8
 have hE:=Fr.add_zd (As c4) (As c8)
 have m1:=Bd r.z ((s.d:Nat):Int)
 have m2:=Bd s.z ((r.d:Nat):Int)
 rw [EB] at m1 m2
 have m3:=Fh (r.z*((s.d:Nat):Int)) (s.z*((r.d:Nat):Int))
 have m4:=Ay r.d s.d
 have m5:r.d*s.d≠0:=Nat.mul_ne_zero (As c4) (As c8)
 refine ⟨(r.z,((s.d:Nat):Int)),by
  rfl,by
  show nl r.z.natAbs<=1000/\nl ((s.d:Nat):Int).natAbs<=1000
  exact ⟨by omega,by rw [EB];omega⟩,?_⟩
 refine ⟨(s.z,((r.d:Nat):Int)),by
  rfl,by
  show nl s.z.natAbs<=1000/\nl ((r.d:Nat):Int).natAbs<=1000
  exact ⟨by omega,by rw [EB];omega⟩,?_⟩
 refine ⟨((r.z*((s.d:Nat):Int)),(s.z*((r.d:Nat):Int))),by
  rfl,by
  show nl (r.z*((s.d:Nat):Int)).natAbs<=1000/\nl (s.z*((r.d:Nat):Int)).natAbs<=1000
  exact ⟨by omega,by omega⟩,?_⟩
 refine ⟨(r.d,s.d),by
  rfl,by
  show nl r.d<=524288/\nl s.d<=524288
  exact ⟨by omega,by omega⟩,?_⟩
 refine ⟨(((r.z*((s.d:Nat):Int))+(s.z*((r.d:Nat):Int))),(r.d*s.d)),by
  rfl,by
  show (r.d*s.d)≠0/\nl ((r.z*((s.d:Nat):Int))+(s.z*((r.d:Nat):Int))).natAbs<=1000/\nl (r.d*s.d)<=1000
  exact ⟨by omega,by omega⟩,?_⟩
 refine BT ?_
 rw [hE];done
def Ax:Con:={ ι:=Fr×Fr,pre:=λ i=>True,args:=λ i=>[dF i.1,dF i.2],res:=λ i=>⟨false,[some 3],[rcB (decide ((Fr.mul i.1 i.2).z<0)),.own 3 [.int] (L (Fr.mul i.1 i.2).z.natAbs),.own 3 [.int] (L (Fr.mul i.1 i.2).d)]⟩ }
theorem JM:Ax.Ok Tryz.prog 269:=by
 refine fok (X:=⟨tt,[(214,AU),(216,BE),(265,Aw),(268,Bt)],[],25,[]⟩) AI AF (CTok.cons Du (CTok.cons JI (CTok.cons FP (CTok.cons Jy (CTok.nil _))))) Tryz.func269 (λ _=>[]) ?_
 rintro ⟨r,s⟩ hpre
 have hpre:True:=hpre
 refine AH (q:=∃ i1:Fr,[dF r]=AU.args i1/\AU.pre i1/\(ifB ((!(!i1.good))) (∃ i2:Fr,[dF s]=AU.args i2/\AU.pre i2/\(ifB ((!i2.good)) ((eqN (Fr.mul r s))) (∃ i3:Int×Int,[dB r.z,dB s.z]=BE.args i3/\BE.pre i3/\(∃ i4:Nat×Nat,[DA.one (cS (L r.d)),DA.one (cS (L s.d))]=Aw.args i4/\Aw.pre i4/\(∃ i5:Int×Nat,[dB (i3.1*i3.2),DA.one (cS (L (i4.1*i4.2)))]=Bt.args i5/\Bt.pre i5/\((eqC (Fr.mk' i5.1 i5.2) (Fr.mul r s)))))))) ((eqN (Fr.mul r s))))) (by kernel_rfl) ?_
 delta ifB
 have h1:=r.nlz
 have h2:=r.nld
 have h3:=s.nlz
 have h4:=s.nld
 refine ⟨r,by
  rfl,by
  trivial,?_⟩
 refine And.symm ⟨λ c4=>?_,λ c4=>?_⟩
 ·try simp only [nrm] at c4
  have hE:Fr.mul r s=Fr.none:=Fr.bin_bad _ (.inl (CO c4))
  refine A4 ?_
  rw [hE];done
 try simp only [nrm] at c4
 refine ⟨s,by
  rfl,by
  trivial,?_⟩
 refine ⟨λ c8=>?_,λ c8=>?_⟩
 ·try simp only [nrm] at c8
  have hE:Fr.mul r s=Fr.none:=Fr.bin_bad _ (.inr (CO c8))
  refine A4 ?_
  rw [hE];done
 try simp only [nrm] at c8
 have hE:=Fr.mul_zd (As c4) (As c8)
 have m1:=Bd r.z s.z
 have m4:=Ay r.d s.d
 have m5:r.d*s.d≠0:=Nat.mul_ne_zero (As c4) (As c8)
 refine ⟨(r.z,s.z),by
  rfl,by
  show nl r.z.natAbs<=1000/\nl s.z.natAbs<=1000
  exact ⟨by omega,by omega⟩,?_⟩
 refine ⟨(r.d,s.d),by
  rfl,by
  show nl r.d<=524288/\nl s.d<=524288
  exact ⟨by omega,by omega⟩,?_⟩
 refine ⟨((r.z*s.z),(r.d*s.d)),by
  rfl,by
  show (r.d*s.d)≠0/\nl (r.z*s.z).natAbs<=1000/\nl (r.d*s.d)<=1000
  exact ⟨by omega,by omega⟩,?_⟩
 refine BT ?_
 rw [hE];done
def Hn:Con:={ ι:=Fr×Fr,pre:=λ i=>True,args:=λ i=>[dF i.1,dF i.2],res:=λ i=>⟨false,[some 3],[rcB (decide ((Fr.div i.1 i.2).z<0)),.own 3 [.int] (L (Fr.div i.1 i.2).z.natAbs),.own 3 [.int] (L (Fr.div i.1 i.2).d)]⟩ }
theorem Vb:Hn.Ok Tryz.prog 221:=by
 refine fok (X:=⟨tt,[(214,AU),(216,BE),(264,A3),(265,Aw),(268,Bt)],[],44,[]⟩) AI AF (CTok.cons Du (CTok.cons JI (CTok.cons Hj (CTok.cons FP (CTok.cons Jy (CTok.nil _)))))) Tryz.func221 (λ _=>[]) ?_
 rintro ⟨r,s⟩ hpre
 have hpre:True:=hpre
 refine AH (q:=let Z1:=(eqN (Fr.div r s));∃ i1:Fr,[dF r]=AU.args i1/\AU.pre i1/\(ifB ((!(!i1.good))) (∃ i2:Fr,[dF s]=AU.args i2/\AU.pre i2/\(ifB ((!(!i2.good))) (ifB (((nI ((L s.z.natAbs).length)) == (0:Int))) Z1 (∃ i3:Int×Int,[dB r.z,DA.agg [cB false,cS (L s.d)]]=BE.args i3/\BE.pre i3/\(∃ i4:Bool×Nat,[DA.one (cB ((decide ((i3.1*i3.2)<0)) != (decide (s.z<0)))),DA.one (cS (L (i3.1*i3.2).natAbs))]=A3.args i4/\A3.pre i4/\(∃ i5:Nat×Nat,[DA.one (cS (L r.d)),DA.one (cS (L s.z.natAbs))]=Aw.args i5/\Aw.pre i5/\(∃ i6:Int×Nat,[dB (zOf i4.1 i4.2),DA.one (cS (L (i5.1*i5.2)))]=Bt.args i6/\Bt.pre i6/\((eqC (Fr.mk' i6.1 i6.2) (Fr.div r s)))))))) Z1)) Z1)) (by kernel_rfl) ?_
 conv=>zeta
 delta ifB nI
 have h1:=r.nlz
 have h2:=r.nld
 have h3:=s.nlz
 have h4:=s.nld
 refine ⟨r,by
  rfl,by
  trivial,?_⟩
 refine And.symm ⟨λ c4=>?_,λ c4=>?_⟩
 ·try simp only [nrm] at c4
  have hE:Fr.div r s=Fr.none:=Fr.div_bad (.inl (CO c4))
  refine A4 ?_
  rw [hE];done
 try simp only [nrm] at c4
 refine ⟨s,by
  rfl,by
  trivial,?_⟩
 refine And.symm ⟨λ c8=>?_,λ c8=>?_⟩
 ·try simp only [nrm] at c8
  have hE:Fr.div r s=Fr.none:=Fr.div_bad (.inr (.inl (CO c8)))
  refine A4 ?_
  rw [hE];done
 try simp only [nrm] at c8
 refine ⟨λ c9=>?_,λ c9=>?_⟩
 ·try simp only [nrm] at c9
  have hE:Fr.div r s=Fr.none:=Fr.div_bad (.inr (.inr (Zc (by omega))))
  refine A4 ?_
  rw [hE];done
 try simp only [nrm] at c9
 have hz:s.z≠0:=XT (by omega)
 have hE:=Fr.div_zd (As c4) (As c8) hz
 have m1:=Bd r.z ((s.d:Nat):Int)
 have m2:=Bd s.z ((r.d:Nat):Int)
 rw [EB] at m1 m2
 have m4:=Ay r.d s.z.natAbs
 have m5:r.d*s.z.natAbs≠0:=Nat.mul_ne_zero (As c4) (by omega)
 refine ⟨(r.z,((s.d:Nat):Int)),by
  rfl,by
  show nl r.z.natAbs<=1000/\nl ((s.d:Nat):Int).natAbs<=1000
  exact ⟨by omega,by rw [EB];omega⟩,?_⟩
 refine ⟨(((decide ((r.z*((s.d:Nat):Int))<0)) != (decide (s.z<0))),(r.z*((s.d:Nat):Int)).natAbs),by
  rfl,by
  trivial,?_⟩
 refine ⟨(r.d,s.z.natAbs),by
  rfl,by
  show nl r.d<=524288/\nl s.z.natAbs<=524288
  exact ⟨by omega,by omega⟩,?_⟩
 refine ⟨((zOf ((decide ((r.z*((s.d:Nat):Int))<0)) != (decide (s.z<0))) ((r.z*((s.d:Nat):Int)).natAbs)),(r.d*s.z.natAbs)),by
  rfl,by
  show (r.d*s.z.natAbs)≠0/\nl (zOf ((decide ((r.z*((s.d:Nat):Int))<0)) != (decide (s.z<0))) ((r.z*((s.d:Nat):Int)).natAbs)).natAbs<=1000/\nl (r.d*s.z.natAbs)<=1000
  exact ⟨m5,by rw [Ea];omega,by omega⟩,?_⟩
 refine BT ?_
 rw [hE];done
def Ho:Con:={ ι:=Fr,pre:=λ i=>True,args:=λ i=>[dF i],res:=λ i=>⟨false,[some 3],[rcB (decide (i.opp.z<0)),.view 3 [.int] (L i.opp.z.natAbs),.view 3 [.int] (L i.opp.d)]⟩ }
theorem Vc:Ho.Ok Tryz.prog 266:=by
 refine fok (X:=⟨tt,[(306,Hk)],[],9,[]⟩) AI AF (CTok.cons VX (CTok.nil _)) Tryz.func266 (λ _=>[]) ?_
 intro (r:Fr) hpre
 have hpre:True:=hpre
 refine AH (q:=∃ i1:Int,[dB r.z]=Hk.args i1/\Hk.pre i1/\((vB (decide ((-i1)<0))=vB (decide (r.opp.z<0)))/\(L (-i1).natAbs=L r.opp.z.natAbs)/\((L r.d)=L r.opp.d))) (by kernel_rfl) ?_
 delta vB
 refine ⟨r.z,by
  rfl,by
  trivial,?_⟩
 refine ⟨?_,?_,?_⟩
 ·rw [Fr.opp_z];done
 ·rw [Fr.opp_z];done
 rw [Fr.opp_d]
def AY:Con:={ ι:=Fr×Fr,pre:=λ i=>True,args:=λ i=>[dF i.1,dF i.2],res:=λ i=>⟨false,[some 3],[rcB (decide ((Fr.sub i.1 i.2).z<0)),.own 3 [.int] (L (Fr.sub i.1 i.2).z.natAbs),.own 3 [.int] (L (Fr.sub i.1 i.2).d)]⟩ }
theorem JN:AY.Ok Tryz.prog 219:=by
 refine fok (X:=⟨tt,[(266,Ho),(224,BR)],[],9,[]⟩) AI AF (CTok.cons Vc (CTok.cons JL (CTok.nil _))) Tryz.func219 (λ _=>[]) ?_
 rintro ⟨r,s⟩ hpre
 have hpre:True:=hpre
 refine AH (q:=∃ i1:Fr,[dF s]=Ho.args i1/\Ho.pre i1/\(∃ i2:Fr×Fr,[dF r,dF i1.opp]=BR.args i2/\BR.pre i2/\((eqC (Fr.add i2.1 i2.2) (Fr.sub r s))))) (by kernel_rfl) ?_
 refine ⟨s,by
  rfl,by
  trivial,?_⟩
 refine ⟨(r,s.opp),by
  rfl,by
  trivial,?_⟩
 refine BT ?_
 rw [Fr.sub_opp]
def Ab:Con:={ ι:=Fr×Fr,pre:=λ i=>True,args:=λ i=>[dF i.1,dF i.2],res:=λ i=>⟨false,[none],[rcI (Fr.cmp i.1 i.2)]⟩ }
theorem ES:Ab.Ok Tryz.prog 153:=by
 refine fok (X:=⟨tt,[(214,AU),(216,BE),(215,Hm)],[],26,[]⟩) AI AF (CTok.cons Du (CTok.cons JI (CTok.cons VZ (CTok.nil _)))) Tryz.func153 (λ _=>[]) ?_
 rintro ⟨r,s⟩ hpre
 have hpre:True:=hpre
 refine AH (q:=let Z1:=(vI (0:Int)=vI (Fr.cmp r s));∃ i1:Fr,[dF r]=AU.args i1/\AU.pre i1/\(ifB ((!(!i1.good))) (∃ i2:Fr,[dF s]=AU.args i2/\AU.pre i2/\(ifB ((!i2.good)) Z1 (∃ i3:Int×Int,[dB r.z,DA.agg [cB false,cS (L s.d)]]=BE.args i3/\BE.pre i3/\(∃ i4:Int×Int,[dB s.z,DA.agg [cB false,cS (L r.d)]]=BE.args i4/\BE.pre i4/\(∃ i5:Int×Int,[dB (i3.1*i3.2),dB (i4.1*i4.2)]=Hm.args i5/\Hm.pre i5/\((vI (CQ i5.1 i5.2)=vI (Fr.cmp r s)))))))) Z1)) (by kernel_rfl) ?_
 conv=>zeta
 delta ifB vI
 have h1:=r.nlz
 have h2:=r.nld
 have h3:=s.nlz
 have h4:=s.nld
 refine ⟨r,by
  rfl,by
  trivial,?_⟩
 refine And.symm ⟨λ c4=>?_,λ c4=>?_⟩
 ·try simp only [nrm] at c4
  have hE:Fr.cmp r s=0:=Fr.cmp_bad (.inl (CO c4))
  rw [hE];done
 try simp only [nrm] at c4
 refine ⟨s,by
  rfl,by
  trivial,?_⟩
 refine ⟨λ c8=>?_,λ c8=>?_⟩
 ·try simp only [nrm] at c8
  have hE:Fr.cmp r s=0:=Fr.cmp_bad (.inr (CO c8))
  rw [hE];done
 try simp only [nrm] at c8
 have hE:=Fr.cmp_zd (As c4) (As c8)
 have m1:=Bd r.z ((s.d:Nat):Int)
 have m2:=Bd s.z ((r.d:Nat):Int)
 rw [EB] at m1 m2
 
 refine ⟨(r.z,((s.d:Nat):Int)),by
  rfl,by
  show nl r.z.natAbs<=1000/\nl ((s.d:Nat):Int).natAbs<=1000
  exact ⟨by omega,by rw [EB];omega⟩,?_⟩
 refine ⟨(s.z,((r.d:Nat):Int)),by
  rfl,by
  show nl s.z.natAbs<=1000/\nl ((r.d:Nat):Int).natAbs<=1000
  exact ⟨by omega,by rw [EB];omega⟩,?_⟩
 refine ⟨((r.z*((s.d:Nat):Int)),(s.z*((r.d:Nat):Int))),by
  rfl,by
  show nl (r.z*((s.d:Nat):Int)).natAbs<=1000/\nl (s.z*((r.d:Nat):Int)).natAbs<=1000
  exact ⟨by omega,by omega⟩,?_⟩
 rw [hE];done
def F4:Con:={ ι:=Fr,pre:=λ i=>True,args:=λ i=>[dF i],res:=λ i=>⟨false,[none],[rcI i.sgn]⟩ }
theorem Sx:F4.Ok Tryz.prog 349:=by
 refine fok (X:=⟨tt,[(214,AU)],[],18,[]⟩) AI AF (CTok.cons Du (CTok.nil _)) Tryz.func349 (λ _=>[]) ?_
 intro (r:Fr) hpre
 have hpre:True:=hpre
 refine AH (q:=let Z1:=(vI (0:Int)=vI r.sgn);∃ i1:Fr,[dF r]=AU.args i1/\AU.pre i1/\(ifB ((!(!i1.good))) (ifB (((nI ((L r.z.natAbs).length)) == (0:Int))) Z1 (ifB (decide (r.z<0)) ((vI (-1:Int)=vI r.sgn)) ((vI (1:Int)=vI r.sgn)))) Z1)) (by kernel_rfl) ?_
 conv=>zeta
 delta ifB vI nI
 refine ⟨r,by
  rfl,by
  trivial,?_⟩
 refine And.symm ⟨λ c4=>?_,λ c4=>?_⟩
 ·try simp only [nrm] at c4
  have hz:r.z=0:=by rw [Fr.bad_z (CO c4)];rfl
  rw [Fr.sgn_z,hz];rfl
 try simp only [nrm] at c4
 refine ⟨λ c5=>?_,λ c5=>?_⟩
 ·try simp only [nrm] at c5
  have hz:r.z=0:=Zc (by omega)
  rw [Fr.sgn_z,hz];rfl
 try simp only [nrm] at c5
 have hz:r.z≠0:=XT (by omega)
 refine ⟨λ c7=>?_,λ c7=>?_⟩
 ·try simp only [nrm] at c7
  rw [Fr.sgn_z];unfold CQ;rw [if_pos (by omega)];done
 try simp only [nrm] at c7
 rw [Fr.sgn_z];unfold CQ;rw [if_neg (by omega),if_neg (by omega)];done
def Dh:Con:={ ι:=Fr×Fr,pre:=λ i=>True,args:=λ i=>[dF i.1,dF i.2],res:=λ i=>⟨false,[some 3],[rcB (decide ((Fr.min i.1 i.2).z<0)),.view 3 [.int] (L (Fr.min i.1 i.2).z.natAbs),.view 3 [.int] (L (Fr.min i.1 i.2).d)]⟩ }
theorem Or:Dh.Ok Tryz.prog 168:=by
 refine fok (X:=⟨tt,[(214,AU),(153,Ab)],[],22,[]⟩) AI AF (CTok.cons Du (CTok.cons ES (CTok.nil _))) Tryz.func168 (λ _=>[]) ?_
 rintro ⟨r,s⟩ hpre
 have hpre:True:=hpre
 refine AH (q:=let Z1:=Fr.min r s;∃ i1:Fr,[dF r]=AU.args i1/\AU.pre i1/\(ifB ((!(!i1.good))) (∃ i2:Fr,[dF s]=AU.args i2/\AU.pre i2/\(ifB ((!i2.good)) ((eqN Z1)) (∃ i3:Fr×Fr,[dF r,dF s]=Ab.args i3/\Ab.pre i3/\(ifB ((decide ((Fr.cmp i3.1 i3.2)<=(0:Int)))) ((eqC r Z1)) ((eqC s Z1)))))) ((eqN Z1)))) (by kernel_rfl) ?_
 conv=>zeta
 delta ifB
 refine ⟨r,by
  rfl,by
  trivial,?_⟩
 refine And.symm ⟨λ c4=>?_,λ c4=>?_⟩
 ·try simp only [nrm] at c4
  have hE:Fr.min r s=Fr.none:=Fr.bin_bad _ (.inl (CO c4))
  refine A4 ?_
  rw [hE];done
 try simp only [nrm] at c4
 refine ⟨s,by
  rfl,by
  trivial,?_⟩
 refine ⟨λ c8=>?_,λ c8=>?_⟩
 ·try simp only [nrm] at c8
  have hE:Fr.min r s=Fr.none:=Fr.bin_bad _ (.inr (CO c8))
  refine A4 ?_
  rw [hE];done
 try simp only [nrm] at c8
 refine ⟨(r,s),by
  rfl,by
  trivial,?_⟩
 refine ⟨λ c15=>?_,λ c15=>?_⟩
 ·try simp only [nrm] at c15
  have hE:Fr.min r s=r:=by rw [Fr.min_pick,if_neg (λ h=>h.elim (As c4) (As c8)),if_pos (by omega)]
  refine BT ?_
  rw [hE];done
 try simp only [nrm] at c15
 have hE:Fr.min r s=s:=by rw [Fr.min_pick,if_neg (λ h=>h.elim (As c4) (As c8)),if_neg (by omega)]
 refine BT ?_
 rw [hE];done
def Hp:Con:={ ι:=Fr×Fr,pre:=λ i=>True,args:=λ i=>[dF i.1,dF i.2],res:=λ i=>⟨false,[some 3],[rcB (decide ((Fr.max i.1 i.2).z<0)),.view 3 [.int] (L (Fr.max i.1 i.2).z.natAbs),.view 3 [.int] (L (Fr.max i.1 i.2).d)]⟩ }
theorem Vd:Hp.Ok Tryz.prog 169:=by
 refine fok (X:=⟨tt,[(214,AU),(153,Ab)],[],22,[]⟩) AI AF (CTok.cons Du (CTok.cons ES (CTok.nil _))) Tryz.func169 (λ _=>[]) ?_
 rintro ⟨r,s⟩ hpre
 have hpre:True:=hpre
 refine AH (q:=let Z1:=Fr.max r s;∃ i1:Fr,[dF r]=AU.args i1/\AU.pre i1/\(ifB ((!(!i1.good))) (∃ i2:Fr,[dF s]=AU.args i2/\AU.pre i2/\(ifB ((!i2.good)) ((eqN Z1)) (∃ i3:Fr×Fr,[dF r,dF s]=Ab.args i3/\Ab.pre i3/\(ifB ((decide ((Fr.cmp i3.1 i3.2)≥(0:Int)))) ((eqC r Z1)) ((eqC s Z1)))))) ((eqN Z1)))) (by kernel_rfl) ?_
 conv=>zeta
 delta ifB
 refine ⟨r,by
  rfl,by
  trivial,?_⟩
 refine And.symm ⟨λ c4=>?_,λ c4=>?_⟩
 ·try simp only [nrm] at c4
  have hE:Fr.max r s=Fr.none:=Fr.bin_bad _ (.inl (CO c4))
  refine A4 ?_
  rw [hE];done
 try simp only [nrm] at c4
 refine ⟨s,by
  rfl,by
  trivial,?_⟩
 refine ⟨λ c8=>?_,λ c8=>?_⟩
 ·try simp only [nrm] at c8
  have hE:Fr.max r s=Fr.none:=Fr.bin_bad _ (.inr (CO c8))
  refine A4 ?_
  rw [hE];done
 try simp only [nrm] at c8
 refine ⟨(r,s),by
  rfl,by
  trivial,?_⟩
 refine ⟨λ c15=>?_,λ c15=>?_⟩
 ·try simp only [nrm] at c15
  have hE:Fr.max r s=r:=by rw [Fr.max_pick,if_neg (λ h=>h.elim (As c4) (As c8)),if_pos (by omega)]
  refine BT ?_
  rw [hE];done
 try simp only [nrm] at c15
 have hE:Fr.max r s=s:=by rw [Fr.max_pick,if_neg (λ h=>h.elim (As c4) (As c8)),if_neg (by omega)]
 refine BT ?_
 rw [hE];done
def ET:Con:={ ι:=(List (List Dat)),pre:=λ i=>i.length<=9223372036854775807,args:=λ i=>[.one (cS i)],res:=λ i=>⟨false,[none],[rcB (BO i)]⟩ }
theorem RP:ET.Ok Tryz.prog 348:=by
 refine fok (X:=⟨tt,[(355,JE)],[],22,[]⟩) AI AF (CTok.cons XG (CTok.nil _)) Tryz.func348 (λ _=>[]) ?_
 intro (l:List (List Dat)) hpre
 have hpre:l.length<=9223372036854775807:=hpre
 refine AH (q:=let Z2:=(vB false=vB (BO l));let Z1:=wR ((nI l.length)-(1:Int));ifB ((!(decide ((nI l.length)>(60:Int))))) (∃ i1:(List (List Dat)),[DA.one (cS l),DA.one (DC.ro (.fn 356 []))]=JE.args i1/\JE.pre i1/\(ifB ((i1.any (λ r=>!(inB (rn r))))) Z2 (ifB ((!((nI l.length) == (0:Int)))) ((0<=Z1/\Z1<(l.length:Int))/\((Z1.toNat<l.length)/\((vB ((((l.getD (Z1.toNat) []).getD 0 (.int 0))).n != (0:Int))=vB (BO l))))) ((vB true=vB (BO l)))))) Z2) (by kernel_rfl) ?_
 conv=>zeta
 delta ifB vB wR nI
 refine And.symm ⟨λ c1=>?_,λ c1=>?_⟩
 ·try simp only [nrm] at c1
  have hE:=NY (l:=l) (by omega)
  rw [hE]
 try simp only [nrm] at c1
 refine ⟨l,by
  rfl,by
  trivial,?_⟩
 refine ⟨λ c5=>?_,λ c5=>?_⟩
 ·try simp only [nrm] at c5
  have hE:=NZ c5
  rw [hE]
 try simp only [nrm] at c5
 refine And.symm ⟨λ c7=>?_,λ c7=>?_⟩
 ·try simp only [nrm] at c7
  have hE:=Na (l:=l) (by omega)
  rw [hE]
 try simp only [nrm] at c7
 have hE:=Lq (l:=l) (by omega) c5 (by omega)
 have hw:(IntKind.i64.wrap (((l.length:Nat):Int)-(1:Int)))=((l.length-1:Nat):Int):=by rw [AD (by omega) (by omega)];omega
 refine ao (by rw [hw];omega) λ o8=>?_
 refine ao (by rw [hw];omega) λ o9=>?_
 rw [hw,Int.toNat_natCast,hE];rfl
def FA:Con:={ ι:=Bool×(List (List Dat)),pre:=λ i=>i.2.length<=9223372036854775807,args:=λ i=>[DA.agg [cB i.1,cS i.2]],res:=λ i=>⟨false,[none],[rcB (CK i.1 i.2)]⟩ }
theorem RQ:FA.Ok Tryz.prog 347:=by
 refine fok (X:=⟨tt,[(348,ET)],[],17,[]⟩) AI AF (CTok.cons RP (CTok.nil _)) Tryz.func347 (λ _=>[]) ?_
 rintro ⟨neg,m⟩ hpre
 have hpre:m.length<=9223372036854775807:=hpre
 refine AH (q:=let Z1:=CK neg m;∃ i1:(List (List Dat)),[DA.one (cS m)]=ET.args i1/\ET.pre i1/\(ifB ((BO i1)) (ifB (neg) ((vB (!((nI m.length) == (0:Int)))=vB Z1)) ((vB (!false)=vB Z1))) ((vB false=vB Z1)))) (by kernel_rfl) ?_
 conv=>zeta
 delta ifB vB nI
 refine ⟨m,by
  rfl,by
  trivial,?_⟩
 refine And.symm ⟨λ c4=>?_,λ c4=>?_⟩
 ·try simp only [nrm] at c4
  unfold CK;rw [c4];rfl
 try simp only [nrm] at c4
 refine ⟨λ c5=>?_,λ c5=>?_⟩
 ·try simp only [nrm] at c5
  rw [c5,Nb c4];done
 try simp only [nrm] at c5
 unfold CK;rw [c4,c5];rfl
def DG:Con:={ ι:=Bool×(List (List Dat))×(List (List Dat)),pre:=λ i=>Dat.has (.sl 3 [.int]) (.sl i.2.1)/\Dat.has (.sl 3 [.int]) (.sl i.2.2)/\i.2.1.length<=9223372036854775807/\i.2.2.length<=9223372036854775807,args:=λ i=>[DA.agg [cB i.1,cS i.2.1,cS i.2.2]],res:=λ i=>⟨false,[none],[rcB (Ap i.1 i.2.1 i.2.2)]⟩ }
theorem RR:DG.Ok Tryz.prog 327:=by
 refine fok (X:=⟨tt,[(347,FA),(348,ET),(308,CW),(309,Dg)],[],44,[]⟩) AI AF (CTok.cons RQ (CTok.cons RP (CTok.cons RN (CTok.cons Oq (CTok.nil _))))) Tryz.func327 (λ _=>[]) ?_
 rintro ⟨neg,m,d⟩ hpre
 have hpre:Dat.has (.sl 3 [.int]) (.sl m)/\Dat.has (.sl 3 [.int]) (.sl d)/\m.length<=9223372036854775807/\d.length<=9223372036854775807:=hpre
 refine AH (q:=let Z2:=Ap neg m d;let Z1:=(vB false=vB Z2);∃ i1:Bool×(List (List Dat)),[DA.agg [cB neg,cS m]]=FA.args i1/\FA.pre i1/\(ifB ((!(!(CK i1.1 i1.2)))) (∃ i2:(List (List Dat)),[DA.one (cS d)]=ET.args i2/\ET.pre i2/\(ifB ((!(!(BO i2)))) (ifB ((!((nI d.length) == (0:Int)))) (ifB ((!(decide ((nI m.length)>(24:Int))))) (ifB ((decide ((nI d.length)>(24:Int)))) Z1 (∃ i3:Nat,[DA.one (cS d)]=CW.args i3/\CW.pre i3/\(ifB ((!(decide (i3=1)))) (∃ i4:Nat×Nat,[DA.one (cS m),DA.one (cS d)]=Dg.args i4/\Dg.pre i4/\(∃ i5:Nat,[DA.one (cS (L (i4.1.gcd i4.2)))]=CW.args i5/\CW.pre i5/\((vB (decide (i5=1))=vB Z2)))) ((vB true=vB Z2))))) Z1) Z1) Z1)) Z1)) (by kernel_rfl) ?_
 conv=>zeta
 delta ifB vB nI
 refine ⟨(neg,m),by
  rfl,by
  show m.length<=9223372036854775807
  omega,?_⟩
 refine And.symm ⟨λ c4=>?_,λ c4=>?_⟩
 ·try simp only [nrm] at c4
  have hE:Ap neg m d=false:=Ck (.inl c4)
  rw [hE]
 try simp only [nrm] at c4
 refine ⟨d,by
  rfl,by
  show d.length<=9223372036854775807
  omega,?_⟩
 refine And.symm ⟨λ c8=>?_,λ c8=>?_⟩
 ·try simp only [nrm] at c8
  have hE:Ap neg m d=false:=Ck (.inr (.inl c8))
  rw [hE]
 try simp only [nrm] at c8
 refine And.symm ⟨λ c9=>?_,λ c9=>?_⟩
 ·try simp only [nrm] at c9
  have hE:Ap neg m d=false:=Ck (.inr (.inr (.inl (by omega))))
  rw [hE]
 try simp only [nrm] at c9
 refine And.symm ⟨λ c10=>?_,λ c10=>?_⟩
 ·try simp only [nrm] at c10
  have hE:Ap neg m d=false:=Ck (.inr (.inr (.inr (.inl (by omega)))))
  rw [hE]
 try simp only [nrm] at c10
 refine ⟨λ c11=>?_,λ c11=>?_⟩
 ·try simp only [nrm] at c11
  have hE:Ap neg m d=false:=Ck (.inr (.inr (.inr (.inr (by omega)))))
  rw [hE]
 try simp only [nrm] at c11
 obtain ⟨a,ea,na⟩:=EP hpre.1 (Nc c4)
 obtain ⟨b,eb,nb⟩:=EP hpre.2.1 c8
 have hE:=Nd c4 c8 (by omega) (by omega) (by omega)
 refine ⟨b,by
  rw [eb];rfl,by
  trivial,?_⟩
 refine And.symm ⟨λ c16=>?_,λ c16=>?_⟩
 ·try simp only [nrm] at c16
  rw [hE,ea,eb,Ez,Ez]
  exact congrArg Value.bool (decide_eq_true (by rw [c16];exact Nat.gcd_one_right a)).symm
 try simp only [nrm] at c16
 refine ⟨(a,b),by
  rw [ea,eb];rfl,by
  show nl a<=131072/\nl b<=131072
  exact ⟨by omega,by omega⟩,?_⟩
 refine ⟨(a.gcd b),by
  rfl,by
  trivial,?_⟩
 rw [hE,ea,eb,Ez,Ez]
end Go.Proofs.YtmedodfenejimaaGreat
