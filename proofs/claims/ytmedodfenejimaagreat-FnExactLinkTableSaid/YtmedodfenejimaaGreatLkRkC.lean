import Derived.Test.YtmedodfenejimaaGreatLkRkM
import Derived.Test.YtmedodfenejimaaGreatLkNum3
namespace Go.Proofs.YtmedodfenejimaaGreat
set_option maxRecDepth 100000
set_option linter.unusedVariables false
set_option linter.unusedSimpArgs false
open Go.RowKit
theorem Tw (n:Nat):decide (((n:Nat):Int)<0)=false:=decide_eq_false (by omega)
theorem Vs (r:Fr):decide ((((L r.d).length:Nat):Int)>(0:Int))=r.good:=by
 rw [← Fr.d_good'];congr 1;apply propext;omega
theorem PZ:nl 1=1:=Te (by decide) (by decide)
theorem DX {z:Int} {d:Nat} (hd:d≠0) (h1:nl (z.natAbs/z.natAbs.gcd d)<=24) (h2:nl (d/z.natAbs.gcd d)<=24) :
  decide ((Fr.mk' z d).z<0)=decide (z<0)/\(Fr.mk' z d).z.natAbs=z.natAbs/z.natAbs.gcd d/\(Fr.mk' z d).d=d/z.natAbs.gcd d:=by
 have hv:(Fr.mk' z d).v=some (mkRat z d):=Cn (ET.2 ⟨by rw [GA hd];exact h1,by rw [(Ff hd).2];exact h2⟩)
 exact ⟨by rw [Fr.z_some hv,Rq hd],by rw [Fr.z_some hv,GA hd],by rw [Fr.d_some hv,(Ff hd).2]⟩
theorem Fl {n:Int} (h:nl n.natAbs<=24):(Fr.ofInt n).z=n/\(Fr.ofInt n).d=1:=by
 rw [Fr.z_some (Jl h),Fr.d_some (Jl h),Rat.num_intCast,Rat.den_intCast];exact ⟨rfl,rfl⟩
theorem Jr (neg:Bool) (m:Nat):decide (zOf neg m<0)=(neg && decide ((((L m).length:Nat):Int)>(0:Int))):=by
 rw [Ts];congr 2;apply propext;omega
theorem Eo {r:Fr} (h:r.good=false):r.d=0:=Classical.byContradiction λ h2=>by rw [Fr.d_good.2 h2] at h;cases h
theorem Bx {r:Fr} (h:r.good=true):r.d≠0:=Fr.d_good.1 h
theorem Wt {z:Int} (h:(L z.natAbs).length=0):z=0:=by
 rw [AN] at h
 have:=Ca.1 h
 omega
theorem VO {z:Int} (h:(L z.natAbs).length≠0):z≠0:=by
 rintro rfl
 exact h (by rw [AN];exact B0)
theorem Qx (l:List (List Dat)):l.all (λ r=>inB (rn r))=!(l.any λ r=>!(inB (rn r))):=by rw [List.all_eq_not_any_not]
theorem K5 {l:List (List Dat)} (h:60<l.length):Ay l=false:=by
 unfold Ay;rw [decide_eq_false (show ¬ l.length<=60 by omega)];rfl
theorem K6 {l:List (List Dat)} (h:(l.any λ r=>!(inB (rn r)))=true):Ay l=false:=by
 unfold Ay;rw [Qx,h];simp
theorem K7 {l:List (List Dat)} (h:l.length=0):Ay l=true:=by
 rw [List.eq_nil_of_length_eq_zero h];rfl
theorem Ja {l:List (List Dat)} (h1:l.length<=60) (h:(l.any λ r=>!(inB (rn r)))=false) (h0:l.length≠0):Ay l=(rn (l.getD (l.length-1) []) != 0):=by
 unfold Ay
 rw [Qx,h,decide_eq_true h1,decide_eq_false h0]
 generalize rn (l.getD (l.length-1) [])=v
 by_cases hv:v=0 <;> simp [hv]
theorem K8 {m:List (List Dat)} (h:Ay m=true):BZ true m=!(((m.length:Nat):Int) == (0:Int)):=by
 unfold BZ;rw [h]
 by_cases hv:m.length=0
 ·rw [hv];rfl
 ·have:((((m.length:Nat):Int)) == (0:Int))=false:=by rw [beq_eq_false_iff_ne];omega
  rw [this];simp [hv]
theorem K9 {neg:Bool} {m:List (List Dat)} (h:BZ neg m=true):Ay m=true:=by
 unfold BZ at h;rw [Bool.and_eq_true] at h;exact h.1
theorem Bv {neg:Bool} {m d:List (List Dat)} (h:BZ neg m=false∨Ay d=false∨d.length=0∨24<m.length∨24<d.length):AZ neg m d=false:=by
 unfold AZ
 rcases h with h|h|h|h|h
 ·rw [h];rfl
 ·rw [h];simp
 ·simp [h]
 ·rw [decide_eq_false (show ¬ m.length<=24 by omega)];simp
 ·rw [decide_eq_false (show ¬ d.length<=24 by omega)];simp
theorem LA {neg:Bool} {m d:List (List Dat)} (h1:BZ neg m=true) (h2:Ay d=true) (h3:d.length≠0) (h4:m.length<=24) (h5:d.length<=24):AZ neg m d=decide ((N7 m).gcd (N7 d)=1):=by
 unfold AZ;rw [h1,h2,decide_eq_false h3,decide_eq_true h4,decide_eq_true h5];rfl
theorem FQ {n:Int} (h:-9223372036854775808<=n/\n<=9223372036854775807):nl n.natAbs<=24:=(DI _ _).2 (Nat.lt_of_le_of_lt (show n.natAbs<=9223372036854775808 by omega) (by decide))
theorem Qy {a b:Nat} (h:b≠0):a.gcd b≠0/\nl (a.gcd b)<=nl b:=⟨λ e=>h (Nat.eq_zero_of_gcd_eq_zero_right e),C5 (Nat.gcd_le_right _ (Nat.pos_of_ne_zero h))⟩
def Ah:Con:={ ι:=(List (List Dat)),pre:=λ i=>i.length<=1073741824,args:=λ i=>[.one (cS i)],res:=λ i=>⟨false,[none],[.own 3 [.int] i]⟩ }
theorem GG:Ah.Ok Tryz.prog 196:=by
 refine fok (X:=⟨tt,[],[],8,[]⟩) mixed AH (CTok.nil _) Tryz.func196 (λ _=>[]) ?_
 intro (ls:List (List Dat)) hpre
 have hpre:ls.length<=1073741824:=hpre
 refine AI (q:=∀ b1:Bool,(b1=true->ls=[])->(ifB (b1) ((([]:List (List Dat))=ls)) ((([]:List (List Dat)).length+ls.length<=1073741824)/\(((([]:List (List Dat))++ls)=ls))))) (by kernel_rfl) ?_
 delta ifB
 intro b1 q1
 refine ⟨λ c2=>?_,λ c2=>?_⟩
 ·try simp only [nrm] at c2
  rw [q1 c2]
 try simp only [nrm] at c2
 refine ao (by simp;omega) λ o4=>?_
 rfl
def Bj:Con:={ ι:=Nat,pre:=λ i=>True,args:=λ i=>[.one (cS (L i))],res:=λ i=>⟨false,[none],[rcB (decide (i=1))]⟩ }
theorem N8:Bj.Ok Tryz.prog 308:=by
 refine fok (X:=⟨tt,[],[],12,[]⟩) mixed AH (CTok.nil _) Tryz.func308 (λ _=>[]) ?_
 intro (a:Nat) hpre
 have hpre:True:=hpre
 refine AI (q:=ifB (((nI ((L a).length)) == (1:Int))) ((0<=(0:Int)/\(0:Int)<((L a).length:Int))/\((0<(L a).length)/\((vB (((((L a).getD 0 []).getD 0 (.int 0))).n == (1:Int))=vB (decide (a=1)))))) ((vB false=vB (decide (a=1))))) (by kernel_rfl) ?_
 delta ifB vB nI
 have ha:=AN a
 refine And.symm ⟨λ c1=>?_,λ c1=>?_⟩
 ·try simp only [nrm] at c1
  exact congrArg Value.bool (decide_eq_false (λ e=>by subst e;rw [PZ] at ha;omega)).symm
 try simp only [nrm] at c1
 have h1:=G7 (b:=a) (by omega)
 refine ao (by omega) λ o2=>?_
 refine ao (by omega) λ o3=>?_
 rw [L_n,h1.1]
 exact congrArg Value.bool (by rw [Bool.eq_iff_iff,beq_iff_eq,decide_eq_true_iff];omega)
def Aw:Con:={ ι:=Bool×Nat,pre:=λ i=>True,args:=λ i=>[.one (cB i.1),.one (cS (L i.2))],res:=λ i=>⟨false,[some 2],[rcB (decide ((zOf i.1 i.2)<0)),.view 3 [.int] (L (zOf i.1 i.2).natAbs)]⟩ }
theorem Hy:Aw.Ok Tryz.prog 264:=by
 refine fok (X:=⟨tt,[],[],13,[]⟩) mixed AH (CTok.nil _) Tryz.func264 (λ _=>[]) ?_
 rintro ⟨neg,m⟩ hpre
 have hpre:True:=hpre
 refine AI (q:=let Z2:=decide ((zOf neg m)<0);let Z1:=(L m)=L (zOf neg m).natAbs;ifB (neg) ((vB (decide ((nI ((L m).length))>(0:Int)))=vB Z2)/\Z1) ((vB false=vB Z2)/\Z1)) (by kernel_rfl) ?_
 conv=>zeta
 delta ifB vB nI
 refine ⟨λ c1=>?_,λ c1=>?_⟩
 ·try simp only [nrm] at c1
  refine ⟨?_,?_⟩
  ·rw [Jr,c1];rfl
  rw [D2]
 try simp only [nrm] at c1
 refine ⟨?_,?_⟩
 ·rw [Jr,c1];rfl
 rw [D2]
def GH:Con:={ ι:=Int,pre:=λ i=>True,args:=λ i=>[dB i],res:=λ i=>⟨false,[some 2],[rcB (decide ((-i)<0)),.view 3 [.int] (L (-i).natAbs)]⟩ }
theorem Rx:GH.Ok Tryz.prog 306:=by
 refine fok (X:=⟨tt,[(264,Aw)],[],9,[]⟩) mixed AH (CTok.cons Hy (CTok.nil _)) Tryz.func306 (λ _=>[]) ?_
 intro (z:Int) hpre
 have hpre:True:=hpre
 refine AI (q:=∃ i1:Bool×Nat,[DA.one (cB (!(decide (z<0)))),DA.one (cS (L z.natAbs))]=Aw.args i1/\Aw.pre i1/\((vB (decide ((zOf i1.1 i1.2)<0))=vB (decide ((-z)<0)))/\(L (zOf i1.1 i1.2).natAbs=L (-z).natAbs))) (by kernel_rfl) ?_
 delta vB
 refine ⟨((!(decide (z<0))),z.natAbs),by
  rfl,by
  trivial,?_⟩
 refine ⟨?_,?_⟩
 ·rw [Ms]
 rw [Ms]
def GI:Con:={ ι:=Int×Int,pre:=λ i=>nl i.1.natAbs<=1000/\nl i.2.natAbs<=1000,args:=λ i=>[dB i.1,dB i.2],res:=λ i=>⟨false,[some 2],[rcB (decide ((i.1+i.2)<0)),.view 3 [.int] (L (i.1+i.2).natAbs)]⟩ }
theorem Ry:GI.Ok Tryz.prog 270:=by
 refine fok (X:=⟨tt,[(251,Cb),(264,Aw),(263,Ad),(312,BY)],[],42,[]⟩) mixed AH (CTok.cons MC (CTok.cons Hy (CTok.cons HY (CTok.cons MD (CTok.nil _))))) Tryz.func270 (λ _=>[]) ?_
 rintro ⟨x,y⟩ hpre
 have hpre:nl x.natAbs<=1000/\nl y.natAbs<=1000:=hpre
 refine AI (q:=let Z4:=decide (x<0);let Z3:=decide ((x+y)<0);let Z2:=cS (L y.natAbs);let Z1:=cS (L x.natAbs);ifB ((Z4 == (decide (y<0)))) (∃ i1:Nat×Nat,[DA.one Z1,DA.one Z2]=Cb.args i1/\Cb.pre i1/\(∃ i2:Bool×Nat,[DA.one (cB Z4),DA.one (cS (L (i1.1+i1.2)))]=Aw.args i2/\Aw.pre i2/\((vB (decide ((zOf i2.1 i2.2)<0))=vB Z3)/\(L (zOf i2.1 i2.2).natAbs=L (x+y).natAbs)))) (∃ i3:Nat×Nat,[DA.one Z1,DA.one Z2]=Ad.args i3/\Ad.pre i3/\(ifB ((decide ((BP i3.1 i3.2)≥(0:Int)))) (∃ i4:Nat×Nat,[DA.one Z1,DA.one Z2]=BY.args i4/\BY.pre i4/\(∃ i5:Bool×Nat,[DA.one (cB Z4),DA.one (cS (L (i4.1-i4.2)))]=Aw.args i5/\Aw.pre i5/\((vB (decide ((zOf i5.1 i5.2)<0))=vB Z3)/\(L (zOf i5.1 i5.2).natAbs=L (x+y).natAbs)))) (∃ i6:Nat×Nat,[DA.one Z2,DA.one Z1]=BY.args i6/\BY.pre i6/\(∃ i7:Bool×Nat,[DA.one (cB (decide (y<0))),DA.one (cS (L (i6.1-i6.2)))]=Aw.args i7/\Aw.pre i7/\((vB (decide ((zOf i7.1 i7.2)<0))=vB Z3)/\(L (zOf i7.1 i7.2).natAbs=L (x+y).natAbs))))))) (by kernel_rfl) ?_
 conv=>zeta
 delta ifB vB
 refine ⟨λ c1=>?_,λ c1=>?_⟩
 ·try simp only [nrm] at c1
  refine ⟨(x.natAbs,y.natAbs),by
   rfl,by
   show nl x.natAbs<=1048576/\nl y.natAbs<=1048576
   exact ⟨by omega,by omega⟩,?_⟩
  refine ⟨(decide (x<0),(x.natAbs+y.natAbs)),by
   rfl,by
   trivial,?_⟩
  refine ⟨?_,?_⟩
  ·rw [K3 c1]
  rw [K3 c1]
 try simp only [nrm] at c1
 refine ⟨(x.natAbs,y.natAbs),by
  rfl,by
  show nl x.natAbs<=1048576/\nl y.natAbs<=1048576
  exact ⟨by omega,by omega⟩,?_⟩
 refine ⟨λ c13=>?_,λ c13=>?_⟩
 ·try simp only [nrm] at c13
  refine ⟨(x.natAbs,y.natAbs),by
   rfl,by
   show nl x.natAbs<=1048576/\nl y.natAbs<=1048576/\y.natAbs<=x.natAbs
   exact ⟨by omega,by omega,EU.1 c13⟩,?_⟩
  refine ⟨(decide (x<0),(x.natAbs-y.natAbs)),by
   rfl,by
   trivial,?_⟩
  refine ⟨?_,?_⟩
  ·rw [IX c1 (EU.1 c13)]
  rw [IX c1 (EU.1 c13)]
 try simp only [nrm] at c13
 refine ⟨(y.natAbs,x.natAbs),by
  rfl,by
  show nl y.natAbs<=1048576/\nl x.natAbs<=1048576/\x.natAbs<=y.natAbs
  exact ⟨by omega,by omega,Nat.le_of_lt (C6.1 c13)⟩,?_⟩
 refine ⟨(decide (y<0),(y.natAbs-x.natAbs)),by
  rfl,by
  trivial,?_⟩
 refine ⟨?_,?_⟩
 ·rw [K4 c1 (Nat.le_of_lt (C6.1 c13))]
 rw [K4 c1 (Nat.le_of_lt (C6.1 c13))]
def A2:Con:={ ι:=Int×Int,pre:=λ i=>nl i.1.natAbs<=1000/\nl i.2.natAbs<=1000,args:=λ i=>[dB i.1,dB i.2],res:=λ i=>⟨false,[some 2],[rcB (decide ((i.1*i.2)<0)),.view 3 [.int] (L (i.1*i.2).natAbs)]⟩ }
theorem I8:A2.Ok Tryz.prog 216:=by
 refine fok (X:=⟨tt,[(265,An),(264,Aw)],[],16,[]⟩) mixed AH (CTok.cons Fk (CTok.cons Hy (CTok.nil _))) Tryz.func216 (λ _=>[]) ?_
 rintro ⟨x,y⟩ hpre
 have hpre:nl x.natAbs<=1000/\nl y.natAbs<=1000:=hpre
 refine AI (q:=∃ i1:Nat×Nat,[DA.one (cS (L x.natAbs)),DA.one (cS (L y.natAbs))]=An.args i1/\An.pre i1/\(∃ i2:Bool×Nat,[DA.one (cB ((decide (x<0)) != (decide (y<0)))),DA.one (cS (L (i1.1*i1.2)))]=Aw.args i2/\Aw.pre i2/\((vB (decide ((zOf i2.1 i2.2)<0))=vB (decide ((x*y)<0)))/\(L (zOf i2.1 i2.2).natAbs=L (x*y).natAbs)))) (by kernel_rfl) ?_
 delta vB
 refine ⟨(x.natAbs,y.natAbs),by
  rfl,by
  show nl x.natAbs<=524288/\nl y.natAbs<=524288
  exact ⟨by omega,by omega⟩,?_⟩
 refine ⟨(((decide (x<0)) != (decide (y<0))),(x.natAbs*y.natAbs)),by
  rfl,by
  trivial,?_⟩
 refine ⟨?_,?_⟩
 ·rw [Jq]
 rw [Jq]
def GJ:Con:={ ι:=Int×Int,pre:=λ i=>nl i.1.natAbs<=1000/\nl i.2.natAbs<=1000,args:=λ i=>[dB i.1,dB i.2],res:=λ i=>⟨false,[none],[rcI (Bf i.1 i.2)]⟩ }
theorem Rz:GJ.Ok Tryz.prog 215:=by
 refine fok (X:=⟨tt,[(263,Ad)],[],28,[]⟩) mixed AH (CTok.cons HY (CTok.nil _)) Tryz.func215 (λ _=>[]) ?_
 rintro ⟨x,y⟩ hpre
 have hpre:nl x.natAbs<=1000/\nl y.natAbs<=1000:=hpre
 refine AI (q:=let Z5:=decide (y<0);let Z4:=decide (x<0);let Z3:=cS (L x.natAbs);let Z2:=cS (L y.natAbs);let Z1:=Bf x y;let Z7:=(vI (1:Int)=vI Z1);let Z6:=(vI (-1:Int)=vI Z1);ifB Z4 (ifB Z5 (∃ i1:Nat×Nat,[DA.one Z2,DA.one Z3]=Ad.args i1/\Ad.pre i1/\((vI (BP i1.1 i1.2)=vI Z1))) (ifB Z4 Z6 (ifB Z5 Z7 (∃ i2:Nat×Nat,[DA.one Z3,DA.one Z2]=Ad.args i2/\Ad.pre i2/\((vI (BP i2.1 i2.2)=vI Z1)))))) (ifB Z4 Z6 (ifB Z5 Z7 (∃ i3:Nat×Nat,[DA.one Z3,DA.one Z2]=Ad.args i3/\Ad.pre i3/\((vI (BP i3.1 i3.2)=vI Z1)))))) (by kernel_rfl) ?_
 conv=>zeta
 delta ifB vI
 refine And.symm ⟨λ c1=>?_,λ c1=>?_⟩
 ·try simp only [nrm] at c1
  refine ⟨λ c15=>?_,λ c15=>?_⟩
  ·try simp only [nrm] at c15
   exfalso;omega
  try simp only [nrm] at c15
  refine ⟨λ c17=>?_,λ c17=>?_⟩
  ·try simp only [nrm] at c17
   rw [← Qw (by omega) (by omega)]
  try simp only [nrm] at c17
  refine ⟨(x.natAbs,y.natAbs),by
   rfl,by
   show nl x.natAbs<=1048576/\nl y.natAbs<=1048576
   exact ⟨by omega,by omega⟩,?_⟩
  rw [Qu (by omega) (by omega)]
 try simp only [nrm] at c1
 refine ⟨λ c2=>?_,λ c2=>?_⟩
 ·try simp only [nrm] at c2
  refine ⟨(y.natAbs,x.natAbs),by
   rfl,by
   show nl y.natAbs<=1048576/\nl x.natAbs<=1048576
   exact ⟨by omega,by omega⟩,?_⟩
  rw [Qt (by omega) (by omega)]
 try simp only [nrm] at c2
 refine ⟨λ c7=>?_,λ c7=>?_⟩
 ·try simp only [nrm] at c7
  rw [← Qv (by omega) (by omega)]
 try simp only [nrm] at c7
 refine ⟨λ c9=>?_,λ c9=>?_⟩
 ·try simp only [nrm] at c9
  exfalso;omega
 try simp only [nrm] at c9
 refine ⟨(x.natAbs,y.natAbs),by
  rfl,by
  exact ⟨by omega,by omega⟩,?_⟩
 exfalso;omega
def CB:Con:={ ι:=Bool×Nat,pre:=λ i=>nl i.2<=60,args:=λ i=>[DA.agg [cB i.1,cS (L i.2)]],res:=λ i=>⟨false,[some 2],[rcB i.1,.own 3 [.int] (L i.2)]⟩ }
theorem R0:CB.Ok Tryz.prog 311:=by
 refine fok (X:=⟨tt,[(196,Ah)],[],14,[]⟩) mixed AH (CTok.cons GG (CTok.nil _)) Tryz.func311 (λ _=>[]) ?_
 rintro ⟨neg,m⟩ hpre
 have hpre:nl m<=60:=hpre
 refine AI (q:=ifB ((decide ((nI ((L m).length))>(60:Int)))) ((vB false=vB neg)/\(([]:List (List Dat))=L m)) (∃ i1:(List (List Dat)),[DA.one (cS (L m))]=Ah.args i1/\Ah.pre i1/\((vB neg=vB neg)/\(i1=L m)))) (by kernel_rfl) ?_
 delta ifB vB nI
 have hm:=AN m
 refine ⟨λ c1=>?_,λ c1=>?_⟩
 ·try simp only [nrm] at c1
  refine ⟨?_,?_⟩
  ·exfalso;omega
  exfalso;omega
 try simp only [nrm] at c1
 refine ⟨(L m),by
  rfl,by
  show (L m).length<=1073741824
  omega,?_⟩
 exact ⟨rfl,rfl⟩
def Hb:Con:={ ι:=Int,pre:=λ i=>-9223372036854775808<=i/\i<=9223372036854775807,args:=λ i=>[.one (cI i)],res:=λ i=>⟨false,[some 2],[rcB (decide (i<0)),.own 3 [.int] (L i.natAbs)]⟩ }
theorem Tx:Hb.Ok Tryz.prog 195:=by
 refine fok (X:=⟨tt,[(250,Ap),(251,Cb)],[],18,[]⟩) mixed AH (CTok.cons Ky (CTok.cons MC (CTok.nil _))) Tryz.func195 (λ _=>[]) ?_
 intro (n:Int) hpre
 have hpre:-9223372036854775808<=n/\n<=9223372036854775807:=hpre
 refine AI (q:=let Z1:=vB true=vB (decide (n<0));ifB ((decide (n≥(0:Int)))) (∃ i1:Nat,[DA.one (cI n)]=Ap.args i1/\Ap.pre i1/\((vB false=vB (decide (n<0)))/\(L i1=L n.natAbs))) (ifB ((n == (-9223372036854775808:Int))) (∃ i2:Nat,[DA.one (cI (9223372036854775807:Int))]=Ap.args i2/\Ap.pre i2/\(∃ i3:Nat,[DA.one (cI (1:Int))]=Ap.args i3/\Ap.pre i3/\(∃ i4:Nat×Nat,[DA.one (cS (L i2)),DA.one (cS (L i3))]=Cb.args i4/\Cb.pre i4/\(Z1/\(L (i4.1+i4.2)=L n.natAbs))))) (∃ i5:Nat,[DA.one (cI (wR (0-n)))]=Ap.args i5/\Ap.pre i5/\(Z1/\(L i5=L n.natAbs))))) (by kernel_rfl) ?_
 conv=>zeta
 delta ifB vB wR
 refine ⟨λ c1=>?_,λ c1=>?_⟩
 ·try simp only [nrm] at c1
  have en:n=((n.toNat:Nat):Int):=by omega
  have ea:n.natAbs=n.toNat:=by omega
  refine ⟨n.toNat,by
   show [DA.one (DC.im (Value.int .i64 n))]=[DA.one (DC.im (Value.int .i64 ((n.toNat:Nat):Int)))]
   rw [← en],by
   show n.toNat<=9223372036854775807
   omega,?_⟩
  refine ⟨?_,?_⟩
  ·rw [decide_eq_false (show ¬ n<0 by omega)];done
  rw [ea];done
 try simp only [nrm] at c1
 refine And.symm ⟨λ c7=>?_,λ c7=>?_⟩
 ·try simp only [nrm] at c7
  have en:IntKind.i64.wrap (0-n)=(((-n).toNat:Nat):Int):=by rw [AD (by omega) (by omega)];omega
  have ea:n.natAbs=(-n).toNat:=by omega
  refine ⟨(-n).toNat,by
   rw [en];rfl,by
   show ((-n).toNat)<=9223372036854775807
   omega,?_⟩
  refine ⟨?_,?_⟩
  ·rw [decide_eq_true (show n<0 by omega)];done
  rw [ea];done
 try simp only [nrm] at c7
 refine ⟨9223372036854775807,by
  rfl,by
  show 9223372036854775807<=9223372036854775807
  trivial,?_⟩
 refine ⟨1,by
  rfl,by
  show 1<=9223372036854775807
  trivial,?_⟩
 refine ⟨(9223372036854775807,1),by
  rfl,by
  exact ⟨Nat.le_trans ((DI 3 _).2 (by decide)) (by decide),Nat.le_trans ((DI 3 _).2 (by decide)) (by decide)⟩,?_⟩
 refine ⟨?_,?_⟩
 ·rw [decide_eq_true (show n<0 by omega)];done
 rw [show n.natAbs=9223372036854775807+1 by omega];done
def Ak:Con:={ ι:=Fr,pre:=λ i=>True,args:=λ i=>[dF i],res:=λ i=>⟨false,[none],[rcB i.good]⟩ }
theorem Hc:Ak.Ok Tryz.prog 214:=by
 refine fok (X:=⟨tt,[],[],7,[]⟩) mixed AH (CTok.nil _) Tryz.func214 (λ _=>[]) ?_
 intro (r:Fr) hpre
 have hpre:True:=hpre
 refine AI (q:=(vB (decide ((nI ((L r.d).length))>(0:Int)))=vB r.good)) (by kernel_rfl) ?_
 delta vB nI
 rw [Vs]
def CC:Con:={ ι:=Int×Nat,pre:=λ i=>i.2≠0/\nl i.1.natAbs<=1000/\nl i.2<=1000,args:=λ i=>[dB i.1,.one (cS (L i.2))],res:=λ i=>⟨false,[some 3],[rcB (decide ((Fr.mk' i.1 i.2).z<0)),.own 3 [.int] (L (Fr.mk' i.1 i.2).z.natAbs),.own 3 [.int] (L (Fr.mk' i.1 i.2).d)]⟩ }
theorem LB:CC.Ok Tryz.prog 268:=by
 refine fok (X:=⟨tt,[(308,Bj),(309,Cc),(310,Bp),(311,CB),(196,Ah)],[],45,[]⟩) mixed AH (CTok.cons N8 (CTok.cons MF (CTok.cons ME (CTok.cons R0 (CTok.cons GG (CTok.nil _)))))) Tryz.func268 (λ _=>[]) ?_
 rintro ⟨z,d⟩ hpre
 have hpre:d≠0/\nl z.natAbs<=1000/\nl d<=1000:=hpre
 refine AI (q:=let Z8:=cS (L d);let Z7:=List (List Dat);let Z3:=(decide ((nI ((L d).length))>(24:Int)));let Z2:=(!(decide ((nI ((L z.natAbs).length))>(24:Int))));let Z1:=Fr.mk' z d;let Z6:=decide (Z1.z<0);let Z5:=(eqN Z1);∃ i1:Nat,[DA.one Z8]=Bj.args i1/\Bj.pre i1/\(ifB ((!(decide (i1=1)))) (∃ i2:Nat×Nat,let Z4:=cS (L (i2.1.gcd i2.2));[DA.one (cS (L z.natAbs)),DA.one Z8]=Cc.args i2/\Cc.pre i2/\(∃ i3:Nat,[DA.one Z4]=Bj.args i3/\Bj.pre i3/\(ifB ((!(decide (i3=1)))) (∃ i4:Nat×Nat,[DA.one (cS (L z.natAbs)),DA.one Z4]=Bp.args i4/\Bp.pre i4/\(∃ i5:Nat×Nat,[DA.one Z8,DA.one Z4]=Bp.args i5/\Bp.pre i5/\(ifB ((!(decide ((nI ((L (i4.1/i4.2)).length))>(24:Int))))) (ifB ((decide ((nI ((L (i5.1/i5.2)).length))>(24:Int)))) Z5 (∃ i6:Bool×Nat,[DA.agg [cB (decide (z<0)),cS (L (i4.1/i4.2))]]=CB.args i6/\CB.pre i6/\(∃ i7:Z7,[DA.one (cS (L (i5.1/i5.2)))]=Ah.args i7/\Ah.pre i7/\((vB i6.1=vB Z6)/\(L i6.2=L Z1.z.natAbs)/\(i7=L Z1.d))))) Z5))) (ifB Z2 (ifB Z3 Z5 (∃ i8:Bool×Nat,[dB z]=CB.args i8/\CB.pre i8/\(∃ i9:Z7,[DA.one Z8]=Ah.args i9/\Ah.pre i9/\((vB i8.1=vB Z6)/\(L i8.2=L Z1.z.natAbs)/\(i9=L Z1.d))))) Z5)))) (ifB Z2 (ifB Z3 Z5 (∃ i10:Bool×Nat,[dB z]=CB.args i10/\CB.pre i10/\(∃ i11:Z7,[DA.one Z8]=Ah.args i11/\Ah.pre i11/\((vB i10.1=vB Z6)/\(L i10.2=L Z1.z.natAbs)/\(i11=L Z1.d))))) Z5))) (by kernel_rfl) ?_
 conv=>zeta
 delta ifB vB nI
 have hg:=Qy (a:=z.natAbs) hpre.1
 refine ⟨d,by
  rfl,by
  trivial,?_⟩
 refine And.symm ⟨λ c4=>?_,λ c4=>?_⟩
 ·try simp only [nrm] at c4
  have e1:z.natAbs.gcd d=1:=by rw [c4];exact Nat.gcd_one_right _
  have ez:z.natAbs/z.natAbs.gcd d=z.natAbs:=by rw [e1,Nat.div_one]
  have ed:d/z.natAbs.gcd d=d:=by rw [e1,Nat.div_one]
  have lz:=AN (z.natAbs/z.natAbs.gcd d)
  have ld:=AN (d/z.natAbs.gcd d)
  rw [ez] at lz
  rw [ed] at ld
  refine And.symm ⟨λ c52=>?_,λ c52=>?_⟩
  ·try simp only [nrm] at c52
   refine Ba ?_
   rw [EW hpre.1 (by rw [ez,ed];omega)];done
  try simp only [nrm] at c52
  refine ⟨λ c53=>?_,λ c53=>?_⟩
  ·try simp only [nrm] at c53
   refine Ba ?_
   rw [EW hpre.1 (by rw [ez,ed];omega)];done
  try simp only [nrm] at c53
  refine ⟨(decide (z<0),z.natAbs),by
   rfl,by
   show nl z.natAbs<=60
   omega,?_⟩
  refine ⟨(L d),by
   rfl,by
   show (L d).length<=1073741824
   omega,?_⟩
  refine ⟨?_,?_,?_⟩
  ·rw [(DX hpre.1 (by rw [ez];omega) (by rw [ed];omega)).1];done
  ·rw [(DX hpre.1 (by rw [ez];omega) (by rw [ed];omega)).2.1,ez];done
  rw [(DX hpre.1 (by rw [ez];omega) (by rw [ed];omega)).2.2,ed];done
 try simp only [nrm] at c4
 refine ⟨(z.natAbs,d),by
  rfl,by
  show nl z.natAbs<=131072/\nl d<=131072
  exact ⟨by omega,by omega⟩,?_⟩
 refine ⟨(z.natAbs.gcd d),by
  rfl,by
  trivial,?_⟩
 refine And.symm ⟨λ c11=>?_,λ c11=>?_⟩
 ·try simp only [nrm] at c11
  have e1:z.natAbs.gcd d=1:=c11
  have ez:z.natAbs/z.natAbs.gcd d=z.natAbs:=by rw [e1,Nat.div_one]
  have ed:d/z.natAbs.gcd d=d:=by rw [e1,Nat.div_one]
  have lz:=AN (z.natAbs/z.natAbs.gcd d)
  have ld:=AN (d/z.natAbs.gcd d)
  rw [ez] at lz
  rw [ed] at ld
  refine And.symm ⟨λ c35=>?_,λ c35=>?_⟩
  ·try simp only [nrm] at c35
   refine Ba ?_
   rw [EW hpre.1 (by rw [ez,ed];omega)];done
  try simp only [nrm] at c35
  refine ⟨λ c36=>?_,λ c36=>?_⟩
  ·try simp only [nrm] at c36
   refine Ba ?_
   rw [EW hpre.1 (by rw [ez,ed];omega)];done
  try simp only [nrm] at c36
  refine ⟨(decide (z<0),z.natAbs),by
   rfl,by
   show nl z.natAbs<=60
   omega,?_⟩
  refine ⟨(L d),by
   rfl,by
   show (L d).length<=1073741824
   omega,?_⟩
  refine ⟨?_,?_,?_⟩
  ·rw [(DX hpre.1 (by rw [ez];omega) (by rw [ed];omega)).1];done
  ·rw [(DX hpre.1 (by rw [ez];omega) (by rw [ed];omega)).2.1,ez];done
  rw [(DX hpre.1 (by rw [ez];omega) (by rw [ed];omega)).2.2,ed];done
 try simp only [nrm] at c11
 have ez:z.natAbs/z.natAbs.gcd d=z.natAbs/z.natAbs.gcd d:=rfl
 have ed:d/z.natAbs.gcd d=d/z.natAbs.gcd d:=rfl
 have lz:=AN (z.natAbs/z.natAbs.gcd d)
 have ld:=AN (d/z.natAbs.gcd d)
 rw [ez] at lz
 rw [ed] at ld
 refine ⟨(z.natAbs,(z.natAbs.gcd d)),by
  rfl,by
  show (z.natAbs.gcd d)≠0/\nl z.natAbs<=131072/\nl (z.natAbs.gcd d)<=131072
  exact ⟨by omega,by omega⟩,?_⟩
 refine ⟨(d,(z.natAbs.gcd d)),by
  rfl,by
  show (z.natAbs.gcd d)≠0/\nl d<=131072/\nl (z.natAbs.gcd d)<=131072
  exact ⟨by omega,by omega⟩,?_⟩
 refine And.symm ⟨λ c18=>?_,λ c18=>?_⟩
 ·try simp only [nrm] at c18
  refine Ba ?_
  rw [EW hpre.1 (by rw [ez,ed];omega)];done
 try simp only [nrm] at c18
 refine ⟨λ c19=>?_,λ c19=>?_⟩
 ·try simp only [nrm] at c19
  refine Ba ?_
  rw [EW hpre.1 (by rw [ez,ed];omega)];done
 try simp only [nrm] at c19
 refine ⟨(decide (z<0),(z.natAbs/(z.natAbs.gcd d))),by
  rfl,by
  show nl (z.natAbs/(z.natAbs.gcd d))<=60
  omega,?_⟩
 refine ⟨L (d/(z.natAbs.gcd d)),by
  rfl,by
  show (L (d/(z.natAbs.gcd d))).length<=1073741824
  omega,?_⟩
 refine ⟨?_,?_,?_⟩
 ·rw [(DX hpre.1 (by rw [ez];omega) (by rw [ed];omega)).1];done
 ·rw [(DX hpre.1 (by rw [ez];omega) (by rw [ed];omega)).2.1,ez];done
 rw [(DX hpre.1 (by rw [ez];omega) (by rw [ed];omega)).2.2,ed];done
def DM:Con:={ ι:=Int,pre:=λ i=>-9223372036854775808<=i/\i<=9223372036854775807,args:=λ i=>[.one (cI i)],res:=λ i=>⟨false,[some 3],[rcB (decide ((Fr.ofInt i).z<0)),.own 3 [.int] (L (Fr.ofInt i).z.natAbs),.own 3 [.int] (L (Fr.ofInt i).d)]⟩ }
theorem R1:DM.Ok Tryz.prog 129:=by
 refine fok (X:=⟨tt,[(195,Hb)],[],7,[]⟩) mixed AH (CTok.cons Tx (CTok.nil _)) Tryz.func129 (λ _=>[]) ?_
 intro (n:Int) hpre
 have hpre:-9223372036854775808<=n/\n<=9223372036854775807:=hpre
 refine AI (q:=∃ i1:Int,[DA.one (cI n)]=Hb.args i1/\Hb.pre i1/\((vB (decide (i1<0))=vB (decide ((Fr.ofInt n).z<0)))/\(L i1.natAbs=L (Fr.ofInt n).z.natAbs)/\(([[Dat.int (1:Int)]]:List (List Dat))=L (Fr.ofInt n).d))) (by kernel_rfl) ?_
 delta vB
 refine ⟨n,by
  rfl,by
  exact hpre,?_⟩
 refine ⟨?_,?_,?_⟩
 ·rw [(Fl (FQ hpre)).1];done
 ·rw [(Fl (FQ hpre)).1];done
 rw [(Fl (FQ hpre)).2];exact Tp (by decide) (by decide)
def GK:Con:={ ι:=Fr×Fr,pre:=λ i=>True,args:=λ i=>[dF i.1,dF i.2],res:=λ i=>⟨false,[some 3],[rcB (decide ((Fr.add i.1 i.2).z<0)),.own 3 [.int] (L (Fr.add i.1 i.2).z.natAbs),.own 3 [.int] (L (Fr.add i.1 i.2).d)]⟩ }
theorem R2:GK.Ok Tryz.prog 224:=by
 refine fok (X:=⟨tt,[(214,Ak),(216,A2),(270,GI),(265,An),(268,CC)],[],35,[]⟩) mixed AH (CTok.cons Hc (CTok.cons I8 (CTok.cons Ry (CTok.cons Fk (CTok.cons LB (CTok.nil _)))))) Tryz.func224 (λ _=>[]) ?_
 rintro ⟨r,s⟩ hpre
 have hpre:True:=hpre
 refine AI (q:=∃ i1:Fr,[dF r]=Ak.args i1/\Ak.pre i1/\(ifB ((!(!i1.good))) (∃ i2:Fr,[dF s]=Ak.args i2/\Ak.pre i2/\(ifB ((!i2.good)) ((eqN (Fr.add r s))) (∃ i3:Int×Int,[dB r.z,DA.agg [cB false,cS (L s.d)]]=A2.args i3/\A2.pre i3/\(∃ i4:Int×Int,[dB s.z,DA.agg [cB false,cS (L r.d)]]=A2.args i4/\A2.pre i4/\(∃ i5:Int×Int,[dB (i3.1*i3.2),dB (i4.1*i4.2)]=GI.args i5/\GI.pre i5/\(∃ i6:Nat×Nat,[DA.one (cS (L r.d)),DA.one (cS (L s.d))]=An.args i6/\An.pre i6/\(∃ i7:Int×Nat,[dB (i5.1+i5.2),DA.one (cS (L (i6.1*i6.2)))]=CC.args i7/\CC.pre i7/\((eqC (Fr.mk' i7.1 i7.2) (Fr.add r s)))))))))) ((eqN (Fr.add r s))))) (by kernel_rfl) ?_
 delta ifB
 have h1:=r.nlz
 have h2:=r.nld
 have h3:=s.nlz
 have h4:=s.nld
 refine ⟨r,by
  rfl,by
  trivial,?_⟩
 refine And.symm ⟨λ c4=>?_,λ c4=>?_⟩
 ·try simp only [nrm] at c4
  have hE:Fr.add r s=Fr.none:=Fr.bin_bad _ (.inl (Eo c4))
  refine Ba ?_
  rw [hE];done
 try simp only [nrm] at c4
 refine ⟨s,by
  rfl,by
  trivial,?_⟩
 refine ⟨λ c8=>?_,λ c8=>?_⟩
 ·try simp only [nrm] at c8
  have hE:Fr.add r s=Fr.none:=Fr.bin_bad _ (.inr (Eo c8))
  refine Ba ?_
  rw [hE];done
 try simp only [nrm] at c8
 have hE:=Fr.add_zd (Bx c4) (Bx c8)
 have m1:=Bq r.z ((s.d:Nat):Int)
 have m2:=Bq s.z ((r.d:Nat):Int)
 rw [Em] at m1 m2
 have m3:=GF (r.z*((s.d:Nat):Int)) (s.z*((r.d:Nat):Int))
 have m4:=Av r.d s.d
 have m5:r.d*s.d≠0:=Nat.mul_ne_zero (Bx c4) (Bx c8)
 refine ⟨(r.z,((s.d:Nat):Int)),by
  rfl,by
  show nl r.z.natAbs<=1000/\nl ((s.d:Nat):Int).natAbs<=1000
  exact ⟨by omega,by rw [Em];omega⟩,?_⟩
 refine ⟨(s.z,((r.d:Nat):Int)),by
  rfl,by
  show nl s.z.natAbs<=1000/\nl ((r.d:Nat):Int).natAbs<=1000
  exact ⟨by omega,by rw [Em];omega⟩,?_⟩
 refine ⟨((r.z*((s.d:Nat):Int)),(s.z*((r.d:Nat):Int))),by
  rfl,by
  show nl (r.z*((s.d:Nat):Int)).natAbs<=1000/\nl (s.z*((r.d:Nat):Int)).natAbs<=1000
  exact ⟨by omega,by omega⟩,?_⟩
 refine ⟨(r.d,s.d),by
  rfl,by
  show nl r.d<=524288/\nl s.d<=524288
  exact ⟨by omega,by omega⟩,?_⟩
 refine ⟨(((r.z*((s.d:Nat):Int))+(s.z*((r.d:Nat):Int))),(r.d*s.d)),by
  rfl,by
  show (r.d*s.d)≠0/\nl ((r.z*((s.d:Nat):Int))+(s.z*((r.d:Nat):Int))).natAbs<=1000/\nl (r.d*s.d)<=1000
  exact ⟨by omega,by omega⟩,?_⟩
 refine EX ?_
 rw [hE];done
def DN:Con:={ ι:=Fr×Fr,pre:=λ i=>True,args:=λ i=>[dF i.1,dF i.2],res:=λ i=>⟨false,[some 3],[rcB (decide ((Fr.mul i.1 i.2).z<0)),.own 3 [.int] (L (Fr.mul i.1 i.2).z.natAbs),.own 3 [.int] (L (Fr.mul i.1 i.2).d)]⟩ }
theorem R3:DN.Ok Tryz.prog 269:=by
 refine fok (X:=⟨tt,[(214,Ak),(216,A2),(265,An),(268,CC)],[],25,[]⟩) mixed AH (CTok.cons Hc (CTok.cons I8 (CTok.cons Fk (CTok.cons LB (CTok.nil _))))) Tryz.func269 (λ _=>[]) ?_
 rintro ⟨r,s⟩ hpre
 have hpre:True:=hpre
 refine AI (q:=∃ i1:Fr,[dF r]=Ak.args i1/\Ak.pre i1/\(ifB ((!(!i1.good))) (∃ i2:Fr,[dF s]=Ak.args i2/\Ak.pre i2/\(ifB ((!i2.good)) ((eqN (Fr.mul r s))) (∃ i3:Int×Int,[dB r.z,dB s.z]=A2.args i3/\A2.pre i3/\(∃ i4:Nat×Nat,[DA.one (cS (L r.d)),DA.one (cS (L s.d))]=An.args i4/\An.pre i4/\(∃ i5:Int×Nat,[dB (i3.1*i3.2),DA.one (cS (L (i4.1*i4.2)))]=CC.args i5/\CC.pre i5/\((eqC (Fr.mk' i5.1 i5.2) (Fr.mul r s)))))))) ((eqN (Fr.mul r s))))) (by kernel_rfl) ?_
 delta ifB
 have h1:=r.nlz
 have h2:=r.nld
 have h3:=s.nlz
 have h4:=s.nld
 refine ⟨r,by
  rfl,by
  trivial,?_⟩
 refine And.symm ⟨λ c4=>?_,λ c4=>?_⟩
 ·try simp only [nrm] at c4
  have hE:Fr.mul r s=Fr.none:=Fr.bin_bad _ (.inl (Eo c4))
  refine Ba ?_
  rw [hE];done
 try simp only [nrm] at c4
 refine ⟨s,by
  rfl,by
  trivial,?_⟩
 refine ⟨λ c8=>?_,λ c8=>?_⟩
 ·try simp only [nrm] at c8
  have hE:Fr.mul r s=Fr.none:=Fr.bin_bad _ (.inr (Eo c8))
  refine Ba ?_
  rw [hE];done
 try simp only [nrm] at c8
 have hE:=Fr.mul_zd (Bx c4) (Bx c8)
 have m1:=Bq r.z s.z
 have m4:=Av r.d s.d
 have m5:r.d*s.d≠0:=Nat.mul_ne_zero (Bx c4) (Bx c8)
 refine ⟨(r.z,s.z),by
  rfl,by
  show nl r.z.natAbs<=1000/\nl s.z.natAbs<=1000
  exact ⟨by omega,by omega⟩,?_⟩
 refine ⟨(r.d,s.d),by
  rfl,by
  show nl r.d<=524288/\nl s.d<=524288
  exact ⟨by omega,by omega⟩,?_⟩
 refine ⟨((r.z*s.z),(r.d*s.d)),by
  rfl,by
  show (r.d*s.d)≠0/\nl (r.z*s.z).natAbs<=1000/\nl (r.d*s.d)<=1000
  exact ⟨by omega,by omega⟩,?_⟩
 refine EX ?_
 rw [hE];done
def GL:Con:={ ι:=Fr,pre:=λ i=>True,args:=λ i=>[dF i],res:=λ i=>⟨false,[some 3],[rcB (decide (i.opp.z<0)),.view 3 [.int] (L i.opp.z.natAbs),.view 3 [.int] (L i.opp.d)]⟩ }
theorem R4:GL.Ok Tryz.prog 266:=by
 refine fok (X:=⟨tt,[(306,GH)],[],9,[]⟩) mixed AH (CTok.cons Rx (CTok.nil _)) Tryz.func266 (λ _=>[]) ?_
 intro (r:Fr) hpre
 have hpre:True:=hpre
 refine AI (q:=∃ i1:Int,[dB r.z]=GH.args i1/\GH.pre i1/\((vB (decide ((-i1)<0))=vB (decide (r.opp.z<0)))/\(L (-i1).natAbs=L r.opp.z.natAbs)/\((L r.d)=L r.opp.d))) (by kernel_rfl) ?_
 delta vB
 refine ⟨r.z,by
  rfl,by
  trivial,?_⟩
 refine ⟨?_,?_,?_⟩
 ·rw [Fr.opp_z];done
 ·rw [Fr.opp_z];done
 rw [Fr.opp_d]
def BG:Con:={ ι:=Fr×Fr,pre:=λ i=>True,args:=λ i=>[dF i.1,dF i.2],res:=λ i=>⟨false,[some 3],[rcB (decide ((Fr.sub i.1 i.2).z<0)),.own 3 [.int] (L (Fr.sub i.1 i.2).z.natAbs),.own 3 [.int] (L (Fr.sub i.1 i.2).d)]⟩ }
theorem R5:BG.Ok Tryz.prog 219:=by
 refine fok (X:=⟨tt,[(266,GL),(224,GK)],[],9,[]⟩) mixed AH (CTok.cons R4 (CTok.cons R2 (CTok.nil _))) Tryz.func219 (λ _=>[]) ?_
 rintro ⟨r,s⟩ hpre
 have hpre:True:=hpre
 refine AI (q:=∃ i1:Fr,[dF s]=GL.args i1/\GL.pre i1/\(∃ i2:Fr×Fr,[dF r,dF i1.opp]=GK.args i2/\GK.pre i2/\((eqC (Fr.add i2.1 i2.2) (Fr.sub r s))))) (by kernel_rfl) ?_
 refine ⟨s,by
  rfl,by
  trivial,?_⟩
 refine ⟨(r,s.opp),by
  rfl,by
  trivial,?_⟩
 refine EX ?_
 rw [Fr.sub_opp]
def Ae:Con:={ ι:=Fr×Fr,pre:=λ i=>True,args:=λ i=>[dF i.1,dF i.2],res:=λ i=>⟨false,[none],[rcI (Fr.cmp i.1 i.2)]⟩ }
theorem Hd:Ae.Ok Tryz.prog 153:=by
 refine fok (X:=⟨tt,[(214,Ak),(216,A2),(215,GJ)],[],26,[]⟩) mixed AH (CTok.cons Hc (CTok.cons I8 (CTok.cons Rz (CTok.nil _)))) Tryz.func153 (λ _=>[]) ?_
 rintro ⟨r,s⟩ hpre
 have hpre:True:=hpre
 refine AI (q:=let Z1:=(vI (0:Int)=vI (Fr.cmp r s));∃ i1:Fr,[dF r]=Ak.args i1/\Ak.pre i1/\(ifB ((!(!i1.good))) (∃ i2:Fr,[dF s]=Ak.args i2/\Ak.pre i2/\(ifB ((!i2.good)) Z1 (∃ i3:Int×Int,[dB r.z,DA.agg [cB false,cS (L s.d)]]=A2.args i3/\A2.pre i3/\(∃ i4:Int×Int,[dB s.z,DA.agg [cB false,cS (L r.d)]]=A2.args i4/\A2.pre i4/\(∃ i5:Int×Int,[dB (i3.1*i3.2),dB (i4.1*i4.2)]=GJ.args i5/\GJ.pre i5/\((vI (Bf i5.1 i5.2)=vI (Fr.cmp r s)))))))) Z1)) (by kernel_rfl) ?_
 conv=>zeta
 delta ifB vI
 have h1:=r.nlz
 have h2:=r.nld
 have h3:=s.nlz
 have h4:=s.nld
 refine ⟨r,by
  rfl,by
  trivial,?_⟩
 refine And.symm ⟨λ c4=>?_,λ c4=>?_⟩
 ·try simp only [nrm] at c4
  have hE:Fr.cmp r s=0:=Fr.cmp_bad (.inl (Eo c4))
  rw [hE];done
 try simp only [nrm] at c4
 refine ⟨s,by
  rfl,by
  trivial,?_⟩
 refine ⟨λ c8=>?_,λ c8=>?_⟩
 ·try simp only [nrm] at c8
  have hE:Fr.cmp r s=0:=Fr.cmp_bad (.inr (Eo c8))
  rw [hE];done
 try simp only [nrm] at c8
 have hE:=Fr.cmp_zd (Bx c4) (Bx c8)
 have m1:=Bq r.z ((s.d:Nat):Int)
 have m2:=Bq s.z ((r.d:Nat):Int)
 rw [Em] at m1 m2
 
 refine ⟨(r.z,((s.d:Nat):Int)),by
  rfl,by
  show nl r.z.natAbs<=1000/\nl ((s.d:Nat):Int).natAbs<=1000
  exact ⟨by omega,by rw [Em];omega⟩,?_⟩
 refine ⟨(s.z,((r.d:Nat):Int)),by
  rfl,by
  show nl s.z.natAbs<=1000/\nl ((r.d:Nat):Int).natAbs<=1000
  exact ⟨by omega,by rw [Em];omega⟩,?_⟩
 refine ⟨((r.z*((s.d:Nat):Int)),(s.z*((r.d:Nat):Int))),by
  rfl,by
  show nl (r.z*((s.d:Nat):Int)).natAbs<=1000/\nl (s.z*((r.d:Nat):Int)).natAbs<=1000
  exact ⟨by omega,by omega⟩,?_⟩
 rw [hE];done
def Ep:Con:={ ι:=Fr,pre:=λ i=>True,args:=λ i=>[dF i],res:=λ i=>⟨false,[none],[rcI i.sgn]⟩ }
theorem Pa:Ep.Ok Tryz.prog 349:=by
 refine fok (X:=⟨tt,[(214,Ak)],[],18,[]⟩) mixed AH (CTok.cons Hc (CTok.nil _)) Tryz.func349 (λ _=>[]) ?_
 intro (r:Fr) hpre
 have hpre:True:=hpre
 refine AI (q:=let Z1:=(vI (0:Int)=vI r.sgn);∃ i1:Fr,[dF r]=Ak.args i1/\Ak.pre i1/\(ifB ((!(!i1.good))) (ifB (((nI ((L r.z.natAbs).length)) == (0:Int))) Z1 (ifB (decide (r.z<0)) ((vI (-1:Int)=vI r.sgn)) ((vI (1:Int)=vI r.sgn)))) Z1)) (by kernel_rfl) ?_
 conv=>zeta
 delta ifB vI nI
 refine ⟨r,by
  rfl,by
  trivial,?_⟩
 refine And.symm ⟨λ c4=>?_,λ c4=>?_⟩
 ·try simp only [nrm] at c4
  have hz:r.z=0:=by rw [Fr.bad_z (Eo c4)];rfl
  rw [Fr.sgn_z,hz];rfl
 try simp only [nrm] at c4
 refine ⟨λ c5=>?_,λ c5=>?_⟩
 ·try simp only [nrm] at c5
  have hz:r.z=0:=Wt (by omega)
  rw [Fr.sgn_z,hz];rfl
 try simp only [nrm] at c5
 have hz:r.z≠0:=VO (by omega)
 refine ⟨λ c7=>?_,λ c7=>?_⟩
 ·try simp only [nrm] at c7
  rw [Fr.sgn_z];unfold Bf;rw [if_pos (by omega)];done
 try simp only [nrm] at c7
 rw [Fr.sgn_z];unfold Bf;rw [if_neg (by omega),if_neg (by omega)];done
def DO:Con:={ ι:=(List (List Dat)),pre:=λ i=>i.length<=9223372036854775807,args:=λ i=>[.one (cS i)],res:=λ i=>⟨false,[none],[rcB (Ay i)]⟩ }
theorem N9:DO.Ok Tryz.prog 348:=by
 refine fok (X:=⟨tt,[(355,HW)],[],22,[]⟩) mixed AH (CTok.cons Tj (CTok.nil _)) Tryz.func348 (λ _=>[]) ?_
 intro (l:List (List Dat)) hpre
 have hpre:l.length<=9223372036854775807:=hpre
 refine AI (q:=let Z2:=(vB false=vB (Ay l));let Z1:=wR ((nI l.length)-(1:Int));ifB ((!(decide ((nI l.length)>(60:Int))))) (∃ i1:(List (List Dat)),[DA.one (cS l),DA.one (DC.ro (.fn 356 []))]=HW.args i1/\HW.pre i1/\(ifB ((i1.any (λ r=>!(inB (rn r))))) Z2 (ifB ((!((nI l.length) == (0:Int)))) ((0<=Z1/\Z1<(l.length:Int))/\((Z1.toNat<l.length)/\((vB ((((l.getD (Z1.toNat) []).getD 0 (.int 0))).n != (0:Int))=vB (Ay l))))) ((vB true=vB (Ay l)))))) Z2) (by kernel_rfl) ?_
 conv=>zeta
 delta ifB vB wR nI
 refine And.symm ⟨λ c1=>?_,λ c1=>?_⟩
 ·try simp only [nrm] at c1
  have hE:=K5 (l:=l) (by omega)
  rw [hE]
 try simp only [nrm] at c1
 refine ⟨l,by
  rfl,by
  trivial,?_⟩
 refine ⟨λ c5=>?_,λ c5=>?_⟩
 ·try simp only [nrm] at c5
  have hE:=K6 c5
  rw [hE]
 try simp only [nrm] at c5
 refine And.symm ⟨λ c7=>?_,λ c7=>?_⟩
 ·try simp only [nrm] at c7
  have hE:=K7 (l:=l) (by omega)
  rw [hE]
 try simp only [nrm] at c7
 have hE:=Ja (l:=l) (by omega) c5 (by omega)
 have hw:(IntKind.i64.wrap (((l.length:Nat):Int)-(1:Int)))=((l.length-1:Nat):Int):=by rw [AD (by omega) (by omega)];omega
 refine ao (by rw [hw];omega) λ o8=>?_
 refine ao (by rw [hw];omega) λ o9=>?_
 rw [hw,Int.toNat_natCast,hE];rfl
def D3:Con:={ ι:=Bool×(List (List Dat)),pre:=λ i=>i.2.length<=9223372036854775807,args:=λ i=>[DA.agg [cB i.1,cS i.2]],res:=λ i=>⟨false,[none],[rcB (BZ i.1 i.2)]⟩ }
theorem OA:D3.Ok Tryz.prog 347:=by
 refine fok (X:=⟨tt,[(348,DO)],[],17,[]⟩) mixed AH (CTok.cons N9 (CTok.nil _)) Tryz.func347 (λ _=>[]) ?_
 rintro ⟨neg,m⟩ hpre
 have hpre:m.length<=9223372036854775807:=hpre
 refine AI (q:=let Z1:=BZ neg m;∃ i1:(List (List Dat)),[DA.one (cS m)]=DO.args i1/\DO.pre i1/\(ifB ((Ay i1)) (ifB (neg) ((vB (!((nI m.length) == (0:Int)))=vB Z1)) ((vB (!false)=vB Z1))) ((vB false=vB Z1)))) (by kernel_rfl) ?_
 conv=>zeta
 delta ifB vB nI
 refine ⟨m,by
  rfl,by
  trivial,?_⟩
 refine And.symm ⟨λ c4=>?_,λ c4=>?_⟩
 ·try simp only [nrm] at c4
  unfold BZ;rw [c4];rfl
 try simp only [nrm] at c4
 refine ⟨λ c5=>?_,λ c5=>?_⟩
 ·try simp only [nrm] at c5
  rw [c5,K8 c4];done
 try simp only [nrm] at c5
 unfold BZ;rw [c4,c5];rfl
def CK:Con:={ ι:=Bool×(List (List Dat))×(List (List Dat)),pre:=λ i=>Dat.has (.sl 3 [.int]) (.sl i.2.1)/\Dat.has (.sl 3 [.int]) (.sl i.2.2)/\i.2.1.length<=9223372036854775807/\i.2.2.length<=9223372036854775807,args:=λ i=>[DA.agg [cB i.1,cS i.2.1,cS i.2.2]],res:=λ i=>⟨false,[none],[rcB (AZ i.1 i.2.1 i.2.2)]⟩ }
theorem OB:CK.Ok Tryz.prog 327:=by
 refine fok (X:=⟨tt,[(347,D3),(348,DO),(308,Bj),(309,Cc)],[],44,[]⟩) mixed AH (CTok.cons OA (CTok.cons N9 (CTok.cons N8 (CTok.cons MF (CTok.nil _))))) Tryz.func327 (λ _=>[]) ?_
 rintro ⟨neg,m,d⟩ hpre
 have hpre:Dat.has (.sl 3 [.int]) (.sl m)/\Dat.has (.sl 3 [.int]) (.sl d)/\m.length<=9223372036854775807/\d.length<=9223372036854775807:=hpre
 refine AI (q:=let Z2:=AZ neg m d;let Z1:=(vB false=vB Z2);∃ i1:Bool×(List (List Dat)),[DA.agg [cB neg,cS m]]=D3.args i1/\D3.pre i1/\(ifB ((!(!(BZ i1.1 i1.2)))) (∃ i2:(List (List Dat)),[DA.one (cS d)]=DO.args i2/\DO.pre i2/\(ifB ((!(!(Ay i2)))) (ifB ((!((nI d.length) == (0:Int)))) (ifB ((!(decide ((nI m.length)>(24:Int))))) (ifB ((decide ((nI d.length)>(24:Int)))) Z1 (∃ i3:Nat,[DA.one (cS d)]=Bj.args i3/\Bj.pre i3/\(ifB ((!(decide (i3=1)))) (∃ i4:Nat×Nat,[DA.one (cS m),DA.one (cS d)]=Cc.args i4/\Cc.pre i4/\(∃ i5:Nat,[DA.one (cS (L (i4.1.gcd i4.2)))]=Bj.args i5/\Bj.pre i5/\((vB (decide (i5=1))=vB Z2)))) ((vB true=vB Z2))))) Z1) Z1) Z1)) Z1)) (by kernel_rfl) ?_
 conv=>zeta
 delta ifB vB nI
 refine ⟨(neg,m),by
  rfl,by
  show m.length<=9223372036854775807
  omega,?_⟩
 refine And.symm ⟨λ c4=>?_,λ c4=>?_⟩
 ·try simp only [nrm] at c4
  have hE:AZ neg m d=false:=Bv (.inl c4)
  rw [hE]
 try simp only [nrm] at c4
 refine ⟨d,by
  rfl,by
  show d.length<=9223372036854775807
  omega,?_⟩
 refine And.symm ⟨λ c8=>?_,λ c8=>?_⟩
 ·try simp only [nrm] at c8
  have hE:AZ neg m d=false:=Bv (.inr (.inl c8))
  rw [hE]
 try simp only [nrm] at c8
 refine And.symm ⟨λ c9=>?_,λ c9=>?_⟩
 ·try simp only [nrm] at c9
  have hE:AZ neg m d=false:=Bv (.inr (.inr (.inl (by omega))))
  rw [hE]
 try simp only [nrm] at c9
 refine And.symm ⟨λ c10=>?_,λ c10=>?_⟩
 ·try simp only [nrm] at c10
  have hE:AZ neg m d=false:=Bv (.inr (.inr (.inr (.inl (by omega)))))
  rw [hE]
 try simp only [nrm] at c10
 refine ⟨λ c11=>?_,λ c11=>?_⟩
 ·try simp only [nrm] at c11
  have hE:AZ neg m d=false:=Bv (.inr (.inr (.inr (.inr (by omega)))))
  rw [hE]
 try simp only [nrm] at c11
 obtain ⟨a,ea,na⟩:=DJ hpre.1 (K9 c4)
 obtain ⟨b,eb,nb⟩:=DJ hpre.2.1 c8
 have hE:=LA c4 c8 (by omega) (by omega) (by omega)
 refine ⟨b,by
  rw [eb];rfl,by
  trivial,?_⟩
 refine And.symm ⟨λ c16=>?_,λ c16=>?_⟩
 ·try simp only [nrm] at c16
  rw [hE,ea,eb,Dx,Dx]
  exact congrArg Value.bool (decide_eq_true (by rw [c16];exact Nat.gcd_one_right a)).symm
 try simp only [nrm] at c16
 refine ⟨(a,b),by
  rw [ea,eb];rfl,by
  show nl a<=131072/\nl b<=131072
  exact ⟨by omega,by omega⟩,?_⟩
 refine ⟨(a.gcd b),by
  rfl,by
  trivial,?_⟩
 rw [hE,ea,eb,Dx,Dx]
end Go.Proofs.YtmedodfenejimaaGreat
