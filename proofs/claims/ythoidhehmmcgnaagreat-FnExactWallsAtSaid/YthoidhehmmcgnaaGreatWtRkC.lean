import Derived.Test.YthoidhehmmcgnaaGreatWtRkM
import Derived.Test.YthoidhehmmcgnaaGreatWtNum3
namespace Go.Proofs.YthoidhehmmcgnaaGreat
set_option maxRecDepth 100000
set_option linter.unusedVariables false
set_option linter.unusedSimpArgs false
open Go.RowKit
theorem X1(n:Nat):decide (((n:Nat):Int)<0)=false:=decide_eq_false (by omega)
theorem AA3(r:Fr):decide ((((L r.d).length:Nat):Int)>(0:Int))=r.good:=by rw[← Fr.d_good'];congr 1;apply propext;omega
theorem PZ:nl 1=1:=Xh (by decide) (by decide)
theorem EB{z:Int}{d:Nat}(hd:d≠0)(h1:nl (z.natAbs/z.natAbs.gcd d)<=24)(h2:nl (d/z.natAbs.gcd d)<=24) :
  decide ((Fr.mk' z d).z<0)=decide (z<0)/\(Fr.mk' z d).z.natAbs=z.natAbs/z.natAbs.gcd d/\(Fr.mk' z d).d=d/z.natAbs.gcd d:=by
 have hv:(Fr.mk' z d).v=some (mkRat z d):=Eh (Dj.2 ⟨by rw[Dk hd];exact h1,by rw[(Dx hd).2];exact h2⟩);exact⟨by rw[Fr.z_some hv,Vn hd],by rw[Fr.z_some hv,Dk hd],by rw[Fr.d_some hv,(Dx hd).2]⟩
theorem E7{n:Int}(h:nl n.natAbs<=24):(Fr.ofInt n).z=n/\(Fr.ofInt n).d=1:=by rw[Fr.z_some (JS h),Fr.d_some (JS h),Rat.num_intCast,Rat.den_intCast];exact⟨rfl,rfl⟩
theorem Lk(neg:Bool)(m:Nat):decide (zOf neg m<0)=(neg && decide ((((L m).length:Nat):Int)>(0:Int))):=by rw[AA2];congr 2;apply propext;omega
theorem CL{r:Fr}(h:r.good=false):r.d=0:=Classical.byContradiction λh2=>by rw[Fr.d_good.2 h2]at h;cases h
theorem Ar{r:Fr}(h:r.good=true):r.d≠0:=Fr.d_good.1 h
theorem ACs{z:Int}(h:(L z.natAbs).length=0):z=0:=by rw[AJ]at h;have:=Ck.1 h;omega
theorem ABu{z:Int}(h:(L z.natAbs).length≠0):z≠0:=by rintro rfl;exact h (by rw[AJ];exact CP)
theorem Uh(l:List (List Dat)):l.all (λr=>inB (rn r))=!(l.any λr=>!(inB (rn r))):=by rw[List.all_eq_not_any_not]
theorem My{l:List (List Dat)}(h:60<l.length):BG l=false:=by unfold BG;rw[decide_eq_false (show ¬l.length<=60 by omega)];rfl
theorem Mz{l:List (List Dat)}(h:(l.any λr=>!(inB (rn r)))=true):BG l=false:=by unfold BG;rw[Uh,h];simp
theorem M0{l:List (List Dat)}(h:l.length=0):BG l=true:=by rw[List.eq_nil_of_length_eq_zero h];rfl
theorem LM{l:List (List Dat)}(h1:l.length<=60)(h:(l.any λr=>!(inB (rn r)))=false)(h0:l.length≠0):BG l=(rn (l.getD (l.length-1) []) != 0):=by unfold BG;rw[Uh,h,decide_eq_true h1,decide_eq_false h0];generalize rn (l.getD (l.length-1) [])=v;by_cases hv:v=0 <;> simp[hv]
theorem M5{m:List (List Dat)}(h:BG m=true):Bg true m=!(((m.length:Nat):Int) == (0:Int)):=by
 unfold Bg;rw[h];by_cases hv:m.length=0;rw[hv];rfl;have:((((m.length:Nat):Int)) == (0:Int))=false:=by rw[beq_eq_false_iff_ne];omega
 rw[this];simp[hv]
theorem Sz{neg:Bool}{m:List (List Dat)}(h:Bg neg m=true):BG m=true:=by unfold Bg at h;rw[Bool.and_eq_true]at h;exact h.1
theorem GA{neg:Bool}{m d:List (List Dat)}(h:Bg neg m=false\/BG d=false\/d.length=0\/24<m.length\/24<d.length):GX neg m d=false:=by unfold GX;rcases h with h|h|h|h|h;rw[h];rfl;rw[h];simp;simp[h];rw[decide_eq_false (show ¬m.length<=24 by omega)];simp;rw[decide_eq_false (show ¬d.length<=24 by omega)];simp
theorem S7{neg:Bool}{m d:List (List Dat)}(h1:Bg neg m=true)(h2:BG d=true)(h3:d.length≠0)(h4:m.length<=24)(h5:d.length<=24):GX neg m d=decide ((Vx m).gcd (Vx d)=1):=by unfold GX;rw[h1,h2,decide_eq_false h3,decide_eq_true h4,decide_eq_true h5];rfl
theorem Cd{n:Int}(h:-9223372036854775808<=n/\n<=9223372036854775807):nl n.natAbs<=24:=(Di _ _).2 (Nat.lt_of_le_of_lt (show n.natAbs<=9223372036854775808 by omega) (by decide))
theorem Ui{a b:Nat}(h:b≠0):a.gcd b≠0/\nl (a.gcd b)<=nl b:=⟨λe=>h (Nat.eq_zero_of_gcd_eq_zero_right e),Cy (Nat.gcd_le_right _ (Nat.pos_of_ne_zero h))⟩
def Am:Con:={ι:=(List (List Dat)),pre:=λi=>i.length<=1073741824,args:=λi=>[.one (cS i)],mono:=true,res:=λi=>⟨false,[none],[.own 3 [.int] i]⟩}
theorem GY:Am.Ok Tryz.prog 110:=by refine fok (X:=⟨tt,[],[],8,[]⟩) mixed AG (CTok.nil _) Tryz.func110 (λ_=>[]) ?_;intro (ls:List (List Dat)) a0;have a0:ls.length<=1073741824:=a0;refine AH (q:=∀b1:Bool,(b1=true->ls=[])->(ifB (b1) ((([]:List (List Dat))=ls)) ((([]:List (List Dat)).length+ls.length<=2199023255552)/\(((([]:List (List Dat))++ls)=ls))))) (by kernel_rfl) ?_;delta ifB;intro b1 q1;refine⟨λc2=>?_,λc2=>?_⟩;rw[q1 c2];refine ao (by simp;omega) λo4=>?_;rfl
def Ej:Con:={ι:=Nat,pre:=λi=>True,args:=λi=>[.one (cS (L i))],mono:=true,res:=λi=>⟨false,[none],[rcB (decide (i=1))]⟩}
theorem X2:Ej.Ok Tryz.prog 186:=by refine fok (X:=⟨tt,[],[],12,[]⟩) mixed AG (CTok.nil _) Tryz.func186 (λ_=>[]) ?_;intro (a:Nat) a0;have a0:True:=a0;refine AH (q:=ifB (((nI ((L a).length)) == (1:Int))) ((0<=(0:Int)/\(0:Int)<((L a).length:Int))/\((0<(L a).length)/\((vB (((((L a).getD 0 []).getD 0 (.int 0))).n == (1:Int))=vB (decide (a=1)))))) ((vB false=vB (decide (a=1))))) (by kernel_rfl) ?_;delta ifB vB nI;have ha:=AJ a;refine And.symm ⟨λc1=>?_,λc1=>?_⟩;simp only[nrm]at c1;exact congrArg Value.bool (decide_eq_false (λe=>by subst e;rw[PZ]at ha;omega)).symm;simp only[nrm]at c1;have h1:=Hl (b:=a) (by omega);refine ao (by omega) λo2=>?_;refine ao (by omega) λo3=>?_;rw[L_n,h1.1];exact congrArg Value.bool (by rw[Bool.eq_iff_iff,beq_iff_eq,decide_eq_true_iff];omega)
def Al:Con:={ι:=Bool×Nat,pre:=λi=>True,args:=λi=>[.one (cB i.1),.one (cS (L i.2))],mono:=true,res:=λi=>⟨false,[some 2],[rcB (decide ((zOf i.1 i.2)<0)),.view 3 [.int] (L (zOf i.1 i.2).natAbs)]⟩}
theorem E8:Al.Ok Tryz.prog 152:=by
 refine fok (X:=⟨tt,[],[],13,[]⟩) mixed AG (CTok.nil _) Tryz.func152 (λ_=>[]) ?_;rintro⟨neg,m⟩ a0;have a0:True:=a0;refine AH (q:=let Z2:=decide ((zOf neg m)<0);let Z1:=(L m)=L (zOf neg m).natAbs;ifB (neg) ((vB (decide ((nI ((L m).length))>(0:Int)))=vB Z2)/\Z1) ((vB false=vB Z2)/\Z1)) (by kernel_rfl) ?_;conv=>zeta
 delta ifB vB nI;refine⟨λc1=>?_,λc1=>?_⟩;refine⟨?_,?_⟩;rw[Lk,c1];rfl;rw[EV];refine⟨?_,?_⟩;rw[Lk,c1];rfl;rw[EV]
def GZ:Con:={ι:=Int,pre:=λi=>True,args:=λi=>[dB i],mono:=true,res:=λi=>⟨false,[some 2],[rcB (decide ((-i)<0)),.view 3 [.int] (L (-i).natAbs)]⟩}
theorem Vz:GZ.Ok Tryz.prog 184:=by
 refine fok (X:=⟨tt,[(152,Al)],[],9,[]⟩) mixed AG (CTok.cons E8 (CTok.nil _)) Tryz.func184 (λ_=>[]) ?_;intro (z:Int) a0;have a0:True:=a0;refine AH (q:=∃i1:Bool×Nat,[DA.one (cB (!(decide (z<0)))),DA.one (cS (L z.natAbs))]=Al.args i1/\Al.pre i1/\((vB (decide ((zOf i1.1 i1.2)<0))=vB (decide ((-z)<0)))/\(L (zOf i1.1 i1.2).natAbs=L (-z).natAbs))) (by kernel_rfl) ?_;delta vB
 refine⟨((!(decide (z<0))),z.natAbs),by
  rfl,by
  trivial,?_⟩
 refine⟨?_,?_⟩;rw[PX];rw[PX]
def Ga:Con:={ι:=Int×Int,pre:=λi=>nl i.1.natAbs<=1000/\nl i.2.natAbs<=1000,args:=λi=>[dB i.1,dB i.2],mono:=true,res:=λi=>⟨false,[some 2],[rcB (decide ((i.1+i.2)<0)),.view 3 [.int] (L (i.1+i.2).natAbs)]⟩}
theorem V0:Ga.Ok Tryz.prog 170:=by
 refine fok (X:=⟨tt,[(155,DH),(152,Al),(151,Ap),(190,B5)],[],42,[]⟩) mixed AG (CTok.cons ON (CTok.cons E8 (CTok.cons IK (CTok.cons OO (CTok.nil _))))) Tryz.func170 (λ_=>[]) ?_;rintro⟨x,y⟩ a1;have a1:nl x.natAbs<=1000/\nl y.natAbs<=1000:=a1;refine AH (q:=let Z4:=decide (x<0);let Z3:=decide ((x+y)<0);let Z2:=cS (L y.natAbs);let Z1:=cS (L x.natAbs);ifB ((Z4 == (decide (y<0)))) (∃i1:Nat×Nat,[DA.one Z1,DA.one Z2]=DH.args i1/\DH.pre i1/\(∃i2:Bool×Nat,[DA.one (cB Z4),DA.one (cS (L (i1.1+i1.2)))]=Al.args i2/\Al.pre i2/\((vB (decide ((zOf i2.1 i2.2)<0))=vB Z3)/\(L (zOf i2.1 i2.2).natAbs=L (x+y).natAbs)))) (∃i3:Nat×Nat,[DA.one Z1,DA.one Z2]=Ap.args i3/\Ap.pre i3/\(ifB ((decide ((Br i3.1 i3.2)>=(0:Int)))) (∃i4:Nat×Nat,[DA.one Z1,DA.one Z2]=B5.args i4/\B5.pre i4/\(∃i5:Bool×Nat,[DA.one (cB Z4),DA.one (cS (L (i4.1-i4.2)))]=Al.args i5/\Al.pre i5/\((vB (decide ((zOf i5.1 i5.2)<0))=vB Z3)/\(L (zOf i5.1 i5.2).natAbs=L (x+y).natAbs)))) (∃i6:Nat×Nat,[DA.one Z2,DA.one Z1]=B5.args i6/\B5.pre i6/\(∃i7:Bool×Nat,[DA.one (cB (decide (y<0))),DA.one (cS (L (i6.1-i6.2)))]=Al.args i7/\Al.pre i7/\((vB (decide ((zOf i7.1 i7.2)<0))=vB Z3)/\(L (zOf i7.1 i7.2).natAbs=L (x+y).natAbs))))))) (by kernel_rfl) ?_;conv=>zeta
 delta ifB vB;refine⟨λc1=>?_,λc1=>?_⟩;simp only[nrm]at c1
 refine⟨(x.natAbs,y.natAbs),by
  rfl,by
  show nl x.natAbs<=1048576/\nl y.natAbs<=1048576;exact⟨by omega,by omega⟩,?_⟩
 refine⟨(decide (x<0),(x.natAbs+y.natAbs)),by
  rfl,by
  trivial,?_⟩
 refine⟨?_,?_⟩;rw[Mw c1];rw[Mw c1];simp only[nrm]at c1
 refine⟨(x.natAbs,y.natAbs),by
  rfl,by
  show nl x.natAbs<=1048576/\nl y.natAbs<=1048576;exact⟨by omega,by omega⟩,?_⟩
 refine⟨λa0=>?_,λa0=>?_⟩;simp only[nrm]at a0
 refine⟨(x.natAbs,y.natAbs),by
  rfl,by
  show nl x.natAbs<=1048576/\nl y.natAbs<=1048576/\y.natAbs<=x.natAbs;exact⟨by omega,by omega,E4.1 a0⟩,?_⟩
 refine⟨(decide (x<0),(x.natAbs-y.natAbs)),by
  rfl,by
  trivial,?_⟩
 refine⟨?_,?_⟩;rw[Ja c1 (E4.1 a0)];rw[Ja c1 (E4.1 a0)];simp only[nrm]at a0
 refine⟨(y.natAbs,x.natAbs),by
  rfl,by
  show nl y.natAbs<=1048576/\nl x.natAbs<=1048576/\x.natAbs<=y.natAbs;exact⟨by omega,by omega,Nat.le_of_lt (Dm.1 a0)⟩,?_⟩
 refine⟨(decide (y<0),(y.natAbs-x.natAbs)),by
  rfl,by
  trivial,?_⟩
 refine⟨?_,?_⟩;rw[Mx c1 (Nat.le_of_lt (Dm.1 a0))];rw[Mx c1 (Nat.le_of_lt (Dm.1 a0))]
def A5:Con:={ι:=Int×Int,pre:=λi=>nl i.1.natAbs<=1000/\nl i.2.natAbs<=1000,args:=λi=>[dB i.1,dB i.2],mono:=true,res:=λi=>⟨false,[some 2],[rcB (decide ((i.1*i.2)<0)),.view 3 [.int] (L (i.1*i.2).natAbs)]⟩}
theorem IM:A5.Ok Tryz.prog 120:=by
 refine fok (X:=⟨tt,[(153,Aq),(152,Al)],[],16,[]⟩) mixed AG (CTok.cons Ei (CTok.cons E8 (CTok.nil _))) Tryz.func120 (λ_=>[]) ?_;rintro⟨x,y⟩ a0;have a0:nl x.natAbs<=1000/\nl y.natAbs<=1000:=a0;refine AH (q:=∃i1:Nat×Nat,[DA.one (cS (L x.natAbs)),DA.one (cS (L y.natAbs))]=Aq.args i1/\Aq.pre i1/\(∃i2:Bool×Nat,[DA.one (cB ((decide (x<0)) != (decide (y<0)))),DA.one (cS (L (i1.1*i1.2)))]=Al.args i2/\Al.pre i2/\((vB (decide ((zOf i2.1 i2.2)<0))=vB (decide ((x*y)<0)))/\(L (zOf i2.1 i2.2).natAbs=L (x*y).natAbs)))) (by kernel_rfl) ?_;delta vB
 refine⟨(x.natAbs,y.natAbs),by
  rfl,by
  show nl x.natAbs<=524288/\nl y.natAbs<=524288;exact⟨by omega,by omega⟩,?_⟩
 refine⟨(((decide (x<0)) != (decide (y<0))),(x.natAbs*y.natAbs)),by
  rfl,by
  trivial,?_⟩
 refine⟨?_,?_⟩;rw[Lj];rw[Lj]
def Gb:Con:={ι:=Int×Int,pre:=λi=>nl i.1.natAbs<=1000/\nl i.2.natAbs<=1000,args:=λi=>[dB i.1,dB i.2],mono:=true,res:=λi=>⟨false,[none],[rcI (DG i.1 i.2)]⟩}
theorem V1:Gb.Ok Tryz.prog 119:=by
 refine fok (X:=⟨tt,[(151,Ap)],[],28,[]⟩) mixed AG (CTok.cons IK (CTok.nil _)) Tryz.func119 (λ_=>[]) ?_;rintro⟨x,y⟩ a0;have a0:nl x.natAbs<=1000/\nl y.natAbs<=1000:=a0;refine AH (q:=let Z5:=decide (y<0);let Z4:=decide (x<0);let Z3:=cS (L x.natAbs);let Z2:=cS (L y.natAbs);let Z1:=DG x y;let Z7:=(vI (1:Int)=vI Z1);let Z6:=(vI (-1:Int)=vI Z1);ifB Z4 (ifB Z5 (∃i1:Nat×Nat,[DA.one Z2,DA.one Z3]=Ap.args i1/\Ap.pre i1/\((vI (Br i1.1 i1.2)=vI Z1))) (ifB Z4 Z6 (ifB Z5 Z7 (∃i2:Nat×Nat,[DA.one Z3,DA.one Z2]=Ap.args i2/\Ap.pre i2/\((vI (Br i2.1 i2.2)=vI Z1)))))) (ifB Z4 Z6 (ifB Z5 Z7 (∃i3:Nat×Nat,[DA.one Z3,DA.one Z2]=Ap.args i3/\Ap.pre i3/\((vI (Br i3.1 i3.2)=vI Z1)))))) (by kernel_rfl) ?_;conv=>zeta
 delta ifB vI;refine And.symm ⟨λc1=>?_,λc1=>?_⟩;simp only[nrm]at c1;refine⟨λa1=>?_,λa1=>?_⟩;simp only[nrm]at a1;exfalso;omega;simp only[nrm]at a1;refine⟨λa2=>?_,λa2=>?_⟩;simp only[nrm]at a2;rw[← Ug (by omega) (by omega)];simp only[nrm]at a2
 refine⟨(x.natAbs,y.natAbs),by
  rfl,by
  show nl x.natAbs<=1048576/\nl y.natAbs<=1048576;exact⟨by omega,by omega⟩,?_⟩
 rw[Ue (by omega) (by omega)];simp only[nrm]at c1;refine⟨λc2=>?_,λc2=>?_⟩;simp only[nrm]at c2
 refine⟨(y.natAbs,x.natAbs),by
  rfl,by
  show nl y.natAbs<=1048576/\nl x.natAbs<=1048576;exact⟨by omega,by omega⟩,?_⟩
 rw[Ud (by omega) (by omega)];simp only[nrm]at c2;refine⟨λc7=>?_,λc7=>?_⟩;simp only[nrm]at c7;rw[← Uf (by omega) (by omega)];simp only[nrm]at c7;refine⟨λc9=>?_,λc9=>?_⟩;simp only[nrm]at c9;exfalso;omega;simp only[nrm]at c9
 refine⟨(x.natAbs,y.natAbs),by
  rfl,by
  exact⟨by omega,by omega⟩,?_⟩
 exfalso;omega
def Cl:Con:={ι:=Bool×Nat,pre:=λi=>nl i.2<=60,args:=λi=>[DA.agg [cB i.1,cS (L i.2)]],mono:=true,res:=λi=>⟨false,[some 2],[rcB i.1,.own 3 [.int] (L i.2)]⟩}
theorem V3:Cl.Ok Tryz.prog 189:=by
 refine fok (X:=⟨tt,[(110,Am)],[],14,[]⟩) mixed AG (CTok.cons GY (CTok.nil _)) Tryz.func189 (λ_=>[]) ?_;rintro⟨neg,m⟩ a0;have a0:nl m<=60:=a0;refine AH (q:=ifB ((decide ((nI ((L m).length))>(60:Int)))) ((vB false=vB neg)/\(([]:List (List Dat))=L m)) (∃i1:(List (List Dat)),[DA.one (cS (L m))]=Am.args i1/\Am.pre i1/\((vB neg=vB neg)/\(i1=L m)))) (by kernel_rfl) ?_;delta ifB vB nI;have hm:=AJ m;refine⟨λc1=>?_,λc1=>?_⟩;simp only[nrm]at c1;refine⟨?_,?_⟩;exfalso;omega;exfalso;omega;simp only[nrm]at c1
 refine⟨(L m),by
  rfl,by
  show(L m).length<=1073741824;omega,?_⟩
 exact⟨rfl,rfl⟩
def C0:Con:={ι:=Int,pre:=λi=>-9223372036854775808<=i/\i<=9223372036854775807,args:=λi=>[.one (cI i)],mono:=true,res:=λi=>⟨false,[some 2],[rcB (decide (i<0)),.own 3 [.int] (L i.natAbs)]⟩}
theorem RF:C0.Ok Tryz.prog 121:=by
 refine fok (X:=⟨tt,[(154,A2),(155,DH)],[],18,[]⟩) mixed AG (CTok.cons Ms (CTok.cons ON (CTok.nil _))) Tryz.func121 (λ_=>[]) ?_;intro (n:Int) a0;have a0:-9223372036854775808<=n/\n<=9223372036854775807:=a0;refine AH (q:=let Z1:=vB true=vB (decide (n<0));ifB ((decide (n>=(0:Int)))) (∃i1:Nat,[DA.one (cI n)]=A2.args i1/\A2.pre i1/\((vB false=vB (decide (n<0)))/\(L i1=L n.natAbs))) (ifB ((n == (-9223372036854775808:Int))) (∃i2:Nat,[DA.one (cI (9223372036854775807:Int))]=A2.args i2/\A2.pre i2/\(∃i3:Nat,[DA.one (cI (1:Int))]=A2.args i3/\A2.pre i3/\(∃i4:Nat×Nat,[DA.one (cS (L i2)),DA.one (cS (L i3))]=DH.args i4/\DH.pre i4/\(Z1/\(L (i4.1+i4.2)=L n.natAbs))))) (∃i5:Nat,[DA.one (cI (wR (0-n)))]=A2.args i5/\A2.pre i5/\(Z1/\(L i5=L n.natAbs))))) (by kernel_rfl) ?_;conv=>zeta
 delta ifB vB wR;refine⟨λc1=>?_,λc1=>?_⟩;simp only[nrm]at c1;have en:n=((n.toNat:Nat):Int):=by omega
 have ea:n.natAbs=n.toNat:=by omega
 refine⟨n.toNat,by
  show[DA.one (DC.im (Value.int .i64 n))]=[DA.one (DC.im (Value.int .i64 ((n.toNat:Nat):Int)))];rw[← en],by
  show n.toNat<=9223372036854775807;omega,?_⟩
 refine⟨?_,?_⟩;rw[decide_eq_false (show ¬n<0 by omega)];rw[ea];simp only[nrm]at c1;refine And.symm ⟨λc7=>?_,λc7=>?_⟩;simp only[nrm]at c7;have en:IntKind.i64.wrap (0-n)=(((-n).toNat:Nat):Int):=by rw[AB (by omega) (by omega)];omega
 have ea:n.natAbs=(-n).toNat:=by omega
 refine⟨(-n).toNat,by
  rw[en];rfl,by
  show((-n).toNat)<=9223372036854775807;omega,?_⟩
 refine⟨?_,?_⟩;rw[decide_eq_true (show n<0 by omega)];rw[ea];simp only[nrm]at c7
 refine⟨9223372036854775807,by
  rfl,by
  show 9223372036854775807<=9223372036854775807;trivial,?_⟩
 refine⟨1,by
  rfl,by
  show 1<=9223372036854775807;trivial,?_⟩
 refine⟨(9223372036854775807,1),by
  rfl,by
  exact⟨Nat.le_trans ((Di 3 _).2 (by decide)) (by decide),Nat.le_trans ((Di 3 _).2 (by decide)) (by decide)⟩,?_⟩
 refine⟨?_,?_⟩;rw[decide_eq_true (show n<0 by omega)];rw[show n.natAbs=9223372036854775807+1 by omega]
def AP:Con:={ι:=Fr,pre:=λi=>True,args:=λi=>[dF i],mono:=true,res:=λi=>⟨false,[none],[rcB i.good]⟩}
theorem DV:AP.Ok Tryz.prog 118:=by refine fok (X:=⟨tt,[],[],7,[]⟩) mixed AG (CTok.nil _) Tryz.func118 (λ_=>[]) ?_;intro (r:Fr) a0;have a0:True:=a0;refine AH (q:=(vB (decide ((nI ((L r.d).length))>(0:Int)))=vB r.good)) (by kernel_rfl) ?_;delta vB nI;rw[AA3]
def BK:Con:={ι:=Int×Nat,pre:=λi=>i.2≠0/\nl i.1.natAbs<=1000/\nl i.2<=1000,args:=λi=>[dB i.1,.one (cS (L i.2))],mono:=true,res:=λi=>⟨false,[some 3],[rcB (decide ((Fr.mk' i.1 i.2).z<0)),.own 3 [.int] (L (Fr.mk' i.1 i.2).z.natAbs),.own 3 [.int] (L (Fr.mk' i.1 i.2).d)]⟩}
theorem Gc:BK.Ok Tryz.prog 169:=by
 refine fok (X:=⟨tt,[(186,Ej),(187,GW),(188,CQ),(189,Cl),(110,Am)],[],45,[]⟩) mixed AG (CTok.cons X2 (CTok.cons Vw (CTok.cons OP (CTok.cons V3 (CTok.cons GY (CTok.nil _)))))) Tryz.func169 (λ_=>[]) ?_;rintro⟨z,d⟩ a0;have a0:d≠0/\nl z.natAbs<=1000/\nl d<=1000:=a0;refine AH (q:=let Z8:=cS (L d);let Z7:=List (List Dat);let Z3:=(decide ((nI ((L d).length))>(24:Int)));let Z2:=(!(decide ((nI ((L z.natAbs).length))>(24:Int))));let Z1:=Fr.mk' z d;let Z6:=decide (Z1.z<0);let Z5:=(eqN Z1);∃i1:Nat,[DA.one Z8]=Ej.args i1/\Ej.pre i1/\(ifB ((!(decide (i1=1)))) (∃i2:Nat×Nat,let Z4:=cS (L (i2.1.gcd i2.2));[DA.one (cS (L z.natAbs)),DA.one Z8]=GW.args i2/\GW.pre i2/\(∃i3:Nat,[DA.one Z4]=Ej.args i3/\Ej.pre i3/\(ifB ((!(decide (i3=1)))) (∃i4:Nat×Nat,[DA.one (cS (L z.natAbs)),DA.one Z4]=CQ.args i4/\CQ.pre i4/\(∃i5:Nat×Nat,[DA.one Z8,DA.one Z4]=CQ.args i5/\CQ.pre i5/\(ifB ((!(decide ((nI ((L (i4.1/i4.2)).length))>(24:Int))))) (ifB ((decide ((nI ((L (i5.1/i5.2)).length))>(24:Int)))) Z5 (∃i6:Bool×Nat,[DA.agg [cB (decide (z<0)),cS (L (i4.1/i4.2))]]=Cl.args i6/\Cl.pre i6/\(∃i7:Z7,[DA.one (cS (L (i5.1/i5.2)))]=Am.args i7/\Am.pre i7/\((vB i6.1=vB Z6)/\(L i6.2=L Z1.z.natAbs)/\(i7=L Z1.d))))) Z5))) (ifB Z2 (ifB Z3 Z5 (∃i8:Bool×Nat,[dB z]=Cl.args i8/\Cl.pre i8/\(∃i9:Z7,[DA.one Z8]=Am.args i9/\Am.pre i9/\((vB i8.1=vB Z6)/\(L i8.2=L Z1.z.natAbs)/\(i9=L Z1.d))))) Z5)))) (ifB Z2 (ifB Z3 Z5 (∃a1:Bool×Nat,[dB z]=Cl.args a1/\Cl.pre a1/\(∃a3:Z7,[DA.one Z8]=Am.args a3/\Am.pre a3/\((vB a1.1=vB Z6)/\(L a1.2=L Z1.z.natAbs)/\(a3=L Z1.d))))) Z5))) (by kernel_rfl) ?_;conv=>zeta
 delta ifB vB nI;have hg:=Ui (a:=z.natAbs) a0.1
 refine⟨d,by
  rfl,by
  trivial,?_⟩
 refine And.symm ⟨λc4=>?_,λc4=>?_⟩;simp only[nrm]at c4;have e1:z.natAbs.gcd d=1:=by rw[c4];exact Nat.gcd_one_right _
 have ez:z.natAbs/z.natAbs.gcd d=z.natAbs:=by rw[e1,Nat.div_one]
 have ed:d/z.natAbs.gcd d=d:=by rw[e1,Nat.div_one]
 have lz:=AJ (z.natAbs/z.natAbs.gcd d);have ld:=AJ (d/z.natAbs.gcd d);rw[ez]at lz;rw[ed]at ld;refine And.symm ⟨λa4=>?_,λa4=>?_⟩;simp only[nrm]at a4;refine Ax ?_;rw[E6 a0.1 (by rw[ez,ed];omega)];simp only[nrm]at a4;refine⟨λa5=>?_,λa5=>?_⟩;simp only[nrm]at a5;refine Ax ?_;rw[E6 a0.1 (by rw[ez,ed];omega)];simp only[nrm]at a5
 refine⟨(decide (z<0),z.natAbs),by
  rfl,by
  show nl z.natAbs<=60;omega,?_⟩
 refine⟨(L d),by
  rfl,by
  show(L d).length<=1073741824;omega,?_⟩
 refine⟨?_,?_,?_⟩;rw[(EB a0.1 (by rw[ez];omega) (by rw[ed];omega)).1];rw[(EB a0.1 (by rw[ez];omega) (by rw[ed];omega)).2.1,ez];rw[(EB a0.1 (by rw[ez];omega) (by rw[ed];omega)).2.2,ed];simp only[nrm]at c4
 refine⟨(z.natAbs,d),by
  rfl,by
  show nl z.natAbs<=131072/\nl d<=131072;exact⟨by omega,by omega⟩,?_⟩
 refine⟨(z.natAbs.gcd d),by
  rfl,by
  trivial,?_⟩
 refine And.symm ⟨λa2=>?_,λa2=>?_⟩;simp only[nrm]at a2;have e1:z.natAbs.gcd d=1:=a2;have ez:z.natAbs/z.natAbs.gcd d=z.natAbs:=by rw[e1,Nat.div_one]
 have ed:d/z.natAbs.gcd d=d:=by rw[e1,Nat.div_one]
 have lz:=AJ (z.natAbs/z.natAbs.gcd d);have ld:=AJ (d/z.natAbs.gcd d);rw[ez]at lz;rw[ed]at ld;refine And.symm ⟨λa6=>?_,λa6=>?_⟩;simp only[nrm]at a6;refine Ax ?_;rw[E6 a0.1 (by rw[ez,ed];omega)];simp only[nrm]at a6;refine⟨λa7=>?_,λa7=>?_⟩;simp only[nrm]at a7;refine Ax ?_;rw[E6 a0.1 (by rw[ez,ed];omega)];simp only[nrm]at a7
 refine⟨(decide (z<0),z.natAbs),by
  rfl,by
  show nl z.natAbs<=60;omega,?_⟩
 refine⟨(L d),by
  rfl,by
  show(L d).length<=1073741824;omega,?_⟩
 refine⟨?_,?_,?_⟩;rw[(EB a0.1 (by rw[ez];omega) (by rw[ed];omega)).1];rw[(EB a0.1 (by rw[ez];omega) (by rw[ed];omega)).2.1,ez];rw[(EB a0.1 (by rw[ez];omega) (by rw[ed];omega)).2.2,ed];simp only[nrm]at a2;have ez:z.natAbs/z.natAbs.gcd d=z.natAbs/z.natAbs.gcd d:=rfl;have ed:d/z.natAbs.gcd d=d/z.natAbs.gcd d:=rfl;have lz:=AJ (z.natAbs/z.natAbs.gcd d);have ld:=AJ (d/z.natAbs.gcd d);rw[ez]at lz;rw[ed]at ld
 refine⟨(z.natAbs,(z.natAbs.gcd d)),by
  rfl,by
  show(z.natAbs.gcd d)≠0/\nl z.natAbs<=131072/\nl (z.natAbs.gcd d)<=131072;exact⟨by omega,by omega⟩,?_⟩
 refine⟨(d,(z.natAbs.gcd d)),by
  rfl,by
  show(z.natAbs.gcd d)≠0/\nl d<=131072/\nl (z.natAbs.gcd d)<=131072;exact⟨by omega,by omega⟩,?_⟩
 refine And.symm ⟨λa8=>?_,λa8=>?_⟩;simp only[nrm]at a8;refine Ax ?_;rw[E6 a0.1 (by rw[ez,ed];omega)];simp only[nrm]at a8;refine⟨λa9=>?_,λa9=>?_⟩;simp only[nrm]at a9;refine Ax ?_;rw[E6 a0.1 (by rw[ez,ed];omega)];simp only[nrm]at a9
 refine⟨(decide (z<0),(z.natAbs/(z.natAbs.gcd d))),by
  rfl,by
  show nl (z.natAbs/(z.natAbs.gcd d))<=60;omega,?_⟩
 refine⟨L (d/(z.natAbs.gcd d)),by
  rfl,by
  show(L (d/(z.natAbs.gcd d))).length<=1073741824;omega,?_⟩
 refine⟨?_,?_,?_⟩;rw[(EB a0.1 (by rw[ez];omega) (by rw[ed];omega)).1];rw[(EB a0.1 (by rw[ez];omega) (by rw[ed];omega)).2.1,ez];rw[(EB a0.1 (by rw[ez];omega) (by rw[ed];omega)).2.2,ed]
def AT:Con:={ι:=Int,pre:=λi=>-9223372036854775808<=i/\i<=9223372036854775807,args:=λi=>[.one (cI i)],mono:=true,res:=λi=>⟨false,[some 3],[rcB (decide ((Fr.ofInt i).z<0)),.own 3 [.int] (L (Fr.ofInt i).z.natAbs),.own 3 [.int] (L (Fr.ofInt i).d)]⟩}
theorem Ek:AT.Ok Tryz.prog 82:=by
 refine fok (X:=⟨tt,[(121,C0)],[],7,[]⟩) mixed AG (CTok.cons RF (CTok.nil _)) Tryz.func82 (λ_=>[]) ?_;intro (n:Int) a0;have a0:-9223372036854775808<=n/\n<=9223372036854775807:=a0;refine AH (q:=∃i1:Int,[DA.one (cI n)]=C0.args i1/\C0.pre i1/\((vB (decide (i1<0))=vB (decide ((Fr.ofInt n).z<0)))/\(L i1.natAbs=L (Fr.ofInt n).z.natAbs)/\(([[Dat.int (1:Int)]]:List (List Dat))=L (Fr.ofInt n).d))) (by kernel_rfl) ?_;delta vB
 refine⟨n,by
  rfl,by
  exact a0,?_⟩
 refine⟨?_,?_,?_⟩;rw[(E7 (Cd a0)).1];rw[(E7 (Cd a0)).1];rw[(E7 (Cd a0)).2];exact Xy (by decide) (by decide)
def B6:Con:={ι:=Fr×Fr,pre:=λi=>True,args:=λi=>[dF i.1,dF i.2],mono:=true,res:=λi=>⟨false,[some 3],[rcB (decide ((Fr.add i.1 i.2).z<0)),.own 3 [.int] (L (Fr.add i.1 i.2).z.natAbs),.own 3 [.int] (L (Fr.add i.1 i.2).d)]⟩}
theorem KP:B6.Ok Tryz.prog 143:=by
 refine fok (X:=⟨tt,[(118,AP),(120,A5),(170,Ga),(153,Aq),(169,BK)],[],35,[]⟩) mixed AG (CTok.cons DV (CTok.cons IM (CTok.cons V0 (CTok.cons Ei (CTok.cons Gc (CTok.nil _)))))) Tryz.func143 (λ_=>[]) ?_;rintro⟨r,s⟩ a0;have a0:True:=a0;refine AH (q:=∃i1:Fr,[dF r]=AP.args i1/\AP.pre i1/\(ifB ((!(!i1.good))) (∃i2:Fr,[dF s]=AP.args i2/\AP.pre i2/\(ifB ((!i2.good)) ((eqN (Fr.add r s))) (∃i3:Int×Int,[dB r.z,DA.agg [cB false,cS (L s.d)]]=A5.args i3/\A5.pre i3/\(∃i4:Int×Int,[dB s.z,DA.agg [cB false,cS (L r.d)]]=A5.args i4/\A5.pre i4/\(∃i5:Int×Int,[dB (i3.1*i3.2),dB (i4.1*i4.2)]=Ga.args i5/\Ga.pre i5/\(∃i6:Nat×Nat,[DA.one (cS (L r.d)),DA.one (cS (L s.d))]=Aq.args i6/\Aq.pre i6/\(∃i7:Int×Nat,[dB (i5.1+i5.2),DA.one (cS (L (i6.1*i6.2)))]=BK.args i7/\BK.pre i7/\((eqC (Fr.mk' i7.1 i7.2) (Fr.add r s)))))))))) ((eqN (Fr.add r s))))) (by kernel_rfl) ?_;delta ifB;have h1:=r.nlz;have h2:=r.nld;have h3:=s.nlz;have h4:=s.nld
 refine⟨r,by
  rfl,by
  trivial,?_⟩
 refine And.symm ⟨λc4=>?_,λc4=>?_⟩;simp only[nrm]at c4;have hE:Fr.add r s=Fr.none:=Fr.bin_bad _ (.inl (CL c4));refine Ax ?_;rw[hE];simp only[nrm]at c4
 refine⟨s,by
  rfl,by
  trivial,?_⟩
 refine⟨λc8=>?_,λc8=>?_⟩;simp only[nrm]at c8;have hE:Fr.add r s=Fr.none:=Fr.bin_bad _ (.inr (CL c8));refine Ax ?_;rw[hE];simp only[nrm]at c8;have hE:=Fr.add_zd (Ar c4) (Ar c8);have m1:=BQ r.z ((s.d:Nat):Int);have m2:=BQ s.z ((r.d:Nat):Int);rw[Dn]at m1 m2;have m3:=E5 (r.z*((s.d:Nat):Int)) (s.z*((r.d:Nat):Int));have m4:=As r.d s.d;have m5:r.d*s.d≠0:=Nat.mul_ne_zero (Ar c4) (Ar c8)
 refine⟨(r.z,((s.d:Nat):Int)),by
  rfl,by
  show nl r.z.natAbs<=1000/\nl ((s.d:Nat):Int).natAbs<=1000;exact⟨by omega,by rw[Dn];omega⟩,?_⟩
 refine⟨(s.z,((r.d:Nat):Int)),by
  rfl,by
  show nl s.z.natAbs<=1000/\nl ((r.d:Nat):Int).natAbs<=1000;exact⟨by omega,by rw[Dn];omega⟩,?_⟩
 refine⟨((r.z*((s.d:Nat):Int)),(s.z*((r.d:Nat):Int))),by
  rfl,by
  show nl (r.z*((s.d:Nat):Int)).natAbs<=1000/\nl (s.z*((r.d:Nat):Int)).natAbs<=1000;exact⟨by omega,by omega⟩,?_⟩
 refine⟨(r.d,s.d),by
  rfl,by
  show nl r.d<=524288/\nl s.d<=524288;exact⟨by omega,by omega⟩,?_⟩
 refine⟨(((r.z*((s.d:Nat):Int))+(s.z*((r.d:Nat):Int))),(r.d*s.d)),by
  rfl,by
  show(r.d*s.d)≠0/\nl ((r.z*((s.d:Nat):Int))+(s.z*((r.d:Nat):Int))).natAbs<=1000/\nl (r.d*s.d)<=1000;exact⟨by omega,by omega⟩,?_⟩
 refine Bo ?_;rw[hE]
def Gd:Con:={ι:=Fr×Fr,pre:=λi=>True,args:=λi=>[dF i.1,dF i.2],mono:=true,res:=λi=>⟨false,[some 3],[rcB (decide ((Fr.mul i.1 i.2).z<0)),.own 3 [.int] (L (Fr.mul i.1 i.2).z.natAbs),.own 3 [.int] (L (Fr.mul i.1 i.2).d)]⟩}
theorem V4:Gd.Ok Tryz.prog 147:=by
 refine fok (X:=⟨tt,[(118,AP),(120,A5),(153,Aq),(169,BK)],[],25,[]⟩) mixed AG (CTok.cons DV (CTok.cons IM (CTok.cons Ei (CTok.cons Gc (CTok.nil _))))) Tryz.func147 (λ_=>[]) ?_;rintro⟨r,s⟩ a0;have a0:True:=a0;refine AH (q:=∃i1:Fr,[dF r]=AP.args i1/\AP.pre i1/\(ifB ((!(!i1.good))) (∃i2:Fr,[dF s]=AP.args i2/\AP.pre i2/\(ifB ((!i2.good)) ((eqN (Fr.mul r s))) (∃i3:Int×Int,[dB r.z,dB s.z]=A5.args i3/\A5.pre i3/\(∃i4:Nat×Nat,[DA.one (cS (L r.d)),DA.one (cS (L s.d))]=Aq.args i4/\Aq.pre i4/\(∃i5:Int×Nat,[dB (i3.1*i3.2),DA.one (cS (L (i4.1*i4.2)))]=BK.args i5/\BK.pre i5/\((eqC (Fr.mk' i5.1 i5.2) (Fr.mul r s)))))))) ((eqN (Fr.mul r s))))) (by kernel_rfl) ?_;delta ifB;have h1:=r.nlz;have h2:=r.nld;have h3:=s.nlz;have h4:=s.nld
 refine⟨r,by
  rfl,by
  trivial,?_⟩
 refine And.symm ⟨λc4=>?_,λc4=>?_⟩;simp only[nrm]at c4;have hE:Fr.mul r s=Fr.none:=Fr.bin_bad _ (.inl (CL c4));refine Ax ?_;rw[hE];simp only[nrm]at c4
 refine⟨s,by
  rfl,by
  trivial,?_⟩
 refine⟨λc8=>?_,λc8=>?_⟩;simp only[nrm]at c8;have hE:Fr.mul r s=Fr.none:=Fr.bin_bad _ (.inr (CL c8));refine Ax ?_;rw[hE];simp only[nrm]at c8;have hE:=Fr.mul_zd (Ar c4) (Ar c8);have m1:=BQ r.z s.z;have m4:=As r.d s.d;have m5:r.d*s.d≠0:=Nat.mul_ne_zero (Ar c4) (Ar c8)
 refine⟨(r.z,s.z),by
  rfl,by
  show nl r.z.natAbs<=1000/\nl s.z.natAbs<=1000;exact⟨by omega,by omega⟩,?_⟩
 refine⟨(r.d,s.d),by
  rfl,by
  show nl r.d<=524288/\nl s.d<=524288;exact⟨by omega,by omega⟩,?_⟩
 refine⟨((r.z*s.z),(r.d*s.d)),by
  rfl,by
  show(r.d*s.d)≠0/\nl (r.z*s.z).natAbs<=1000/\nl (r.d*s.d)<=1000;exact⟨by omega,by omega⟩,?_⟩
 refine Bo ?_;rw[hE]
def DJ:Con:={ι:=Fr×Fr,pre:=λi=>True,args:=λi=>[dF i.1,dF i.2],mono:=true,res:=λi=>⟨false,[some 3],[rcB (decide ((Fr.div i.1 i.2).z<0)),.own 3 [.int] (L (Fr.div i.1 i.2).z.natAbs),.own 3 [.int] (L (Fr.div i.1 i.2).d)]⟩}
theorem OQ:DJ.Ok Tryz.prog 142:=by
 refine fok (X:=⟨tt,[(118,AP),(120,A5),(152,Al),(153,Aq),(169,BK)],[],44,[]⟩) mixed AG (CTok.cons DV (CTok.cons IM (CTok.cons E8 (CTok.cons Ei (CTok.cons Gc (CTok.nil _)))))) Tryz.func142 (λ_=>[]) ?_;rintro⟨r,s⟩ a0;have a0:True:=a0;refine AH (q:=let Z1:=(eqN (Fr.div r s));∃i1:Fr,[dF r]=AP.args i1/\AP.pre i1/\(ifB ((!(!i1.good))) (∃i2:Fr,[dF s]=AP.args i2/\AP.pre i2/\(ifB ((!(!i2.good))) (ifB (((nI ((L s.z.natAbs).length)) == (0:Int))) Z1 (∃i3:Int×Int,[dB r.z,DA.agg [cB false,cS (L s.d)]]=A5.args i3/\A5.pre i3/\(∃i4:Bool×Nat,[DA.one (cB ((decide ((i3.1*i3.2)<0)) != (decide (s.z<0)))),DA.one (cS (L (i3.1*i3.2).natAbs))]=Al.args i4/\Al.pre i4/\(∃i5:Nat×Nat,[DA.one (cS (L r.d)),DA.one (cS (L s.z.natAbs))]=Aq.args i5/\Aq.pre i5/\(∃i6:Int×Nat,[dB (zOf i4.1 i4.2),DA.one (cS (L (i5.1*i5.2)))]=BK.args i6/\BK.pre i6/\((eqC (Fr.mk' i6.1 i6.2) (Fr.div r s)))))))) Z1)) Z1)) (by kernel_rfl) ?_;conv=>zeta
 delta ifB nI;have h1:=r.nlz;have h2:=r.nld;have h3:=s.nlz;have h4:=s.nld
 refine⟨r,by
  rfl,by
  trivial,?_⟩
 refine And.symm ⟨λc4=>?_,λc4=>?_⟩;simp only[nrm]at c4;have hE:Fr.div r s=Fr.none:=Fr.div_bad (.inl (CL c4));refine Ax ?_;rw[hE];simp only[nrm]at c4
 refine⟨s,by
  rfl,by
  trivial,?_⟩
 refine And.symm ⟨λc8=>?_,λc8=>?_⟩;simp only[nrm]at c8;have hE:Fr.div r s=Fr.none:=Fr.div_bad (.inr (.inl (CL c8)));refine Ax ?_;rw[hE];simp only[nrm]at c8;refine⟨λc9=>?_,λc9=>?_⟩;simp only[nrm]at c9;have hE:Fr.div r s=Fr.none:=Fr.div_bad (.inr (.inr (ACs (by omega))));refine Ax ?_;rw[hE];simp only[nrm]at c9;have hz:s.z≠0:=ABu (by omega);have hE:=Fr.div_zd (Ar c4) (Ar c8) hz;have m1:=BQ r.z ((s.d:Nat):Int);have m2:=BQ s.z ((r.d:Nat):Int);rw[Dn]at m1 m2;have m4:=As r.d s.z.natAbs;have m5:r.d*s.z.natAbs≠0:=Nat.mul_ne_zero (Ar c4) (by omega)
 refine⟨(r.z,((s.d:Nat):Int)),by
  rfl,by
  show nl r.z.natAbs<=1000/\nl ((s.d:Nat):Int).natAbs<=1000;exact⟨by omega,by rw[Dn];omega⟩,?_⟩
 refine⟨(((decide ((r.z*((s.d:Nat):Int))<0)) != (decide (s.z<0))),(r.z*((s.d:Nat):Int)).natAbs),by
  rfl,by
  trivial,?_⟩
 refine⟨(r.d,s.z.natAbs),by
  rfl,by
  show nl r.d<=524288/\nl s.z.natAbs<=524288;exact⟨by omega,by omega⟩,?_⟩
 refine⟨((zOf ((decide ((r.z*((s.d:Nat):Int))<0)) != (decide (s.z<0))) ((r.z*((s.d:Nat):Int)).natAbs)),(r.d*s.z.natAbs)),by
  rfl,by
  show(r.d*s.z.natAbs)≠0/\nl (zOf ((decide ((r.z*((s.d:Nat):Int))<0)) != (decide (s.z<0))) ((r.z*((s.d:Nat):Int)).natAbs)).natAbs<=1000/\nl (r.d*s.z.natAbs)<=1000;exact⟨m5,by rw[EV];omega,by omega⟩,?_⟩
 refine Bo ?_;rw[hE]
def Ge:Con:={ι:=Fr,pre:=λi=>True,args:=λi=>[dF i],mono:=true,res:=λi=>⟨false,[some 3],[rcB (decide (i.opp.z<0)),.view 3 [.int] (L i.opp.z.natAbs),.view 3 [.int] (L i.opp.d)]⟩}
theorem V5:Ge.Ok Tryz.prog 167:=by
 refine fok (X:=⟨tt,[(184,GZ)],[],9,[]⟩) mixed AG (CTok.cons Vz (CTok.nil _)) Tryz.func167 (λ_=>[]) ?_;intro (r:Fr) a0;have a0:True:=a0;refine AH (q:=∃i1:Int,[dB r.z]=GZ.args i1/\GZ.pre i1/\((vB (decide ((-i1)<0))=vB (decide (r.opp.z<0)))/\(L (-i1).natAbs=L r.opp.z.natAbs)/\((L r.d)=L r.opp.d))) (by kernel_rfl) ?_;delta vB
 refine⟨r.z,by
  rfl,by
  trivial,?_⟩
 refine⟨?_,?_,?_⟩;rw[Fr.opp_z];rw[Fr.opp_z];rw[Fr.opp_d]
def CR:Con:={ι:=Fr×Fr,pre:=λi=>True,args:=λi=>[dF i.1,dF i.2],mono:=true,res:=λi=>⟨false,[some 3],[rcB (decide ((Fr.sub i.1 i.2).z<0)),.own 3 [.int] (L (Fr.sub i.1 i.2).z.natAbs),.own 3 [.int] (L (Fr.sub i.1 i.2).d)]⟩}
theorem OR:CR.Ok Tryz.prog 140:=by
 refine fok (X:=⟨tt,[(167,Ge),(143,B6)],[],9,[]⟩) mixed AG (CTok.cons V5 (CTok.cons KP (CTok.nil _))) Tryz.func140 (λ_=>[]) ?_;rintro⟨r,s⟩ a0;have a0:True:=a0;refine AH (q:=∃i1:Fr,[dF s]=Ge.args i1/\Ge.pre i1/\(∃i2:Fr×Fr,[dF r,dF i1.opp]=B6.args i2/\B6.pre i2/\((eqC (Fr.add i2.1 i2.2) (Fr.sub r s))))) (by kernel_rfl) ?_
 refine⟨s,by
  rfl,by
  trivial,?_⟩
 refine⟨(r,s.opp),by
  rfl,by
  trivial,?_⟩
 refine Bo ?_;rw[Fr.sub_opp]
def AI:Con:={ι:=Fr×Fr,pre:=λi=>True,args:=λi=>[dF i.1,dF i.2],mono:=true,res:=λi=>⟨false,[none],[rcI (Fr.cmp i.1 i.2)]⟩}
theorem D0:AI.Ok Tryz.prog 81:=by
 refine fok (X:=⟨tt,[(118,AP),(120,A5),(119,Gb)],[],26,[]⟩) mixed AG (CTok.cons DV (CTok.cons IM (CTok.cons V1 (CTok.nil _)))) Tryz.func81 (λ_=>[]) ?_;rintro⟨r,s⟩ a0;have a0:True:=a0;refine AH (q:=let Z1:=(vI (0:Int)=vI (Fr.cmp r s));∃i1:Fr,[dF r]=AP.args i1/\AP.pre i1/\(ifB ((!(!i1.good))) (∃i2:Fr,[dF s]=AP.args i2/\AP.pre i2/\(ifB ((!i2.good)) Z1 (∃i3:Int×Int,[dB r.z,DA.agg [cB false,cS (L s.d)]]=A5.args i3/\A5.pre i3/\(∃i4:Int×Int,[dB s.z,DA.agg [cB false,cS (L r.d)]]=A5.args i4/\A5.pre i4/\(∃i5:Int×Int,[dB (i3.1*i3.2),dB (i4.1*i4.2)]=Gb.args i5/\Gb.pre i5/\((vI (DG i5.1 i5.2)=vI (Fr.cmp r s)))))))) Z1)) (by kernel_rfl) ?_;conv=>zeta
 delta ifB vI;have h1:=r.nlz;have h2:=r.nld;have h3:=s.nlz;have h4:=s.nld
 refine⟨r,by
  rfl,by
  trivial,?_⟩
 refine And.symm ⟨λc4=>?_,λc4=>?_⟩;simp only[nrm]at c4;have hE:Fr.cmp r s=0:=Fr.cmp_bad (.inl (CL c4));rw[hE];simp only[nrm]at c4
 refine⟨s,by
  rfl,by
  trivial,?_⟩
 refine⟨λc8=>?_,λc8=>?_⟩;simp only[nrm]at c8;have hE:Fr.cmp r s=0:=Fr.cmp_bad (.inr (CL c8));rw[hE];simp only[nrm]at c8;have hE:=Fr.cmp_zd (Ar c4) (Ar c8);have m1:=BQ r.z ((s.d:Nat):Int);have m2:=BQ s.z ((r.d:Nat):Int);rw[Dn]at m1 m2
 refine⟨(r.z,((s.d:Nat):Int)),by
  rfl,by
  show nl r.z.natAbs<=1000/\nl ((s.d:Nat):Int).natAbs<=1000;exact⟨by omega,by rw[Dn];omega⟩,?_⟩
 refine⟨(s.z,((r.d:Nat):Int)),by
  rfl,by
  show nl s.z.natAbs<=1000/\nl ((r.d:Nat):Int).natAbs<=1000;exact⟨by omega,by rw[Dn];omega⟩,?_⟩
 refine⟨((r.z*((s.d:Nat):Int)),(s.z*((r.d:Nat):Int))),by
  rfl,by
  show nl (r.z*((s.d:Nat):Int)).natAbs<=1000/\nl (s.z*((r.d:Nat):Int)).natAbs<=1000;exact⟨by omega,by omega⟩,?_⟩
 rw[hE]
def CS:Con:={ι:=Fr×Fr,pre:=λi=>True,args:=λi=>[dF i.1,dF i.2],mono:=true,res:=λi=>⟨false,[some 3],[rcB (decide ((Fr.min i.1 i.2).z<0)),.view 3 [.int] (L (Fr.min i.1 i.2).z.natAbs),.view 3 [.int] (L (Fr.min i.1 i.2).d)]⟩}
theorem OS:CS.Ok Tryz.prog 84:=by
 refine fok (X:=⟨tt,[(118,AP),(81,AI)],[],22,[]⟩) mixed AG (CTok.cons DV (CTok.cons D0 (CTok.nil _))) Tryz.func84 (λ_=>[]) ?_;rintro⟨r,s⟩ a0;have a0:True:=a0;refine AH (q:=let Z1:=Fr.min r s;∃i1:Fr,[dF r]=AP.args i1/\AP.pre i1/\(ifB ((!(!i1.good))) (∃i2:Fr,[dF s]=AP.args i2/\AP.pre i2/\(ifB ((!i2.good)) ((eqN Z1)) (∃i3:Fr×Fr,[dF r,dF s]=AI.args i3/\AI.pre i3/\(ifB ((decide ((Fr.cmp i3.1 i3.2)<=(0:Int)))) ((eqC r Z1)) ((eqC s Z1)))))) ((eqN Z1)))) (by kernel_rfl) ?_;conv=>zeta
 delta ifB
 refine⟨r,by
  rfl,by
  trivial,?_⟩
 refine And.symm ⟨λc4=>?_,λc4=>?_⟩;simp only[nrm]at c4;have hE:Fr.min r s=Fr.none:=Fr.bin_bad _ (.inl (CL c4));refine Ax ?_;rw[hE];simp only[nrm]at c4
 refine⟨s,by
  rfl,by
  trivial,?_⟩
 refine⟨λc8=>?_,λc8=>?_⟩;simp only[nrm]at c8;have hE:Fr.min r s=Fr.none:=Fr.bin_bad _ (.inr (CL c8));refine Ax ?_;rw[hE];simp only[nrm]at c8
 refine⟨(r,s),by
  rfl,by
  trivial,?_⟩
 refine⟨λa1=>?_,λa1=>?_⟩;simp only[nrm]at a1;have hE:Fr.min r s=r:=by rw[Fr.min_pick,if_neg (λh=>h.elim (Ar c4) (Ar c8)),if_pos (by omega)]
 refine Bo ?_;rw[hE];simp only[nrm]at a1;have hE:Fr.min r s=s:=by rw[Fr.min_pick,if_neg (λh=>h.elim (Ar c4) (Ar c8)),if_neg (by omega)]
 refine Bo ?_;rw[hE]
def CT:Con:={ι:=Fr×Fr,pre:=λi=>True,args:=λi=>[dF i.1,dF i.2],mono:=true,res:=λi=>⟨false,[some 3],[rcB (decide ((Fr.max i.1 i.2).z<0)),.view 3 [.int] (L (Fr.max i.1 i.2).z.natAbs),.view 3 [.int] (L (Fr.max i.1 i.2).d)]⟩}
theorem OT:CT.Ok Tryz.prog 85:=by
 refine fok (X:=⟨tt,[(118,AP),(81,AI)],[],22,[]⟩) mixed AG (CTok.cons DV (CTok.cons D0 (CTok.nil _))) Tryz.func85 (λ_=>[]) ?_;rintro⟨r,s⟩ a0;have a0:True:=a0;refine AH (q:=let Z1:=Fr.max r s;∃i1:Fr,[dF r]=AP.args i1/\AP.pre i1/\(ifB ((!(!i1.good))) (∃i2:Fr,[dF s]=AP.args i2/\AP.pre i2/\(ifB ((!i2.good)) ((eqN Z1)) (∃i3:Fr×Fr,[dF r,dF s]=AI.args i3/\AI.pre i3/\(ifB ((decide ((Fr.cmp i3.1 i3.2)>=(0:Int)))) ((eqC r Z1)) ((eqC s Z1)))))) ((eqN Z1)))) (by kernel_rfl) ?_;conv=>zeta
 delta ifB
 refine⟨r,by
  rfl,by
  trivial,?_⟩
 refine And.symm ⟨λc4=>?_,λc4=>?_⟩;simp only[nrm]at c4;have hE:Fr.max r s=Fr.none:=Fr.bin_bad _ (.inl (CL c4));refine Ax ?_;rw[hE];simp only[nrm]at c4
 refine⟨s,by
  rfl,by
  trivial,?_⟩
 refine⟨λc8=>?_,λc8=>?_⟩;simp only[nrm]at c8;have hE:Fr.max r s=Fr.none:=Fr.bin_bad _ (.inr (CL c8));refine Ax ?_;rw[hE];simp only[nrm]at c8
 refine⟨(r,s),by
  rfl,by
  trivial,?_⟩
 refine⟨λa1=>?_,λa1=>?_⟩;simp only[nrm]at a1;have hE:Fr.max r s=r:=by rw[Fr.max_pick,if_neg (λh=>h.elim (Ar c4) (Ar c8)),if_pos (by omega)]
 refine Bo ?_;rw[hE];simp only[nrm]at a1;have hE:Fr.max r s=s:=by rw[Fr.max_pick,if_neg (λh=>h.elim (Ar c4) (Ar c8)),if_neg (by omega)]
 refine Bo ?_;rw[hE]
def A6:Con:={ι:=Bool×(List (List Dat))×(List (List Dat)),pre:=λi=>i.2.1.length<=1073741824/\i.2.2.length<=1073741824,args:=λi=>[DA.agg [cB i.1,cS i.2.1,cS i.2.2]],mono:=true,res:=λi=>⟨false,[some 3],[rcB i.1,.own 3 [.int] i.2.1,.own 3 [.int] i.2.2]⟩}
theorem OU:A6.Ok Tryz.prog 71:=by
 refine fok (X:=⟨tt,[(110,Am)],[],15,[]⟩) mixed AG (CTok.cons GY (CTok.nil _)) Tryz.func71 (λ_=>[]) ?_;rintro⟨neg,m,d⟩ a0;have a0:m.length<=1073741824/\d.length<=1073741824:=a0;refine AH (q:=∃i1:(List (List Dat)),[DA.one (cS m)]=Am.args i1/\Am.pre i1/\(∃i2:(List (List Dat)),[DA.one (cS d)]=Am.args i2/\Am.pre i2/\((vB neg=vB neg)/\(i1=m)/\(i2=d)))) (by kernel_rfl) ?_;delta vB
 refine⟨m,by
  rfl,by
  first|omega|assumption|exact a0.1|exact a0.2|(simp;done),?_⟩
 refine⟨d,by
  rfl,by
  first|omega|assumption|exact a0.1|exact a0.2|(simp;done),?_⟩
 exact⟨rfl,rfl,rfl⟩
def IN:Con:={ι:=(List (List Dat)),pre:=λi=>i.length<=9223372036854775807,args:=λi=>[.one (cS i)],mono:=true,res:=λi=>⟨false,[none],[rcB (BG i)]⟩}
theorem X3:IN.Ok Tryz.prog 215:=by
 refine fok (X:=⟨tt,[(216,II)],[],22,[]⟩) mixed AG (CTok.cons Xs (CTok.nil _)) Tryz.func215 (λ_=>[]) ?_;intro (l:List (List Dat)) a0;have a0:l.length<=9223372036854775807:=a0;refine AH (q:=let Z2:=(vB false=vB (BG l));let Z1:=wR ((nI l.length)-(1:Int));ifB ((!(decide ((nI l.length)>(60:Int))))) (∃i1:(List (List Dat)),[DA.one (cS l),DA.one (DC.ro (.fn 217 []))]=II.args i1/\II.pre i1/\(ifB ((i1.any (λr=>!(inB (rn r))))) Z2 (ifB ((!((nI l.length) == (0:Int)))) ((0<=Z1/\Z1<(l.length:Int))/\((Z1.toNat<l.length)/\((vB ((((l.getD (Z1.toNat) []).getD 0 (.int 0))).n != (0:Int))=vB (BG l))))) ((vB true=vB (BG l)))))) Z2) (by kernel_rfl) ?_;conv=>zeta
 delta ifB vB wR nI;refine And.symm ⟨λc1=>?_,λc1=>?_⟩;simp only[nrm]at c1;have hE:=My (l:=l) (by omega);rw[hE];simp only[nrm]at c1
 refine⟨l,by
  rfl,by
  trivial,?_⟩
 refine⟨λc5=>?_,λc5=>?_⟩;have hE:=Mz c5;rw[hE];refine And.symm ⟨λc7=>?_,λc7=>?_⟩;simp only[nrm]at c7;have hE:=M0 (l:=l) (by omega);rw[hE];simp only[nrm]at c7;have hE:=LM (l:=l) (by omega) c5 (by omega);have hw:(IntKind.i64.wrap (((l.length:Nat):Int)-(1:Int)))=((l.length-1:Nat):Int):=by rw[AB (by omega) (by omega)];omega
 refine ao (by rw[hw];omega) λo8=>?_;refine ao (by rw[hw];omega) λo9=>?_;rw[hw,Int.toNat_natCast,hE];rfl
def C1:Con:={ι:=Bool×(List (List Dat)),pre:=λi=>i.2.length<=9223372036854775807,args:=λi=>[DA.agg [cB i.1,cS i.2]],mono:=true,res:=λi=>⟨false,[none],[rcB (Bg i.1 i.2)]⟩}
theorem RG:C1.Ok Tryz.prog 213:=by
 refine fok (X:=⟨tt,[(215,IN)],[],17,[]⟩) mixed AG (CTok.cons X3 (CTok.nil _)) Tryz.func213 (λ_=>[]) ?_;rintro⟨neg,m⟩ a0;have a0:m.length<=9223372036854775807:=a0;refine AH (q:=let Z1:=Bg neg m;∃i1:(List (List Dat)),[DA.one (cS m)]=IN.args i1/\IN.pre i1/\(ifB ((BG i1)) (ifB (neg) ((vB (!((nI m.length) == (0:Int)))=vB Z1)) ((vB (!false)=vB Z1))) ((vB false=vB Z1)))) (by kernel_rfl) ?_;conv=>zeta
 delta ifB vB nI
 refine⟨m,by
  rfl,by
  trivial,?_⟩
 refine And.symm ⟨λc4=>?_,λc4=>?_⟩;unfold Bg;rw[c4];rfl;refine⟨λc5=>?_,λc5=>?_⟩;rw[c5,M5 c4];unfold Bg;rw[c4,c5];rfl
end Go.Proofs.YthoidhehmmcgnaaGreat
