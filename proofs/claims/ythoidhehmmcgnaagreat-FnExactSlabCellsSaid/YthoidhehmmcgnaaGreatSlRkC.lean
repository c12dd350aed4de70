import Derived.Test.YthoidhehmmcgnaaGreatSlRkM
import Derived.Test.YthoidhehmmcgnaaGreatSlNum3
namespace Go.Proofs.YthoidhehmmcgnaaGreat
set_option maxRecDepth 100000
set_option linter.unusedVariables false
set_option linter.unusedSimpArgs false
open Go.RowKit
theorem YI(n:Nat):decide (((n:Nat):Int)<0)=false:=decide_eq_false (by omega)
theorem ABX(r:Fr):decide ((((L r.d).length:Nat):Int)>(0:Int))=r.good:=by rw[← Fr.d_good'];congr 1;apply propext;omega
theorem Po:nl 1=1:=Xy (by decide) (by decide)
theorem ET{z:Int}{d:Nat}(hd:d≠0)(h1:nl (z.natAbs/z.natAbs.gcd d)<=24)(h2:nl (d/z.natAbs.gcd d)<=24) :
  decide ((Fr.mk' z d).z<0)=decide (z<0)/\(Fr.mk' z d).z.natAbs=z.natAbs/z.natAbs.gcd d/\(Fr.mk' z d).d=d/z.natAbs.gcd d:=by
 have hv:(Fr.mk' z d).v=some (mkRat z d):=Ez (Dp.2 ⟨by rw[Dq hd];exact h1,by rw[(EC hd).2];exact h2⟩);exact⟨by rw[Fr.z_some hv,Vy hd],by rw[Fr.z_some hv,Dq hd],by rw[Fr.d_some hv,(EC hd).2]⟩
theorem FU{n:Int}(h:nl n.natAbs<=24):(Fr.ofInt n).z=n/\(Fr.ofInt n).d=1:=by rw[Fr.z_some (Gb h),Fr.d_some (Gb h),Rat.num_intCast,Rat.den_intCast];exact⟨rfl,rfl⟩
theorem L4(neg:Bool)(m:Nat):decide (zOf neg m<0)=(neg && decide ((((L m).length:Nat):Int)>(0:Int))):=by rw[ABW];congr 2;apply propext;omega
theorem D6{r:Fr}(h:r.good=false):r.d=0:=Classical.byContradiction λh2=>by rw[Fr.d_good.2 h2]at h;cases h
theorem B4{r:Fr}(h:r.good=true):r.d≠0:=Fr.d_good.1 h
theorem ADO{z:Int}(h:(L z.natAbs).length=0):z=0:=by rw[AK]at h;have:=Co.1 h;omega
theorem ACO{z:Int}(h:(L z.natAbs).length≠0):z≠0:=by rintro rfl;exact h (by rw[AK];exact Ca)
theorem Uz(l:List (List Dat)):l.all (λr=>inB (rn r))=!(l.any λr=>!(inB (rn r))):=by rw[List.all_eq_not_any_not]
theorem NI{l:List (List Dat)}(h:60<l.length):BO l=false:=by unfold BO;rw[decide_eq_false (show ¬l.length<=60 by omega)];rfl
theorem NJ{l:List (List Dat)}(h:(l.any λr=>!(inB (rn r)))=true):BO l=false:=by unfold BO;rw[Uz,h];simp
theorem NK{l:List (List Dat)}(h:l.length=0):BO l=true:=by rw[List.eq_nil_of_length_eq_zero h];rfl
theorem Lf{l:List (List Dat)}(h1:l.length<=60)(h:(l.any λr=>!(inB (rn r)))=false)(h0:l.length≠0):BO l=(rn (l.getD (l.length-1) []) != 0):=by unfold BO;rw[Uz,h,decide_eq_true h1,decide_eq_false h0];generalize rn (l.getD (l.length-1) [])=v;by_cases hv:v=0 <;> simp[hv]
theorem NL{m:List (List Dat)}(h:BO m=true):Br true m=!(((m.length:Nat):Int) == (0:Int)):=by
 unfold Br;rw[h];by_cases hv:m.length=0;rw[hv];rfl;have:((((m.length:Nat):Int)) == (0:Int))=false:=by rw[beq_eq_false_iff_ne];omega
 rw[this];simp[hv]
theorem TU{neg:Bool}{m:List (List Dat)}(h:Br neg m=true):BO m=true:=by unfold Br at h;rw[Bool.and_eq_true]at h;exact h.1
theorem GO{neg:Bool}{m d:List (List Dat)}(h:Br neg m=false\/BO d=false\/d.length=0\/24<m.length\/24<d.length):Gi neg m d=false:=by unfold Gi;rcases h with h|h|h|h|h;rw[h];rfl;rw[h];simp;simp[h];rw[decide_eq_false (show ¬m.length<=24 by omega)];simp;rw[decide_eq_false (show ¬d.length<=24 by omega)];simp
theorem TV{neg:Bool}{m d:List (List Dat)}(h1:Br neg m=true)(h2:BO d=true)(h3:d.length≠0)(h4:m.length<=24)(h5:d.length<=24):Gi neg m d=decide ((V9 m).gcd (V9 d)=1):=by unfold Gi;rw[h1,h2,decide_eq_false h3,decide_eq_true h4,decide_eq_true h5];rfl
theorem CN{n:Int}(h:-9223372036854775808<=n/\n<=9223372036854775807):nl n.natAbs<=24:=(Do _ _).2 (Nat.lt_of_le_of_lt (show n.natAbs<=9223372036854775808 by omega) (by decide))
theorem U0{a b:Nat}(h:b≠0):a.gcd b≠0/\nl (a.gcd b)<=nl b:=⟨λe=>h (Nat.eq_zero_of_gcd_eq_zero_right e),Cz (Nat.gcd_le_right _ (Nat.pos_of_ne_zero h))⟩
def At:Con:={ι:=(List (List Dat)),pre:=λi=>i.length<=1073741824,args:=λi=>[.one (cS i)],mono:=true,res:=λi=>⟨false,[none],[.own 3 [.int] i]⟩}
theorem Gj:At.Ok Tryz.prog 110:=by refine fok (X:=⟨tt,[],[],8,[]⟩) mixed AF (CTok.nil _) Tryz.func110 (λ_=>[]) ?_;intro (ls:List (List Dat)) a0;have a0:ls.length<=1073741824:=a0;refine AG (q:=∀b1:Bool,(b1=true->ls=[])->(ifB (b1) ((([]:List (List Dat))=ls)) ((([]:List (List Dat)).length+ls.length<=2199023255552)/\(((([]:List (List Dat))++ls)=ls))))) (by kernel_rfl) ?_;delta ifB;intro b1 q1;refine⟨λc2=>?_,λc2=>?_⟩;rw[q1 c2];refine ao (by simp;omega) λo4=>?_;rfl
def E4:Con:={ι:=Nat,pre:=λi=>True,args:=λi=>[.one (cS (L i))],mono:=true,res:=λi=>⟨false,[none],[rcB (decide (i=1))]⟩}
theorem YJ:E4.Ok Tryz.prog 186:=by refine fok (X:=⟨tt,[],[],12,[]⟩) mixed AF (CTok.nil _) Tryz.func186 (λ_=>[]) ?_;intro (a:Nat) a0;have a0:True:=a0;refine AG (q:=ifB (((nI ((L a).length)) == (1:Int))) ((0<=(0:Int)/\(0:Int)<((L a).length:Int))/\((0<(L a).length)/\((vB (((((L a).getD 0 []).getD 0 (.int 0))).n == (1:Int))=vB (decide (a=1)))))) ((vB false=vB (decide (a=1))))) (by kernel_rfl) ?_;delta ifB vB nI;have ha:=AK a;refine And.symm ⟨λc1=>?_,λc1=>?_⟩;simp only[nrm]at c1;exact congrArg Value.bool (decide_eq_false (λe=>by subst e;rw[Po]at ha;omega)).symm;simp only[nrm]at c1;have h1:=H6 (b:=a) (by omega);refine ao (by omega) λo2=>?_;refine ao (by omega) λo3=>?_;rw[L_n,h1.1];exact congrArg Value.bool (by rw[Bool.eq_iff_iff,beq_iff_eq,decide_eq_true_iff];omega)
def Ar:Con:={ι:=Bool×Nat,pre:=λi=>True,args:=λi=>[.one (cB i.1),.one (cS (L i.2))],mono:=true,res:=λi=>⟨false,[some 2],[rcB (decide ((zOf i.1 i.2)<0)),.view 3 [.int] (L (zOf i.1 i.2).natAbs)]⟩}
theorem FV:Ar.Ok Tryz.prog 152:=by
 refine fok (X:=⟨tt,[],[],13,[]⟩) mixed AF (CTok.nil _) Tryz.func152 (λ_=>[]) ?_;rintro⟨neg,m⟩ a0;have a0:True:=a0;refine AG (q:=let Z2:=decide ((zOf neg m)<0);let Z1:=(L m)=L (zOf neg m).natAbs;ifB (neg) ((vB (decide ((nI ((L m).length))>(0:Int)))=vB Z2)/\Z1) ((vB false=vB Z2)/\Z1)) (by kernel_rfl) ?_;conv=>zeta
 delta ifB vB nI;refine⟨λc1=>?_,λc1=>?_⟩;refine⟨?_,?_⟩;rw[L4,c1];rfl;rw[El];refine⟨?_,?_⟩;rw[L4,c1];rfl;rw[El]
def Gk:Con:={ι:=Int,pre:=λi=>True,args:=λi=>[dB i],mono:=true,res:=λi=>⟨false,[some 2],[rcB (decide ((-i)<0)),.view 3 [.int] (L (-i).natAbs)]⟩}
theorem WB:Gk.Ok Tryz.prog 184:=by
 refine fok (X:=⟨tt,[(152,Ar)],[],9,[]⟩) mixed AF (CTok.cons FV (CTok.nil _)) Tryz.func184 (λ_=>[]) ?_;intro (z:Int) a0;have a0:True:=a0;refine AG (q:=∃i1:Bool×Nat,[DA.one (cB (!(decide (z<0)))),DA.one (cS (L z.natAbs))]=Ar.args i1/\Ar.pre i1/\((vB (decide ((zOf i1.1 i1.2)<0))=vB (decide ((-z)<0)))/\(L (zOf i1.1 i1.2).natAbs=L (-z).natAbs))) (by kernel_rfl) ?_;delta vB
 refine⟨((!(decide (z<0))),z.natAbs),by
  rfl,by
  trivial,?_⟩
 refine⟨?_,?_⟩;rw[Pm];rw[Pm]
def Gl:Con:={ι:=Int×Int,pre:=λi=>nl i.1.natAbs<=1000/\nl i.2.natAbs<=1000,args:=λi=>[dB i.1,dB i.2],mono:=true,res:=λi=>⟨false,[some 2],[rcB (decide ((i.1+i.2)<0)),.view 3 [.int] (L (i.1+i.2).natAbs)]⟩}
theorem WC:Gl.Ok Tryz.prog 170:=by
 refine fok (X:=⟨tt,[(155,DK),(152,Ar),(151,Ax),(190,CH)],[],42,[]⟩) mixed AF (CTok.cons Ob (CTok.cons FV (CTok.cons Ib (CTok.cons Oc (CTok.nil _))))) Tryz.func170 (λ_=>[]) ?_;rintro⟨x,y⟩ a1;have a1:nl x.natAbs<=1000/\nl y.natAbs<=1000:=a1;refine AG (q:=let Z4:=decide (x<0);let Z3:=decide ((x+y)<0);let Z2:=cS (L y.natAbs);let Z1:=cS (L x.natAbs);ifB ((Z4 == (decide (y<0)))) (∃i1:Nat×Nat,[DA.one Z1,DA.one Z2]=DK.args i1/\DK.pre i1/\(∃i2:Bool×Nat,[DA.one (cB Z4),DA.one (cS (L (i1.1+i1.2)))]=Ar.args i2/\Ar.pre i2/\((vB (decide ((zOf i2.1 i2.2)<0))=vB Z3)/\(L (zOf i2.1 i2.2).natAbs=L (x+y).natAbs)))) (∃i3:Nat×Nat,[DA.one Z1,DA.one Z2]=Ax.args i3/\Ax.pre i3/\(ifB ((decide ((B7 i3.1 i3.2)>=(0:Int)))) (∃i4:Nat×Nat,[DA.one Z1,DA.one Z2]=CH.args i4/\CH.pre i4/\(∃i5:Bool×Nat,[DA.one (cB Z4),DA.one (cS (L (i4.1-i4.2)))]=Ar.args i5/\Ar.pre i5/\((vB (decide ((zOf i5.1 i5.2)<0))=vB Z3)/\(L (zOf i5.1 i5.2).natAbs=L (x+y).natAbs)))) (∃i6:Nat×Nat,[DA.one Z2,DA.one Z1]=CH.args i6/\CH.pre i6/\(∃i7:Bool×Nat,[DA.one (cB (decide (y<0))),DA.one (cS (L (i6.1-i6.2)))]=Ar.args i7/\Ar.pre i7/\((vB (decide ((zOf i7.1 i7.2)<0))=vB Z3)/\(L (zOf i7.1 i7.2).natAbs=L (x+y).natAbs))))))) (by kernel_rfl) ?_;conv=>zeta
 delta ifB vB;refine⟨λc1=>?_,λc1=>?_⟩;simp only[nrm]at c1
 refine⟨(x.natAbs,y.natAbs),by
  rfl,by
  show nl x.natAbs<=1048576/\nl y.natAbs<=1048576;exact⟨by omega,by omega⟩,?_⟩
 refine⟨(decide (x<0),(x.natAbs+y.natAbs)),by
  rfl,by
  trivial,?_⟩
 refine⟨?_,?_⟩;rw[NG c1];rw[NG c1];simp only[nrm]at c1
 refine⟨(x.natAbs,y.natAbs),by
  rfl,by
  show nl x.natAbs<=1048576/\nl y.natAbs<=1048576;exact⟨by omega,by omega⟩,?_⟩
 refine⟨λa0=>?_,λa0=>?_⟩;simp only[nrm]at a0
 refine⟨(x.natAbs,y.natAbs),by
  rfl,by
  show nl x.natAbs<=1048576/\nl y.natAbs<=1048576/\y.natAbs<=x.natAbs;exact⟨by omega,by omega,FR.1 a0⟩,?_⟩
 refine⟨(decide (x<0),(x.natAbs-y.natAbs)),by
  rfl,by
  trivial,?_⟩
 refine⟨?_,?_⟩;rw[Jr c1 (FR.1 a0)];rw[Jr c1 (FR.1 a0)];simp only[nrm]at a0
 refine⟨(y.natAbs,x.natAbs),by
  rfl,by
  show nl y.natAbs<=1048576/\nl x.natAbs<=1048576/\x.natAbs<=y.natAbs;exact⟨by omega,by omega,Nat.le_of_lt (Ds.1 a0)⟩,?_⟩
 refine⟨(decide (y<0),(y.natAbs-x.natAbs)),by
  rfl,by
  trivial,?_⟩
 refine⟨?_,?_⟩;rw[NH c1 (Nat.le_of_lt (Ds.1 a0))];rw[NH c1 (Nat.le_of_lt (Ds.1 a0))]
def BA:Con:={ι:=Int×Int,pre:=λi=>nl i.1.natAbs<=1000/\nl i.2.natAbs<=1000,args:=λi=>[dB i.1,dB i.2],mono:=true,res:=λi=>⟨false,[some 2],[rcB (decide ((i.1*i.2)<0)),.view 3 [.int] (L (i.1*i.2).natAbs)]⟩}
theorem Id:BA.Ok Tryz.prog 120:=by
 refine fok (X:=⟨tt,[(153,Ay),(152,Ar)],[],16,[]⟩) mixed AF (CTok.cons E3 (CTok.cons FV (CTok.nil _))) Tryz.func120 (λ_=>[]) ?_;rintro⟨x,y⟩ a0;have a0:nl x.natAbs<=1000/\nl y.natAbs<=1000:=a0;refine AG (q:=∃i1:Nat×Nat,[DA.one (cS (L x.natAbs)),DA.one (cS (L y.natAbs))]=Ay.args i1/\Ay.pre i1/\(∃i2:Bool×Nat,[DA.one (cB ((decide (x<0)) != (decide (y<0)))),DA.one (cS (L (i1.1*i1.2)))]=Ar.args i2/\Ar.pre i2/\((vB (decide ((zOf i2.1 i2.2)<0))=vB (decide ((x*y)<0)))/\(L (zOf i2.1 i2.2).natAbs=L (x*y).natAbs)))) (by kernel_rfl) ?_;delta vB
 refine⟨(x.natAbs,y.natAbs),by
  rfl,by
  show nl x.natAbs<=524288/\nl y.natAbs<=524288;exact⟨by omega,by omega⟩,?_⟩
 refine⟨(((decide (x<0)) != (decide (y<0))),(x.natAbs*y.natAbs)),by
  rfl,by
  trivial,?_⟩
 refine⟨?_,?_⟩;rw[L3];rw[L3]
def Gm:Con:={ι:=Int×Int,pre:=λi=>nl i.1.natAbs<=1000/\nl i.2.natAbs<=1000,args:=λi=>[dB i.1,dB i.2],mono:=true,res:=λi=>⟨false,[none],[rcI (DJ i.1 i.2)]⟩}
theorem WD:Gm.Ok Tryz.prog 119:=by
 refine fok (X:=⟨tt,[(151,Ax)],[],28,[]⟩) mixed AF (CTok.cons Ib (CTok.nil _)) Tryz.func119 (λ_=>[]) ?_;rintro⟨x,y⟩ a0;have a0:nl x.natAbs<=1000/\nl y.natAbs<=1000:=a0;refine AG (q:=let Z5:=decide (y<0);let Z4:=decide (x<0);let Z3:=cS (L x.natAbs);let Z2:=cS (L y.natAbs);let Z1:=DJ x y;let Z7:=(vI (1:Int)=vI Z1);let Z6:=(vI (-1:Int)=vI Z1);ifB Z4 (ifB Z5 (∃i1:Nat×Nat,[DA.one Z2,DA.one Z3]=Ax.args i1/\Ax.pre i1/\((vI (B7 i1.1 i1.2)=vI Z1))) (ifB Z4 Z6 (ifB Z5 Z7 (∃i2:Nat×Nat,[DA.one Z3,DA.one Z2]=Ax.args i2/\Ax.pre i2/\((vI (B7 i2.1 i2.2)=vI Z1)))))) (ifB Z4 Z6 (ifB Z5 Z7 (∃i3:Nat×Nat,[DA.one Z3,DA.one Z2]=Ax.args i3/\Ax.pre i3/\((vI (B7 i3.1 i3.2)=vI Z1)))))) (by kernel_rfl) ?_;conv=>zeta
 delta ifB vI;refine And.symm ⟨λc1=>?_,λc1=>?_⟩;simp only[nrm]at c1;refine⟨λa1=>?_,λa1=>?_⟩;simp only[nrm]at a1;exfalso;omega;simp only[nrm]at a1;refine⟨λa2=>?_,λa2=>?_⟩;simp only[nrm]at a2;rw[← Uy (by omega) (by omega)];simp only[nrm]at a2
 refine⟨(x.natAbs,y.natAbs),by
  rfl,by
  show nl x.natAbs<=1048576/\nl y.natAbs<=1048576;exact⟨by omega,by omega⟩,?_⟩
 rw[Uw (by omega) (by omega)];simp only[nrm]at c1;refine⟨λc2=>?_,λc2=>?_⟩;simp only[nrm]at c2
 refine⟨(y.natAbs,x.natAbs),by
  rfl,by
  show nl y.natAbs<=1048576/\nl x.natAbs<=1048576;exact⟨by omega,by omega⟩,?_⟩
 rw[Uv (by omega) (by omega)];simp only[nrm]at c2;refine⟨λc7=>?_,λc7=>?_⟩;simp only[nrm]at c7;rw[← Ux (by omega) (by omega)];simp only[nrm]at c7;refine⟨λc9=>?_,λc9=>?_⟩;simp only[nrm]at c9;exfalso;omega;simp only[nrm]at c9
 refine⟨(x.natAbs,y.natAbs),by
  rfl,by
  exact⟨by omega,by omega⟩,?_⟩
 exfalso;omega
def Cp:Con:={ι:=Bool×Nat,pre:=λi=>nl i.2<=60,args:=λi=>[DA.agg [cB i.1,cS (L i.2)]],mono:=true,res:=λi=>⟨false,[some 2],[rcB i.1,.own 3 [.int] (L i.2)]⟩}
theorem WE:Cp.Ok Tryz.prog 189:=by
 refine fok (X:=⟨tt,[(110,At)],[],14,[]⟩) mixed AF (CTok.cons Gj (CTok.nil _)) Tryz.func189 (λ_=>[]) ?_;rintro⟨neg,m⟩ a0;have a0:nl m<=60:=a0;refine AG (q:=ifB ((decide ((nI ((L m).length))>(60:Int)))) ((vB false=vB neg)/\(([]:List (List Dat))=L m)) (∃i1:(List (List Dat)),[DA.one (cS (L m))]=At.args i1/\At.pre i1/\((vB neg=vB neg)/\(i1=L m)))) (by kernel_rfl) ?_;delta ifB vB nI;have hm:=AK m;refine⟨λc1=>?_,λc1=>?_⟩;simp only[nrm]at c1;refine⟨?_,?_⟩;exfalso;omega;exfalso;omega;simp only[nrm]at c1
 refine⟨(L m),by
  rfl,by
  show(L m).length<=1073741824;omega,?_⟩
 exact⟨rfl,rfl⟩
def C1:Con:={ι:=Int,pre:=λi=>-9223372036854775808<=i/\i<=9223372036854775807,args:=λi=>[.one (cI i)],mono:=true,res:=λi=>⟨false,[some 2],[rcB (decide (i<0)),.own 3 [.int] (L i.natAbs)]⟩}
theorem Rf:C1.Ok Tryz.prog 121:=by
 refine fok (X:=⟨tt,[(154,A6),(155,DK)],[],18,[]⟩) mixed AF (CTok.cons NC (CTok.cons Ob (CTok.nil _))) Tryz.func121 (λ_=>[]) ?_;intro (n:Int) a0;have a0:-9223372036854775808<=n/\n<=9223372036854775807:=a0;refine AG (q:=let Z1:=vB true=vB (decide (n<0));ifB ((decide (n>=(0:Int)))) (∃i1:Nat,[DA.one (cI n)]=A6.args i1/\A6.pre i1/\((vB false=vB (decide (n<0)))/\(L i1=L n.natAbs))) (ifB ((n == (-9223372036854775808:Int))) (∃i2:Nat,[DA.one (cI (9223372036854775807:Int))]=A6.args i2/\A6.pre i2/\(∃i3:Nat,[DA.one (cI (1:Int))]=A6.args i3/\A6.pre i3/\(∃i4:Nat×Nat,[DA.one (cS (L i2)),DA.one (cS (L i3))]=DK.args i4/\DK.pre i4/\(Z1/\(L (i4.1+i4.2)=L n.natAbs))))) (∃i5:Nat,[DA.one (cI (wR (0-n)))]=A6.args i5/\A6.pre i5/\(Z1/\(L i5=L n.natAbs))))) (by kernel_rfl) ?_;conv=>zeta
 delta ifB vB wR;refine⟨λc1=>?_,λc1=>?_⟩;simp only[nrm]at c1;have en:n=((n.toNat:Nat):Int):=by omega
 have ea:n.natAbs=n.toNat:=by omega
 refine⟨n.toNat,by
  show[DA.one (DC.im (Value.int .i64 n))]=[DA.one (DC.im (Value.int .i64 ((n.toNat:Nat):Int)))];rw[← en],by
  show n.toNat<=9223372036854775807;omega,?_⟩
 refine⟨?_,?_⟩;rw[decide_eq_false (show ¬n<0 by omega)];rw[ea];simp only[nrm]at c1;refine And.symm ⟨λc7=>?_,λc7=>?_⟩;simp only[nrm]at c7;have en:IntKind.i64.wrap (0-n)=(((-n).toNat:Nat):Int):=by rw[AC (by omega) (by omega)];omega
 have ea:n.natAbs=(-n).toNat:=by omega
 refine⟨(-n).toNat,by
  rw[en];rfl,by
  show((-n).toNat)<=9223372036854775807;omega,?_⟩
 refine⟨?_,?_⟩;rw[decide_eq_true (show n<0 by omega)];rw[ea];simp only[nrm]at c7
 refine⟨9223372036854775807,by
  rfl,by
  show 9223372036854775807<=9223372036854775807;trivial,?_⟩
 refine⟨1,by
  rfl,by
  show 1<=9223372036854775807;trivial,?_⟩
 refine⟨(9223372036854775807,1),by
  rfl,by
  exact⟨Nat.le_trans ((Do 3 _).2 (by decide)) (by decide),Nat.le_trans ((Do 3 _).2 (by decide)) (by decide)⟩,?_⟩
 refine⟨?_,?_⟩;rw[decide_eq_true (show n<0 by omega)];rw[show n.natAbs=9223372036854775807+1 by omega]
def Ag:Con:={ι:=Fr,pre:=λi=>True,args:=λi=>[dF i],mono:=true,res:=λi=>⟨false,[none],[rcB i.good]⟩}
theorem E5:Ag.Ok Tryz.prog 118:=by refine fok (X:=⟨tt,[],[],7,[]⟩) mixed AF (CTok.nil _) Tryz.func118 (λ_=>[]) ?_;intro (r:Fr) a0;have a0:True:=a0;refine AG (q:=(vB (decide ((nI ((L r.d).length))>(0:Int)))=vB r.good)) (by kernel_rfl) ?_;delta vB nI;rw[ABX]
def BS:Con:={ι:=Int×Nat,pre:=λi=>i.2≠0/\nl i.1.natAbs<=1000/\nl i.2<=1000,args:=λi=>[dB i.1,.one (cS (L i.2))],mono:=true,res:=λi=>⟨false,[some 3],[rcB (decide ((Fr.mk' i.1 i.2).z<0)),.own 3 [.int] (L (Fr.mk' i.1 i.2).z.natAbs),.own 3 [.int] (L (Fr.mk' i.1 i.2).d)]⟩}
theorem Gp:BS.Ok Tryz.prog 169:=by
 refine fok (X:=⟨tt,[(186,E4),(187,Gh),(188,Cb),(189,Cp),(110,At)],[],45,[]⟩) mixed AF (CTok.cons YJ (CTok.cons V8 (CTok.cons Od (CTok.cons WE (CTok.cons Gj (CTok.nil _)))))) Tryz.func169 (λ_=>[]) ?_;rintro⟨z,d⟩ a0;have a0:d≠0/\nl z.natAbs<=1000/\nl d<=1000:=a0;refine AG (q:=let Z8:=cS (L d);let Z7:=List (List Dat);let Z3:=(decide ((nI ((L d).length))>(24:Int)));let Z2:=(!(decide ((nI ((L z.natAbs).length))>(24:Int))));let Z1:=Fr.mk' z d;let Z6:=decide (Z1.z<0);let Z5:=(eqN Z1);∃i1:Nat,[DA.one Z8]=E4.args i1/\E4.pre i1/\(ifB ((!(decide (i1=1)))) (∃i2:Nat×Nat,let Z4:=cS (L (i2.1.gcd i2.2));[DA.one (cS (L z.natAbs)),DA.one Z8]=Gh.args i2/\Gh.pre i2/\(∃i3:Nat,[DA.one Z4]=E4.args i3/\E4.pre i3/\(ifB ((!(decide (i3=1)))) (∃i4:Nat×Nat,[DA.one (cS (L z.natAbs)),DA.one Z4]=Cb.args i4/\Cb.pre i4/\(∃i5:Nat×Nat,[DA.one Z8,DA.one Z4]=Cb.args i5/\Cb.pre i5/\(ifB ((!(decide ((nI ((L (i4.1/i4.2)).length))>(24:Int))))) (ifB ((decide ((nI ((L (i5.1/i5.2)).length))>(24:Int)))) Z5 (∃i6:Bool×Nat,[DA.agg [cB (decide (z<0)),cS (L (i4.1/i4.2))]]=Cp.args i6/\Cp.pre i6/\(∃i7:Z7,[DA.one (cS (L (i5.1/i5.2)))]=At.args i7/\At.pre i7/\((vB i6.1=vB Z6)/\(L i6.2=L Z1.z.natAbs)/\(i7=L Z1.d))))) Z5))) (ifB Z2 (ifB Z3 Z5 (∃i8:Bool×Nat,[dB z]=Cp.args i8/\Cp.pre i8/\(∃i9:Z7,[DA.one Z8]=At.args i9/\At.pre i9/\((vB i8.1=vB Z6)/\(L i8.2=L Z1.z.natAbs)/\(i9=L Z1.d))))) Z5)))) (ifB Z2 (ifB Z3 Z5 (∃a1:Bool×Nat,[dB z]=Cp.args a1/\Cp.pre a1/\(∃a3:Z7,[DA.one Z8]=At.args a3/\At.pre a3/\((vB a1.1=vB Z6)/\(L a1.2=L Z1.z.natAbs)/\(a3=L Z1.d))))) Z5))) (by kernel_rfl) ?_;conv=>zeta
 delta ifB vB nI;have hg:=U0 (a:=z.natAbs) a0.1
 refine⟨d,by
  rfl,by
  trivial,?_⟩
 refine And.symm ⟨λc4=>?_,λc4=>?_⟩;simp only[nrm]at c4;have e1:z.natAbs.gcd d=1:=by rw[c4];exact Nat.gcd_one_right _
 have ez:z.natAbs/z.natAbs.gcd d=z.natAbs:=by rw[e1,Nat.div_one]
 have ed:d/z.natAbs.gcd d=d:=by rw[e1,Nat.div_one]
 have lz:=AK (z.natAbs/z.natAbs.gcd d);have ld:=AK (d/z.natAbs.gcd d);rw[ez]at lz;rw[ed]at ld;refine And.symm ⟨λa4=>?_,λa4=>?_⟩;simp only[nrm]at a4;refine BV ?_;rw[FT a0.1 (by rw[ez,ed];omega)];simp only[nrm]at a4;refine⟨λa5=>?_,λa5=>?_⟩;simp only[nrm]at a5;refine BV ?_;rw[FT a0.1 (by rw[ez,ed];omega)];simp only[nrm]at a5
 refine⟨(decide (z<0),z.natAbs),by
  rfl,by
  show nl z.natAbs<=60;omega,?_⟩
 refine⟨(L d),by
  rfl,by
  show(L d).length<=1073741824;omega,?_⟩
 refine⟨?_,?_,?_⟩;rw[(ET a0.1 (by rw[ez];omega) (by rw[ed];omega)).1];rw[(ET a0.1 (by rw[ez];omega) (by rw[ed];omega)).2.1,ez];rw[(ET a0.1 (by rw[ez];omega) (by rw[ed];omega)).2.2,ed];simp only[nrm]at c4
 refine⟨(z.natAbs,d),by
  rfl,by
  show nl z.natAbs<=131072/\nl d<=131072;exact⟨by omega,by omega⟩,?_⟩
 refine⟨(z.natAbs.gcd d),by
  rfl,by
  trivial,?_⟩
 refine And.symm ⟨λa2=>?_,λa2=>?_⟩;simp only[nrm]at a2;have e1:z.natAbs.gcd d=1:=a2;have ez:z.natAbs/z.natAbs.gcd d=z.natAbs:=by rw[e1,Nat.div_one]
 have ed:d/z.natAbs.gcd d=d:=by rw[e1,Nat.div_one]
 have lz:=AK (z.natAbs/z.natAbs.gcd d);have ld:=AK (d/z.natAbs.gcd d);rw[ez]at lz;rw[ed]at ld;refine And.symm ⟨λa6=>?_,λa6=>?_⟩;simp only[nrm]at a6;refine BV ?_;rw[FT a0.1 (by rw[ez,ed];omega)];simp only[nrm]at a6;refine⟨λa7=>?_,λa7=>?_⟩;simp only[nrm]at a7;refine BV ?_;rw[FT a0.1 (by rw[ez,ed];omega)];simp only[nrm]at a7
 refine⟨(decide (z<0),z.natAbs),by
  rfl,by
  show nl z.natAbs<=60;omega,?_⟩
 refine⟨(L d),by
  rfl,by
  show(L d).length<=1073741824;omega,?_⟩
 refine⟨?_,?_,?_⟩;rw[(ET a0.1 (by rw[ez];omega) (by rw[ed];omega)).1];rw[(ET a0.1 (by rw[ez];omega) (by rw[ed];omega)).2.1,ez];rw[(ET a0.1 (by rw[ez];omega) (by rw[ed];omega)).2.2,ed];simp only[nrm]at a2;have ez:z.natAbs/z.natAbs.gcd d=z.natAbs/z.natAbs.gcd d:=rfl;have ed:d/z.natAbs.gcd d=d/z.natAbs.gcd d:=rfl;have lz:=AK (z.natAbs/z.natAbs.gcd d);have ld:=AK (d/z.natAbs.gcd d);rw[ez]at lz;rw[ed]at ld
 refine⟨(z.natAbs,(z.natAbs.gcd d)),by
  rfl,by
  show(z.natAbs.gcd d)≠0/\nl z.natAbs<=131072/\nl (z.natAbs.gcd d)<=131072;exact⟨by omega,by omega⟩,?_⟩
 refine⟨(d,(z.natAbs.gcd d)),by
  rfl,by
  show(z.natAbs.gcd d)≠0/\nl d<=131072/\nl (z.natAbs.gcd d)<=131072;exact⟨by omega,by omega⟩,?_⟩
 refine And.symm ⟨λa8=>?_,λa8=>?_⟩;simp only[nrm]at a8;refine BV ?_;rw[FT a0.1 (by rw[ez,ed];omega)];simp only[nrm]at a8;refine⟨λa9=>?_,λa9=>?_⟩;simp only[nrm]at a9;refine BV ?_;rw[FT a0.1 (by rw[ez,ed];omega)];simp only[nrm]at a9
 refine⟨(decide (z<0),(z.natAbs/(z.natAbs.gcd d))),by
  rfl,by
  show nl (z.natAbs/(z.natAbs.gcd d))<=60;omega,?_⟩
 refine⟨L (d/(z.natAbs.gcd d)),by
  rfl,by
  show(L (d/(z.natAbs.gcd d))).length<=1073741824;omega,?_⟩
 refine⟨?_,?_,?_⟩;rw[(ET a0.1 (by rw[ez];omega) (by rw[ed];omega)).1];rw[(ET a0.1 (by rw[ez];omega) (by rw[ed];omega)).2.1,ez];rw[(ET a0.1 (by rw[ez];omega) (by rw[ed];omega)).2.2,ed]
def AV:Con:={ι:=Int,pre:=λi=>-9223372036854775808<=i/\i<=9223372036854775807,args:=λi=>[.one (cI i)],mono:=true,res:=λi=>⟨false,[some 3],[rcB (decide ((Fr.ofInt i).z<0)),.own 3 [.int] (L (Fr.ofInt i).z.natAbs),.own 3 [.int] (L (Fr.ofInt i).d)]⟩}
theorem E6:AV.Ok Tryz.prog 82:=by
 refine fok (X:=⟨tt,[(121,C1)],[],7,[]⟩) mixed AF (CTok.cons Rf (CTok.nil _)) Tryz.func82 (λ_=>[]) ?_;intro (n:Int) a0;have a0:-9223372036854775808<=n/\n<=9223372036854775807:=a0;refine AG (q:=∃i1:Int,[DA.one (cI n)]=C1.args i1/\C1.pre i1/\((vB (decide (i1<0))=vB (decide ((Fr.ofInt n).z<0)))/\(L i1.natAbs=L (Fr.ofInt n).z.natAbs)/\(([[Dat.int (1:Int)]]:List (List Dat))=L (Fr.ofInt n).d))) (by kernel_rfl) ?_;delta vB
 refine⟨n,by
  rfl,by
  exact a0,?_⟩
 refine⟨?_,?_,?_⟩;rw[(FU (CN a0)).1];rw[(FU (CN a0)).1];rw[(FU (CN a0)).2];exact YF (by decide) (by decide)
def Bd:Con:={ι:=Fr×Fr,pre:=λi=>True,args:=λi=>[dF i.1,dF i.2],mono:=true,res:=λi=>⟨false,[some 3],[rcB (decide ((Fr.add i.1 i.2).z<0)),.own 3 [.int] (L (Fr.add i.1 i.2).z.natAbs),.own 3 [.int] (L (Fr.add i.1 i.2).d)]⟩}
theorem Ie:Bd.Ok Tryz.prog 143:=by
 refine fok (X:=⟨tt,[(118,Ag),(120,BA),(170,Gl),(153,Ay),(169,BS)],[],35,[]⟩) mixed AF (CTok.cons E5 (CTok.cons Id (CTok.cons WC (CTok.cons E3 (CTok.cons Gp (CTok.nil _)))))) Tryz.func143 (λ_=>[]) ?_;rintro⟨r,s⟩ a0;have a0:True:=a0;refine AG (q:=∃i1:Fr,[dF r]=Ag.args i1/\Ag.pre i1/\(ifB ((!(!i1.good))) (∃i2:Fr,[dF s]=Ag.args i2/\Ag.pre i2/\(ifB ((!i2.good)) ((eqN (Fr.add r s))) (∃i3:Int×Int,[dB r.z,DA.agg [cB false,cS (L s.d)]]=BA.args i3/\BA.pre i3/\(∃i4:Int×Int,[dB s.z,DA.agg [cB false,cS (L r.d)]]=BA.args i4/\BA.pre i4/\(∃i5:Int×Int,[dB (i3.1*i3.2),dB (i4.1*i4.2)]=Gl.args i5/\Gl.pre i5/\(∃i6:Nat×Nat,[DA.one (cS (L r.d)),DA.one (cS (L s.d))]=Ay.args i6/\Ay.pre i6/\(∃i7:Int×Nat,[dB (i5.1+i5.2),DA.one (cS (L (i6.1*i6.2)))]=BS.args i7/\BS.pre i7/\((eqC (Fr.mk' i7.1 i7.2) (Fr.add r s)))))))))) ((eqN (Fr.add r s))))) (by kernel_rfl) ?_;delta ifB;have h1:=r.nlz;have h2:=r.nld;have h3:=s.nlz;have h4:=s.nld
 refine⟨r,by
  rfl,by
  trivial,?_⟩
 refine And.symm ⟨λc4=>?_,λc4=>?_⟩;simp only[nrm]at c4;have hE:Fr.add r s=Fr.none:=Fr.bin_bad _ (.inl (D6 c4));refine BV ?_;rw[hE];simp only[nrm]at c4
 refine⟨s,by
  rfl,by
  trivial,?_⟩
 refine⟨λc8=>?_,λc8=>?_⟩;simp only[nrm]at c8;have hE:Fr.add r s=Fr.none:=Fr.bin_bad _ (.inr (D6 c8));refine BV ?_;rw[hE];simp only[nrm]at c8;have hE:=Fr.add_zd (B4 c4) (B4 c8);have m1:=Bc r.z ((s.d:Nat):Int);have m2:=Bc s.z ((r.d:Nat):Int);rw[Dt]at m1 m2;have m3:=FS (r.z*((s.d:Nat):Int)) (s.z*((r.d:Nat):Int));have m4:=Az r.d s.d;have m5:r.d*s.d≠0:=Nat.mul_ne_zero (B4 c4) (B4 c8)
 refine⟨(r.z,((s.d:Nat):Int)),by
  rfl,by
  show nl r.z.natAbs<=1000/\nl ((s.d:Nat):Int).natAbs<=1000;exact⟨by omega,by rw[Dt];omega⟩,?_⟩
 refine⟨(s.z,((r.d:Nat):Int)),by
  rfl,by
  show nl s.z.natAbs<=1000/\nl ((r.d:Nat):Int).natAbs<=1000;exact⟨by omega,by rw[Dt];omega⟩,?_⟩
 refine⟨((r.z*((s.d:Nat):Int)),(s.z*((r.d:Nat):Int))),by
  rfl,by
  show nl (r.z*((s.d:Nat):Int)).natAbs<=1000/\nl (s.z*((r.d:Nat):Int)).natAbs<=1000;exact⟨by omega,by omega⟩,?_⟩
 refine⟨(r.d,s.d),by
  rfl,by
  show nl r.d<=524288/\nl s.d<=524288;exact⟨by omega,by omega⟩,?_⟩
 refine⟨(((r.z*((s.d:Nat):Int))+(s.z*((r.d:Nat):Int))),(r.d*s.d)),by
  rfl,by
  show(r.d*s.d)≠0/\nl ((r.z*((s.d:Nat):Int))+(s.z*((r.d:Nat):Int))).natAbs<=1000/\nl (r.d*s.d)<=1000;exact⟨by omega,by omega⟩,?_⟩
 refine B0 ?_;rw[hE]
def Gq:Con:={ι:=Fr×Fr,pre:=λi=>True,args:=λi=>[dF i.1,dF i.2],mono:=true,res:=λi=>⟨false,[some 3],[rcB (decide ((Fr.mul i.1 i.2).z<0)),.own 3 [.int] (L (Fr.mul i.1 i.2).z.natAbs),.own 3 [.int] (L (Fr.mul i.1 i.2).d)]⟩}
theorem WF:Gq.Ok Tryz.prog 147:=by
 refine fok (X:=⟨tt,[(118,Ag),(120,BA),(153,Ay),(169,BS)],[],25,[]⟩) mixed AF (CTok.cons E5 (CTok.cons Id (CTok.cons E3 (CTok.cons Gp (CTok.nil _))))) Tryz.func147 (λ_=>[]) ?_;rintro⟨r,s⟩ a0;have a0:True:=a0;refine AG (q:=∃i1:Fr,[dF r]=Ag.args i1/\Ag.pre i1/\(ifB ((!(!i1.good))) (∃i2:Fr,[dF s]=Ag.args i2/\Ag.pre i2/\(ifB ((!i2.good)) ((eqN (Fr.mul r s))) (∃i3:Int×Int,[dB r.z,dB s.z]=BA.args i3/\BA.pre i3/\(∃i4:Nat×Nat,[DA.one (cS (L r.d)),DA.one (cS (L s.d))]=Ay.args i4/\Ay.pre i4/\(∃i5:Int×Nat,[dB (i3.1*i3.2),DA.one (cS (L (i4.1*i4.2)))]=BS.args i5/\BS.pre i5/\((eqC (Fr.mk' i5.1 i5.2) (Fr.mul r s)))))))) ((eqN (Fr.mul r s))))) (by kernel_rfl) ?_;delta ifB;have h1:=r.nlz;have h2:=r.nld;have h3:=s.nlz;have h4:=s.nld
 refine⟨r,by
  rfl,by
  trivial,?_⟩
 refine And.symm ⟨λc4=>?_,λc4=>?_⟩;simp only[nrm]at c4;have hE:Fr.mul r s=Fr.none:=Fr.bin_bad _ (.inl (D6 c4));refine BV ?_;rw[hE];simp only[nrm]at c4
 refine⟨s,by
  rfl,by
  trivial,?_⟩
 refine⟨λc8=>?_,λc8=>?_⟩;simp only[nrm]at c8;have hE:Fr.mul r s=Fr.none:=Fr.bin_bad _ (.inr (D6 c8));refine BV ?_;rw[hE];simp only[nrm]at c8;have hE:=Fr.mul_zd (B4 c4) (B4 c8);have m1:=Bc r.z s.z;have m4:=Az r.d s.d;have m5:r.d*s.d≠0:=Nat.mul_ne_zero (B4 c4) (B4 c8)
 refine⟨(r.z,s.z),by
  rfl,by
  show nl r.z.natAbs<=1000/\nl s.z.natAbs<=1000;exact⟨by omega,by omega⟩,?_⟩
 refine⟨(r.d,s.d),by
  rfl,by
  show nl r.d<=524288/\nl s.d<=524288;exact⟨by omega,by omega⟩,?_⟩
 refine⟨((r.z*s.z),(r.d*s.d)),by
  rfl,by
  show(r.d*s.d)≠0/\nl (r.z*s.z).natAbs<=1000/\nl (r.d*s.d)<=1000;exact⟨by omega,by omega⟩,?_⟩
 refine B0 ?_;rw[hE]
def DL:Con:={ι:=Fr×Fr,pre:=λi=>True,args:=λi=>[dF i.1,dF i.2],mono:=true,res:=λi=>⟨false,[some 3],[rcB (decide ((Fr.div i.1 i.2).z<0)),.own 3 [.int] (L (Fr.div i.1 i.2).z.natAbs),.own 3 [.int] (L (Fr.div i.1 i.2).d)]⟩}
theorem Oe:DL.Ok Tryz.prog 142:=by
 refine fok (X:=⟨tt,[(118,Ag),(120,BA),(152,Ar),(153,Ay),(169,BS)],[],44,[]⟩) mixed AF (CTok.cons E5 (CTok.cons Id (CTok.cons FV (CTok.cons E3 (CTok.cons Gp (CTok.nil _)))))) Tryz.func142 (λ_=>[]) ?_;rintro⟨r,s⟩ a0;have a0:True:=a0;refine AG (q:=let Z1:=(eqN (Fr.div r s));∃i1:Fr,[dF r]=Ag.args i1/\Ag.pre i1/\(ifB ((!(!i1.good))) (∃i2:Fr,[dF s]=Ag.args i2/\Ag.pre i2/\(ifB ((!(!i2.good))) (ifB (((nI ((L s.z.natAbs).length)) == (0:Int))) Z1 (∃i3:Int×Int,[dB r.z,DA.agg [cB false,cS (L s.d)]]=BA.args i3/\BA.pre i3/\(∃i4:Bool×Nat,[DA.one (cB ((decide ((i3.1*i3.2)<0)) != (decide (s.z<0)))),DA.one (cS (L (i3.1*i3.2).natAbs))]=Ar.args i4/\Ar.pre i4/\(∃i5:Nat×Nat,[DA.one (cS (L r.d)),DA.one (cS (L s.z.natAbs))]=Ay.args i5/\Ay.pre i5/\(∃i6:Int×Nat,[dB (zOf i4.1 i4.2),DA.one (cS (L (i5.1*i5.2)))]=BS.args i6/\BS.pre i6/\((eqC (Fr.mk' i6.1 i6.2) (Fr.div r s)))))))) Z1)) Z1)) (by kernel_rfl) ?_;conv=>zeta
 delta ifB nI;have h1:=r.nlz;have h2:=r.nld;have h3:=s.nlz;have h4:=s.nld
 refine⟨r,by
  rfl,by
  trivial,?_⟩
 refine And.symm ⟨λc4=>?_,λc4=>?_⟩;simp only[nrm]at c4;have hE:Fr.div r s=Fr.none:=Fr.div_bad (.inl (D6 c4));refine BV ?_;rw[hE];simp only[nrm]at c4
 refine⟨s,by
  rfl,by
  trivial,?_⟩
 refine And.symm ⟨λc8=>?_,λc8=>?_⟩;simp only[nrm]at c8;have hE:Fr.div r s=Fr.none:=Fr.div_bad (.inr (.inl (D6 c8)));refine BV ?_;rw[hE];simp only[nrm]at c8;refine⟨λc9=>?_,λc9=>?_⟩;simp only[nrm]at c9;have hE:Fr.div r s=Fr.none:=Fr.div_bad (.inr (.inr (ADO (by omega))));refine BV ?_;rw[hE];simp only[nrm]at c9;have hz:s.z≠0:=ACO (by omega);have hE:=Fr.div_zd (B4 c4) (B4 c8) hz;have m1:=Bc r.z ((s.d:Nat):Int);have m2:=Bc s.z ((r.d:Nat):Int);rw[Dt]at m1 m2;have m4:=Az r.d s.z.natAbs;have m5:r.d*s.z.natAbs≠0:=Nat.mul_ne_zero (B4 c4) (by omega)
 refine⟨(r.z,((s.d:Nat):Int)),by
  rfl,by
  show nl r.z.natAbs<=1000/\nl ((s.d:Nat):Int).natAbs<=1000;exact⟨by omega,by rw[Dt];omega⟩,?_⟩
 refine⟨(((decide ((r.z*((s.d:Nat):Int))<0)) != (decide (s.z<0))),(r.z*((s.d:Nat):Int)).natAbs),by
  rfl,by
  trivial,?_⟩
 refine⟨(r.d,s.z.natAbs),by
  rfl,by
  show nl r.d<=524288/\nl s.z.natAbs<=524288;exact⟨by omega,by omega⟩,?_⟩
 refine⟨((zOf ((decide ((r.z*((s.d:Nat):Int))<0)) != (decide (s.z<0))) ((r.z*((s.d:Nat):Int)).natAbs)),(r.d*s.z.natAbs)),by
  rfl,by
  show(r.d*s.z.natAbs)≠0/\nl (zOf ((decide ((r.z*((s.d:Nat):Int))<0)) != (decide (s.z<0))) ((r.z*((s.d:Nat):Int)).natAbs)).natAbs<=1000/\nl (r.d*s.z.natAbs)<=1000;exact⟨m5,by rw[El];omega,by omega⟩,?_⟩
 refine B0 ?_;rw[hE]
def Gr:Con:={ι:=Fr,pre:=λi=>True,args:=λi=>[dF i],mono:=true,res:=λi=>⟨false,[some 3],[rcB (decide (i.opp.z<0)),.view 3 [.int] (L i.opp.z.natAbs),.view 3 [.int] (L i.opp.d)]⟩}
theorem WG:Gr.Ok Tryz.prog 167:=by
 refine fok (X:=⟨tt,[(184,Gk)],[],9,[]⟩) mixed AF (CTok.cons WB (CTok.nil _)) Tryz.func167 (λ_=>[]) ?_;intro (r:Fr) a0;have a0:True:=a0;refine AG (q:=∃i1:Int,[dB r.z]=Gk.args i1/\Gk.pre i1/\((vB (decide ((-i1)<0))=vB (decide (r.opp.z<0)))/\(L (-i1).natAbs=L r.opp.z.natAbs)/\((L r.d)=L r.opp.d))) (by kernel_rfl) ?_;delta vB
 refine⟨r.z,by
  rfl,by
  trivial,?_⟩
 refine⟨?_,?_,?_⟩;rw[Fr.opp_z];rw[Fr.opp_z];rw[Fr.opp_d]
def Cc:Con:={ι:=Fr×Fr,pre:=λi=>True,args:=λi=>[dF i.1,dF i.2],mono:=true,res:=λi=>⟨false,[some 3],[rcB (decide ((Fr.sub i.1 i.2).z<0)),.own 3 [.int] (L (Fr.sub i.1 i.2).z.natAbs),.own 3 [.int] (L (Fr.sub i.1 i.2).d)]⟩}
theorem Of:Cc.Ok Tryz.prog 140:=by
 refine fok (X:=⟨tt,[(167,Gr),(143,Bd)],[],9,[]⟩) mixed AF (CTok.cons WG (CTok.cons Ie (CTok.nil _))) Tryz.func140 (λ_=>[]) ?_;rintro⟨r,s⟩ a0;have a0:True:=a0;refine AG (q:=∃i1:Fr,[dF s]=Gr.args i1/\Gr.pre i1/\(∃i2:Fr×Fr,[dF r,dF i1.opp]=Bd.args i2/\Bd.pre i2/\((eqC (Fr.add i2.1 i2.2) (Fr.sub r s))))) (by kernel_rfl) ?_
 refine⟨s,by
  rfl,by
  trivial,?_⟩
 refine⟨(r,s.opp),by
  rfl,by
  trivial,?_⟩
 refine B0 ?_;rw[Fr.sub_opp]
def AN:Con:={ι:=Fr×Fr,pre:=λi=>True,args:=λi=>[dF i.1,dF i.2],mono:=true,res:=λi=>⟨false,[none],[rcI (Fr.cmp i.1 i.2)]⟩}
theorem GP:AN.Ok Tryz.prog 81:=by
 refine fok (X:=⟨tt,[(118,Ag),(120,BA),(119,Gm)],[],26,[]⟩) mixed AF (CTok.cons E5 (CTok.cons Id (CTok.cons WD (CTok.nil _)))) Tryz.func81 (λ_=>[]) ?_;rintro⟨r,s⟩ a0;have a0:True:=a0;refine AG (q:=let Z1:=(vI (0:Int)=vI (Fr.cmp r s));∃i1:Fr,[dF r]=Ag.args i1/\Ag.pre i1/\(ifB ((!(!i1.good))) (∃i2:Fr,[dF s]=Ag.args i2/\Ag.pre i2/\(ifB ((!i2.good)) Z1 (∃i3:Int×Int,[dB r.z,DA.agg [cB false,cS (L s.d)]]=BA.args i3/\BA.pre i3/\(∃i4:Int×Int,[dB s.z,DA.agg [cB false,cS (L r.d)]]=BA.args i4/\BA.pre i4/\(∃i5:Int×Int,[dB (i3.1*i3.2),dB (i4.1*i4.2)]=Gm.args i5/\Gm.pre i5/\((vI (DJ i5.1 i5.2)=vI (Fr.cmp r s)))))))) Z1)) (by kernel_rfl) ?_;conv=>zeta
 delta ifB vI;have h1:=r.nlz;have h2:=r.nld;have h3:=s.nlz;have h4:=s.nld
 refine⟨r,by
  rfl,by
  trivial,?_⟩
 refine And.symm ⟨λc4=>?_,λc4=>?_⟩;simp only[nrm]at c4;have hE:Fr.cmp r s=0:=Fr.cmp_bad (.inl (D6 c4));rw[hE];simp only[nrm]at c4
 refine⟨s,by
  rfl,by
  trivial,?_⟩
 refine⟨λc8=>?_,λc8=>?_⟩;simp only[nrm]at c8;have hE:Fr.cmp r s=0:=Fr.cmp_bad (.inr (D6 c8));rw[hE];simp only[nrm]at c8;have hE:=Fr.cmp_zd (B4 c4) (B4 c8);have m1:=Bc r.z ((s.d:Nat):Int);have m2:=Bc s.z ((r.d:Nat):Int);rw[Dt]at m1 m2
 refine⟨(r.z,((s.d:Nat):Int)),by
  rfl,by
  show nl r.z.natAbs<=1000/\nl ((s.d:Nat):Int).natAbs<=1000;exact⟨by omega,by rw[Dt];omega⟩,?_⟩
 refine⟨(s.z,((r.d:Nat):Int)),by
  rfl,by
  show nl s.z.natAbs<=1000/\nl ((r.d:Nat):Int).natAbs<=1000;exact⟨by omega,by rw[Dt];omega⟩,?_⟩
 refine⟨((r.z*((s.d:Nat):Int)),(s.z*((r.d:Nat):Int))),by
  rfl,by
  show nl (r.z*((s.d:Nat):Int)).natAbs<=1000/\nl (s.z*((r.d:Nat):Int)).natAbs<=1000;exact⟨by omega,by omega⟩,?_⟩
 rw[hE]
def AH:Con:={ι:=Bool×(List (List Dat))×(List (List Dat)),pre:=λi=>i.2.1.length<=1073741824/\i.2.2.length<=1073741824,args:=λi=>[DA.agg [cB i.1,cS i.2.1,cS i.2.2]],mono:=true,res:=λi=>⟨false,[some 3],[rcB i.1,.own 3 [.int] i.2.1,.own 3 [.int] i.2.2]⟩}
theorem Og:AH.Ok Tryz.prog 71:=by
 refine fok (X:=⟨tt,[(110,At)],[],15,[]⟩) mixed AF (CTok.cons Gj (CTok.nil _)) Tryz.func71 (λ_=>[]) ?_;rintro⟨neg,m,d⟩ a0;have a0:m.length<=1073741824/\d.length<=1073741824:=a0;refine AG (q:=∃i1:(List (List Dat)),[DA.one (cS m)]=At.args i1/\At.pre i1/\(∃i2:(List (List Dat)),[DA.one (cS d)]=At.args i2/\At.pre i2/\((vB neg=vB neg)/\(i1=m)/\(i2=d)))) (by kernel_rfl) ?_;delta vB
 refine⟨m,by
  rfl,by
  first|omega|assumption|exact a0.1|exact a0.2|(simp;done),?_⟩
 refine⟨d,by
  rfl,by
  first|omega|assumption|exact a0.1|exact a0.2|(simp;done),?_⟩
 exact⟨rfl,rfl,rfl⟩
def If:Con:={ι:=(List (List Dat)),pre:=λi=>i.length<=9223372036854775807,args:=λi=>[.one (cS i)],mono:=true,res:=λi=>⟨false,[none],[rcB (BO i)]⟩}
theorem YK:If.Ok Tryz.prog 215:=by
 refine fok (X:=⟨tt,[(216,IZ)],[],22,[]⟩) mixed AF (CTok.cons X9 (CTok.nil _)) Tryz.func215 (λ_=>[]) ?_;intro (l:List (List Dat)) a0;have a0:l.length<=9223372036854775807:=a0;refine AG (q:=let Z2:=(vB false=vB (BO l));let Z1:=wR ((nI l.length)-(1:Int));ifB ((!(decide ((nI l.length)>(60:Int))))) (∃i1:(List (List Dat)),[DA.one (cS l),DA.one (DC.ro (.fn 217 []))]=IZ.args i1/\IZ.pre i1/\(ifB ((i1.any (λr=>!(inB (rn r))))) Z2 (ifB ((!((nI l.length) == (0:Int)))) ((0<=Z1/\Z1<(l.length:Int))/\((Z1.toNat<l.length)/\((vB ((((l.getD (Z1.toNat) []).getD 0 (.int 0))).n != (0:Int))=vB (BO l))))) ((vB true=vB (BO l)))))) Z2) (by kernel_rfl) ?_;conv=>zeta
 delta ifB vB wR nI;refine And.symm ⟨λc1=>?_,λc1=>?_⟩;simp only[nrm]at c1;have hE:=NI (l:=l) (by omega);rw[hE];simp only[nrm]at c1
 refine⟨l,by
  rfl,by
  trivial,?_⟩
 refine⟨λc5=>?_,λc5=>?_⟩;have hE:=NJ c5;rw[hE];refine And.symm ⟨λc7=>?_,λc7=>?_⟩;simp only[nrm]at c7;have hE:=NK (l:=l) (by omega);rw[hE];simp only[nrm]at c7;have hE:=Lf (l:=l) (by omega) c5 (by omega);have hw:(IntKind.i64.wrap (((l.length:Nat):Int)-(1:Int)))=((l.length-1:Nat):Int):=by rw[AC (by omega) (by omega)];omega
 refine ao (by rw[hw];omega) λo8=>?_;refine ao (by rw[hw];omega) λo9=>?_;rw[hw,Int.toNat_natCast,hE];rfl
def C2:Con:={ι:=Bool×(List (List Dat)),pre:=λi=>i.2.length<=9223372036854775807,args:=λi=>[DA.agg [cB i.1,cS i.2]],mono:=true,res:=λi=>⟨false,[none],[rcB (Br i.1 i.2)]⟩}
theorem Rg:C2.Ok Tryz.prog 213:=by
 refine fok (X:=⟨tt,[(215,If)],[],17,[]⟩) mixed AF (CTok.cons YK (CTok.nil _)) Tryz.func213 (λ_=>[]) ?_;rintro⟨neg,m⟩ a0;have a0:m.length<=9223372036854775807:=a0;refine AG (q:=let Z1:=Br neg m;∃i1:(List (List Dat)),[DA.one (cS m)]=If.args i1/\If.pre i1/\(ifB ((BO i1)) (ifB (neg) ((vB (!((nI m.length) == (0:Int)))=vB Z1)) ((vB (!false)=vB Z1))) ((vB false=vB Z1)))) (by kernel_rfl) ?_;conv=>zeta
 delta ifB vB nI
 refine⟨m,by
  rfl,by
  trivial,?_⟩
 refine And.symm ⟨λc4=>?_,λc4=>?_⟩;unfold Br;rw[c4];rfl;refine⟨λc5=>?_,λc5=>?_⟩;rw[c5,NL c4];unfold Br;rw[c4,c5];rfl
end Go.Proofs.YthoidhehmmcgnaaGreat
