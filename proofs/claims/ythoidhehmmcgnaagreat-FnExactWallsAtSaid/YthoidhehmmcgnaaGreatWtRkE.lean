import Derived.Test.YthoidhehmmcgnaaGreatWtRkD
namespace Go.Proofs.YthoidhehmmcgnaaGreat
set_option maxRecDepth 100000
set_option linter.unusedVariables false
set_option linter.unusedSimpArgs false
open Go.RowKit
theorem Em(z:Int)(d:Nat):zOf (decide (z<0)) (z.natAbs*d)=z*((d:Nat):Int):=by have h:=Lj z ((d:Nat):Int);rw[X1,Int.natAbs_natCast]at h;rw[← h];cases decide (z<0) <;> rfl
theorem V8{z:Int}{d:Nat}(hd:d≠0):decide (z*((d:Nat):Int)<0)=decide (z<0):=by
 congr 1;apply propext;have hp:(0:Int)<((d:Nat):Int):=by omega
 constructor;intro h;apply Int.lt_of_not_ge;intro h2;have:=Int.mul_nonneg h2 (Int.le_of_lt hp);omega;intro h;exact Int.mul_neg_of_neg_of_pos h hp
theorem ZL{neg:Bool}{m k:Nat}(h:m=0->k=0):zOf (decide (zOf neg m<0)) k=zOf neg k:=by cases neg;have:decide (zOf false m<0)=false:=decide_eq_false (by unfold zOf;simp);rw[this];by_cases hm:m=0;rw[h hm];unfold zOf;simp;have:decide (zOf true m<0)=true:=decide_eq_true (by unfold zOf;simp;omega);rw[this]
def E9(z:Int)(d:Nat):Fr:=if d=0 then Fr.none else Fr.mk' z d
theorem Gh{z:Int}{d:Nat}(h:d≠0):E9 z d=Fr.mk' z d:=by unfold E9;rw[if_neg h]
theorem TA{z:Int}{d:Nat}(h:d=0):E9 z d=Fr.none:=by unfold E9;rw[if_pos h]
theorem EZ{neg:Bool}{m d M D:Nat}{z:Int}(hz:zOf neg m=z)(hd:d≠0)(eM:m/m.gcd d=M)(eD:d/m.gcd d=D)(h1:nl M<=24)(h2:nl D<=24):(E9 z d).z=zOf neg M/\(E9 z d).d=D:=by
 have ha:z.natAbs=m:=by rw[← hz,EV]
 have hf:=EB (z:=z) hd (by rw[ha,eM];exact h1) (by rw[ha,eD];exact h2);rw[Gh hd];rw[ha,eM,eD]at hf;refine⟨?_,hf.2.2⟩;rw[← F9 (Fr.mk' z d).z,hf.1,hf.2.1,← hz];exact ZL λe=>by rw[← eM,e,Nat.zero_div]
theorem Eo{neg:Bool}{m d M D:Nat}{z:Int}(hz:zOf neg m=z)(hd:d≠0)(eM:m/m.gcd d=M)(eD:d/m.gcd d=D)(h:¬(nl M<=24/\nl D<=24)):E9 z d=Fr.none:=by
 have ha:z.natAbs=m:=by rw[← hz,EV]
 rw[Gh hd,E6 hd (by rw[ha,eM,eD];exact h)]
theorem AAK:[[Dat.int (1:Int)]]=L 1:=Xy (by decide) (by decide)
theorem BP(e:Nat){n:Nat}(h:nl n<=9223372036854775807):Dat.has (.sl e [.int]) (.sl (L n)):=by refine⟨by rw[AJ];exact h,λk hk=>?_⟩;unfold L;rw[Mn (by rw[AJ]at hk;exact hk)];simp[hasRow,Dat.has]
theorem BO(r:Fr):GX (decide (r.z<0)) (L r.z.natAbs) (L r.d)=r.good:=by rw[← Fr.neg_z,← Fr.num_z,← Fr.den_d];exact Vy r
theorem TB{m:List (List Dat)}(h:BG m=true):Bg true m=decide (((m.length:Nat):Int)>(0:Int)):=by
 rw[M5 h];by_cases hv:m.length=0;rw[hv];rfl;rw[decide_eq_true (by omega)];have:((((m.length:Nat):Int)) == (0:Int))=false:=by rw[beq_eq_false_iff_ne];omega
 rw[this];rfl
theorem X5(r s:Fr):Fr.sub r s=Fr.add r s.opp:=(Fr.sub_opp r s).symm
theorem X6{r s:Fr}(hr:r.d=1)(hs:s.d=1):Fr.add r s=E9 (r.z+s.z) 1:=by rw[Fr.add_zd (by omega) (by omega),Gh (by decide),hr,hs];show Fr.mk' (r.z*1+s.z*1) (1*1)=_;rw[Int.mul_one,Int.mul_one]
theorem Uj{r s:Fr}(hr:r.d≠0)(hs:s.d≠0):Fr.add r s=E9 (r.z*((s.d:Nat):Int)+s.z*((r.d:Nat):Int)) (r.d*s.d):=by rw[Fr.add_zd hr hs,Gh (Nat.mul_ne_zero hr hs)]
theorem ZM{r s:Fr}(hr:r.d≠0)(hs:s.d≠0):Fr.mul r s=E9 (r.z*s.z) (r.d*s.d):=by rw[Fr.mul_zd hr hs,Gh (Nat.mul_ne_zero hr hs)]
theorem ZN{r s:Fr}(hr:r.d≠0)(hs:s.d≠0):Fr.div r s=E9 (zOf (decide (r.z<0) != decide (s.z<0)) (r.z.natAbs*s.d)) (r.d*s.z.natAbs):=by by_cases hz:s.z=0;rw[Fr.div_bad (.inr (.inr hz)),TA (by rw[hz];exact Nat.mul_zero _)];rw[Fr.div_zd hr hs hz,Gh (Nat.mul_ne_zero hr (by omega)),V8 hs,Int.natAbs_mul,Int.natAbs_natCast]
def BV:Con:={ι:=Bool×(List (List Dat)),pre:=λi=>i.2.length<=9223372036854775807,args:=λi=>[DA.agg [cB i.1,cS i.2]],res:=λi=>⟨false,[none],[rcB (Bg i.1 i.2)]⟩}
theorem Jb:BV.Ok Tryz.prog 130:=by
 refine fok (X:=⟨tt,[(131,B7)],[],17,[]⟩) mixed AG (CTok.cons KQ (CTok.nil _)) Tryz.func130 (λ_=>[]) ?_;rintro⟨neg,m⟩ a0;have a0:m.length<=9223372036854775807:=a0;refine AH (q:=let Z1:=Bg neg m;∃i1:(List (List Dat)),[DA.one (cS m)]=B7.args i1/\B7.pre i1/\(ifB ((BG i1)) (ifB ((!(!neg))) ((vB (decide ((nI m.length)>(0:Int)))=vB Z1)) ((vB true=vB Z1))) ((vB false=vB Z1)))) (by kernel_rfl) ?_;conv=>zeta
 delta ifB vB nI
 refine⟨m,by
  rfl,by
  trivial,?_⟩
 refine And.symm ⟨λc4=>?_,λc4=>?_⟩;unfold Bg;rw[c4];rfl;refine⟨λc5=>?_,λc5=>?_⟩;simp only[nrm]at c5;rw[c5,TB c4];simp only[nrm]at c5;unfold Bg;rw[c4,c5];rfl
def AK:Con:={ι:=Bool×Nat×Int,pre:=λi=>nl i.2.1<=60/\zOf i.1 i.2.1=i.2.2,args:=λi=>[.one (cB i.1),.one (cS (L i.2.1))],res:=λi=>⟨false,[some 2],[rcB (decide (i.2.2<0)),.own 3 [.int] (L i.2.2.natAbs)]⟩}
theorem D5:AK.Ok Tryz.prog 122:=by
 refine fok (X:=⟨tt,[(156,Gf)],[],18,[]⟩) mixed AG (CTok.cons V6 (CTok.nil _)) Tryz.func122 (λ_=>[]) ?_;rintro⟨neg,m,z⟩ a0;have a0:nl m<=60/\zOf neg m=z:=a0;refine AH (q:=∃i1:Nat,let Z1:=(([]:List (List Dat))++L i1)=L z.natAbs;[DA.one (cS (L m))]=Gf.args i1/\Gf.pre i1/\(ifB (neg) ((([]:List (List Dat)).length+(L i1).length<=2199023255552)/\((vB (decide ((nI ((L i1).length))>(0:Int)))=vB (decide (z<0)))/\Z1)) ((([]:List (List Dat)).length+(L i1).length<=2199023255552)/\((vB false=vB (decide (z<0)))/\Z1)))) (by kernel_rfl) ?_;conv=>zeta
 delta ifB vB nI
 refine⟨m,by
  rfl,by
  exact a0.1,?_⟩
 refine⟨λc4=>?_,λc4=>?_⟩;refine ao (by first|(rw[AJ];simp only[List.length_nil];omega)) λo5=>?_;refine⟨?_,?_⟩;rw[← a0.2];rw[Lk,c4];rfl;rw[← a0.2];rw[EV];exact List.nil_append _;refine ao (by first|(rw[AJ];simp only[List.length_nil];omega)) λo8=>?_;refine⟨?_,?_⟩;rw[← a0.2];rw[Lk,c4];rfl;rw[← a0.2];rw[EV];exact List.nil_append _
def BW:Con:={ι:=Int,pre:=λi=>-9223372036854775808<=i/\i<=9223372036854775807,args:=λi=>[.one (cI i)],res:=λi=>⟨false,[some 2],[rcB (decide (i<0)),.own 3 [.int] (L i.natAbs)]⟩}
theorem Jc:BW.Ok Tryz.prog 88:=by
 refine fok (X:=⟨tt,[(122,AK),(123,A7)],[],16,[]⟩) mixed AG (CTok.cons D5 (CTok.cons IO (CTok.nil _))) Tryz.func88 (λ_=>[]) ?_;intro (n:Int) a0;have a0:-9223372036854775808<=n/\n<=9223372036854775807:=a0;refine AH (q:=let Z1:=decide (n<0);ifB ((n == (-9223372036854775808:Int))) (∃i1:Bool×Nat×Int,[DA.one (cB true),DA.one (cS ([[Dat.int (854775808:Int)],[Dat.int (223372036:Int)],[Dat.int (9:Int)]]:List (List Dat)))]=AK.args i1/\AK.pre i1/\((vB (decide (i1.2.2<0))=vB Z1)/\(L i1.2.2.natAbs=L n.natAbs))) (ifB ((decide (n<(0:Int)))) (∃i2:Nat,[DA.one (cI (wR (0-n)))]=A7.args i2/\A7.pre i2/\(∃i3:Bool×Nat×Int,[DA.one (cB true),DA.one (cS (L i2))]=AK.args i3/\AK.pre i3/\((vB (decide (i3.2.2<0))=vB Z1)/\(L i3.2.2.natAbs=L n.natAbs)))) (∃i4:Nat,[DA.one (cI n)]=A7.args i4/\A7.pre i4/\(∃i5:Bool×Nat×Int,[DA.one (cB false),DA.one (cS (L i4))]=AK.args i5/\AK.pre i5/\((vB (decide (i5.2.2<0))=vB Z1)/\(L i5.2.2.natAbs=L n.natAbs)))))) (by kernel_rfl) ?_;conv=>zeta
 delta ifB vB wR;refine⟨λc1=>?_,λc1=>?_⟩;simp only[nrm]at c1
 refine⟨(true,9223372036854775808,n),by
  rw[ACu];rfl,by
  show nl 9223372036854775808<=60/\zOf true 9223372036854775808=n;exact⟨Nat.le_trans ((Di 3 _).2 (by decide)) (by decide),by unfold zOf;rw[if_pos rfl];omega⟩,?_⟩
 exact⟨rfl,rfl⟩;simp only[nrm]at c1;refine⟨λc7=>?_,λc7=>?_⟩;simp only[nrm]at c7;have en:IntKind.i64.wrap (0-n)=(((-n).toNat:Nat):Int):=by rw[AB (by omega) (by omega)];omega
 have ea:n.natAbs=(-n).toNat:=by omega
 refine⟨(-n).toNat,by
  rw[en];rfl,by
  show((-n).toNat)<=9223372036854775807;omega,?_⟩
 refine⟨(true,(-n).toNat,n),by
  rfl,by
  show nl ((-n).toNat)<=60/\zOf true ((-n).toNat)=n;exact⟨Nat.le_trans (by rw[← ea];exact Cd a0) (by decide),by unfold zOf;rw[if_pos rfl];omega⟩,?_⟩
 exact⟨rfl,rfl⟩;simp only[nrm]at c7;have en:n=((n.toNat:Nat):Int):=by omega
 have ea:n.natAbs=n.toNat:=by omega
 refine⟨n.toNat,by
  show[DA.one (DC.im (Value.int .i64 n))]=[DA.one (DC.im (Value.int .i64 ((n.toNat:Nat):Int)))];rw[← en],by
  show n.toNat<=9223372036854775807;omega,?_⟩
 refine⟨(false,n.toNat,n),by
  rfl,by
  show nl n.toNat<=60/\zOf false n.toNat=n;exact⟨Nat.le_trans (by rw[← ea];exact Cd a0) (by decide),by unfold zOf;rw[if_neg (by decide)];omega⟩,?_⟩
 exact⟨rfl,rfl⟩
def Cm:Con:={ι:=Int×Int,pre:=λi=>nl i.1.natAbs<=59/\nl i.2.natAbs<=59,args:=λi=>[dB i.1,dB i.2],res:=λi=>⟨false,[some 2],[rcB (decide ((i.1+i.2)<0)),.own 3 [.int] (L (i.1+i.2).natAbs)]⟩}
theorem V9:Cm.Ok Tryz.prog 159:=by
 refine fok (X:=⟨tt,[(182,Gg),(122,AK),(163,AW),(181,B8)],[],40,[]⟩) mixed AG (CTok.cons V7 (CTok.cons D5 (CTok.cons GB (CTok.cons OV (CTok.nil _))))) Tryz.func159 (λ_=>[]) ?_;rintro⟨x,y⟩ a1;have a1:nl x.natAbs<=59/\nl y.natAbs<=59:=a1;refine AH (q:=let Z4:=decide (x<0);let Z3:=decide ((x+y)<0);let Z2:=cS (L y.natAbs);let Z1:=cS (L x.natAbs);ifB ((Z4 == (decide (y<0)))) (∃i1:Nat×Nat,[DA.one Z1,DA.one Z2]=Gg.args i1/\Gg.pre i1/\(∃i2:Bool×Nat×Int,[DA.one (cB Z4),DA.one (cS (L (i1.1+i1.2)))]=AK.args i2/\AK.pre i2/\((vB (decide (i2.2.2<0))=vB Z3)/\(L i2.2.2.natAbs=L (x+y).natAbs)))) (∃i3:Nat×Nat,[DA.one Z1,DA.one Z2]=AW.args i3/\AW.pre i3/\(ifB ((decide ((Br i3.1 i3.2)>=(0:Int)))) (∃i4:Nat×Nat,[DA.one Z1,DA.one Z2]=B8.args i4/\B8.pre i4/\(∃i5:Bool×Nat×Int,[DA.one (cB Z4),DA.one (cS (L (i4.1-i4.2)))]=AK.args i5/\AK.pre i5/\((vB (decide (i5.2.2<0))=vB Z3)/\(L i5.2.2.natAbs=L (x+y).natAbs)))) (∃i6:Nat×Nat,[DA.one Z2,DA.one Z1]=B8.args i6/\B8.pre i6/\(∃i7:Bool×Nat×Int,[DA.one (cB (decide (y<0))),DA.one (cS (L (i6.1-i6.2)))]=AK.args i7/\AK.pre i7/\((vB (decide (i7.2.2<0))=vB Z3)/\(L i7.2.2.natAbs=L (x+y).natAbs))))))) (by kernel_rfl) ?_;conv=>zeta
 delta ifB vB;have hs:=KH x.natAbs y.natAbs;have hs1:=Cy (Nat.sub_le x.natAbs y.natAbs);have hs2:=Cy (Nat.sub_le y.natAbs x.natAbs);refine⟨λc1=>?_,λc1=>?_⟩;simp only[nrm]at c1
 refine⟨(x.natAbs,y.natAbs),by
  rfl,by
  show nl x.natAbs<=1048576/\nl y.natAbs<=1048576;exact⟨by omega,by omega⟩,?_⟩
 refine⟨(decide (x<0),x.natAbs+y.natAbs,x+y),by
  rfl,by
  show nl (x.natAbs+y.natAbs)<=60/\zOf (decide (x<0)) (x.natAbs+y.natAbs)=(x+y);exact⟨by omega,Mw c1⟩,?_⟩
 exact⟨rfl,rfl⟩;simp only[nrm]at c1
 refine⟨(x.natAbs,y.natAbs),by
  rfl,by
  show nl x.natAbs<=1048576/\nl y.natAbs<=1048576;exact⟨by omega,by omega⟩,?_⟩
 refine⟨λa0=>?_,λa0=>?_⟩;simp only[nrm]at a0
 refine⟨(x.natAbs,y.natAbs),by
  rfl,by
  show nl x.natAbs<=1048576/\nl y.natAbs<=1048576/\y.natAbs<=x.natAbs;exact⟨by omega,by omega,E4.1 a0⟩,?_⟩
 refine⟨(decide (x<0),x.natAbs-y.natAbs,x+y),by
  rfl,by
  show nl (x.natAbs-y.natAbs)<=60/\zOf (decide (x<0)) (x.natAbs-y.natAbs)=(x+y);exact⟨by omega,Ja c1 (E4.1 a0)⟩,?_⟩
 exact⟨rfl,rfl⟩;simp only[nrm]at a0
 refine⟨(y.natAbs,x.natAbs),by
  rfl,by
  show nl y.natAbs<=1048576/\nl x.natAbs<=1048576/\x.natAbs<=y.natAbs;exact⟨by omega,by omega,Nat.le_of_lt (Dm.1 a0)⟩,?_⟩
 refine⟨(decide (y<0),y.natAbs-x.natAbs,x+y),by
  rfl,by
  show nl (y.natAbs-x.natAbs)<=60/\zOf (decide (y<0)) (y.natAbs-x.natAbs)=(x+y);exact⟨by omega,Mx c1 (Nat.le_of_lt (Dm.1 a0))⟩,?_⟩
 exact⟨rfl,rfl⟩
def Gi:Con:={ι:=Int×Int,pre:=λi=>nl i.1.natAbs<=59/\nl i.2.natAbs<=59,args:=λi=>[dB i.1,dB i.2],res:=λi=>⟨false,[none],[rcI (DG i.1 i.2)]⟩}
theorem WA:Gi.Ok Tryz.prog 134:=by
 refine fok (X:=⟨tt,[(163,AW)],[],34,[]⟩) mixed AG (CTok.cons GB (CTok.nil _)) Tryz.func134 (λ_=>[]) ?_;rintro⟨x,y⟩ a0;have a0:nl x.natAbs<=59/\nl y.natAbs<=59:=a0;refine AH (q:=let Z5:=decide (y<0);let Z4:=DG x y;let Z6:=(vI (1:Int)=vI Z4);let Z3:=decide (x<0);let Z2:=cS (L x.natAbs);let Z1:=cS (L y.natAbs);ifB Z3 (ifB ((!Z5)) ((vI (-1:Int)=vI Z4)) (ifB ((!Z3)) (ifB Z5 Z6 (ifB Z3 (∃i1:Nat×Nat,[DA.one Z1,DA.one Z2]=AW.args i1/\AW.pre i1/\((vI (Br i1.1 i1.2)=vI Z4))) (∃i2:Nat×Nat,[DA.one Z2,DA.one Z1]=AW.args i2/\AW.pre i2/\((vI (Br i2.1 i2.2)=vI Z4))))) (ifB Z3 (∃i3:Nat×Nat,[DA.one Z1,DA.one Z2]=AW.args i3/\AW.pre i3/\((vI (Br i3.1 i3.2)=vI Z4))) (∃i4:Nat×Nat,[DA.one Z2,DA.one Z1]=AW.args i4/\AW.pre i4/\((vI (Br i4.1 i4.2)=vI Z4)))))) (ifB ((!Z3)) (ifB Z5 Z6 (ifB Z3 (∃i5:Nat×Nat,[DA.one Z1,DA.one Z2]=AW.args i5/\AW.pre i5/\((vI (Br i5.1 i5.2)=vI Z4))) (∃i6:Nat×Nat,[DA.one Z2,DA.one Z1]=AW.args i6/\AW.pre i6/\((vI (Br i6.1 i6.2)=vI Z4))))) (ifB Z3 (∃i7:Nat×Nat,[DA.one Z1,DA.one Z2]=AW.args i7/\AW.pre i7/\((vI (Br i7.1 i7.2)=vI Z4))) (∃i8:Nat×Nat,[DA.one Z2,DA.one Z1]=AW.args i8/\AW.pre i8/\((vI (Br i8.1 i8.2)=vI Z4)))))) (by kernel_rfl) ?_;conv=>zeta
 delta ifB vI;refine And.symm ⟨λc1=>?_,λc1=>?_⟩;simp only[nrm]at c1;refine And.symm ⟨λa1=>?_,λa1=>?_⟩;simp only[nrm]at a1;refine⟨λa2=>?_,λa2=>?_⟩;simp only[nrm]at a2
 refine⟨(y.natAbs,x.natAbs),by
  rfl,by
  exact⟨by omega,by omega⟩,?_⟩
 exfalso;omega;simp only[nrm]at a2
 refine⟨(x.natAbs,y.natAbs),by
  rfl,by
  exact⟨by omega,by omega⟩,?_⟩
 exfalso;omega;simp only[nrm]at a1;refine⟨λa3=>?_,λa3=>?_⟩;simp only[nrm]at a3;rw[← Ug (by omega) (by omega)];simp only[nrm]at a3;refine⟨λa4=>?_,λa4=>?_⟩;simp only[nrm]at a4
 refine⟨(y.natAbs,x.natAbs),by
  rfl,by
  exact⟨by omega,by omega⟩,?_⟩
 exfalso;omega;simp only[nrm]at a4
 refine⟨(x.natAbs,y.natAbs),by
  rfl,by
  show nl x.natAbs<=1048576/\nl y.natAbs<=1048576;exact⟨by omega,by omega⟩,?_⟩
 rw[Ue (by omega) (by omega)];simp only[nrm]at c1;refine⟨λc2=>?_,λc2=>?_⟩;simp only[nrm]at c2;rw[← Uf (by omega) (by omega)];simp only[nrm]at c2;refine And.symm ⟨λc4=>?_,λc4=>?_⟩;simp only[nrm]at c4;refine And.symm ⟨λa5=>?_,λa5=>?_⟩;simp only[nrm]at a5
 refine⟨(x.natAbs,y.natAbs),by
  rfl,by
  exact⟨by omega,by omega⟩,?_⟩
 exfalso;omega;simp only[nrm]at a5
 refine⟨(y.natAbs,x.natAbs),by
  rfl,by
  show nl y.natAbs<=1048576/\nl x.natAbs<=1048576;exact⟨by omega,by omega⟩,?_⟩
 rw[Ud (by omega) (by omega)];simp only[nrm]at c4;refine⟨λc5=>?_,λc5=>?_⟩;simp only[nrm]at c5;exfalso;omega;simp only[nrm]at c5;refine⟨λc7=>?_,λc7=>?_⟩;simp only[nrm]at c7
 refine⟨(y.natAbs,x.natAbs),by
  rfl,by
  exact⟨by omega,by omega⟩,?_⟩
 exfalso;omega;simp only[nrm]at c7
 refine⟨(x.natAbs,y.natAbs),by
  rfl,by
  exact⟨by omega,by omega⟩,?_⟩
 exfalso;omega
def BN:Con:={ι:=Nat,pre:=λi=>True,args:=λi=>[.one (cS (L i))],res:=λi=>⟨false,[none],[rcB (decide (i=1))]⟩}
theorem KR:BN.Ok Tryz.prog 132:=by refine fok (X:=⟨tt,[],[],12,[]⟩) mixed AG (CTok.nil _) Tryz.func132 (λ_=>[]) ?_;intro (a:Nat) a0;have a0:True:=a0;refine AH (q:=ifB (((nI ((L a).length)) == (1:Int))) ((0<=(0:Int)/\(0:Int)<((L a).length:Int))/\((0<(L a).length)/\((vB (((((L a).getD 0 []).getD 0 (.int 0))).n == (1:Int))=vB (decide (a=1)))))) ((vB false=vB (decide (a=1))))) (by kernel_rfl) ?_;delta ifB vB nI;have ha:=AJ a;refine And.symm ⟨λc1=>?_,λc1=>?_⟩;simp only[nrm]at c1;exact congrArg Value.bool (decide_eq_false (λe=>by subst e;rw[PZ]at ha;omega)).symm;simp only[nrm]at c1;have h1:=Hl (b:=a) (by omega);refine ao (by omega) λo2=>?_;refine ao (by omega) λo3=>?_;rw[L_n,h1.1];exact congrArg Value.bool (by rw[Bool.eq_iff_iff,beq_iff_eq,decide_eq_true_iff];omega)
def Au:Con:={ι:=Bool×Nat×Nat×Int,pre:=λi=>nl i.2.1<=1000/\nl i.2.2.1<=1000/\zOf i.1 i.2.1=i.2.2.2,args:=λi=>[.one (cB i.1),.one (cS (L i.2.1)),.one (cS (L i.2.2.1))],res:=λi=>⟨false,[some 3],[rcB (decide ((E9 i.2.2.2 i.2.2.1).z<0)),.own 3 [.int] (L (E9 i.2.2.2 i.2.2.1).z.natAbs),.own 3 [.int] (L (E9 i.2.2.2 i.2.2.1).d)]⟩}
theorem IP:Au.Ok Tryz.prog 125:=by
 refine fok (X:=⟨tt,[(157,Ab),(132,BN),(133,DK),(158,Bp),(122,AK)],[],55,[]⟩) mixed AG (CTok.cons D4 (CTok.cons KR (CTok.cons OY (CTok.cons OX (CTok.cons D5 (CTok.nil _)))))) Tryz.func125 (λ_=>[]) ?_;rintro⟨neg,m,d,z⟩ a0;have a0:nl m<=1000/\nl d<=1000/\zOf neg m=z:=a0;refine AH (q:=let Z9:=List Dat;let Z1:=E9 z d;let Z7:=decide (Z1.z<0);let Z6:=(eqN Z1);∃i1:(List Nat)×Nat,let Z8:=cS (L i1.2);let Z2:=(!(decide ((nI ((L i1.2).length))>(24:Int))));[DA.one (cS (L m))]=Ab.args i1/\Ab.pre i1/\(∃i2:(List Nat)×Nat,let Z4:=(([]:List Z9)++L i2.2)=L Z1.d;let Z3:=(decide ((nI ((L i2.2).length))>(24:Int)));[DA.one (cS (L d))]=Ab.args i2/\Ab.pre i2/\(ifB (((nI ((L i2.2).length)) == (0:Int))) Z6 (∃i3:Nat,[DA.one (cS (L i2.2))]=BN.args i3/\BN.pre i3/\(ifB ((!(decide (i3=1)))) (∃i4:Nat×Nat,let Z5:=cS (L (i4.1.gcd i4.2));[DA.one Z8,DA.one (cS (L i2.2))]=DK.args i4/\DK.pre i4/\(∃i5:Nat,[DA.one Z5]=BN.args i5/\BN.pre i5/\(ifB ((!(decide (i5=1)))) (∃i6:Nat×Nat,[DA.one Z8,DA.one Z5]=Bp.args i6/\Bp.pre i6/\(∃i7:Nat×Nat,[DA.one (cS (L i2.2)),DA.one Z5]=Bp.args i7/\Bp.pre i7/\(ifB ((!(decide ((nI ((L (i6.1/i6.2)).length))>(24:Int))))) (ifB ((decide ((nI ((L (i7.1/i7.2)).length))>(24:Int)))) Z6 (∃i8:Bool×Nat×Int,[DA.one (cB neg),DA.one (cS (L (i6.1/i6.2)))]=AK.args i8/\AK.pre i8/\((([]:List Z9).length+(L (i7.1/i7.2)).length<=2199023255552)/\((vB (decide (i8.2.2<0))=vB Z7)/\(L i8.2.2.natAbs=L Z1.z.natAbs)/\((([]:List Z9)++L (i7.1/i7.2))=L Z1.d))))) Z6))) (ifB Z2 (ifB Z3 Z6 (∃i9:Bool×Nat×Int,[DA.one (cB neg),DA.one Z8]=AK.args i9/\AK.pre i9/\((([]:List Z9).length+(L i2.2).length<=2199023255552)/\((vB (decide (i9.2.2<0))=vB Z7)/\(L i9.2.2.natAbs=L Z1.z.natAbs)/\Z4)))) Z6)))) (ifB Z2 (ifB Z3 Z6 (∃a1:Bool×Nat×Int,[DA.one (cB neg),DA.one Z8]=AK.args a1/\AK.pre a1/\((([]:List Z9).length+(L i2.2).length<=2199023255552)/\((vB (decide (a1.2.2<0))=vB Z7)/\(L a1.2.2.natAbs=L Z1.z.natAbs)/\Z4)))) Z6)))))) (by kernel_rfl) ?_;conv=>zeta
 delta ifB vB nI
 refine⟨(dig m,m),by
  rfl,by
  exact⟨by show nl _<=_;omega,Mj _,Fz _⟩,?_⟩
 refine⟨(dig d,d),by
  rfl,by
  exact⟨by show nl _<=_;omega,Mj _,Fz _⟩,?_⟩
 refine⟨λc7=>?_,λc7=>?_⟩;simp only[nrm]at c7;have hE:E9 z d=Fr.none:=TA (Hn (by omega));refine Ax ?_;rw[hE];simp only[nrm]at c7;have hd:d≠0:=λe=>by subst e;rw[AJ,CP]at c7;omega
 have hg:=Ui (a:=m) hd
 refine⟨d,by
  rfl,by
  trivial,?_⟩
 refine And.symm ⟨λa2=>?_,λa2=>?_⟩;simp only[nrm]at a2;have e1:m.gcd d=1:=by rw[a2];exact Nat.gcd_one_right _
 have eM:m/m.gcd d=m:=by rw[e1,Nat.div_one]
 have eD:d/m.gcd d=d:=by rw[e1,Nat.div_one]
 have lm:=AJ m;have ld:=AJ d;refine And.symm ⟨λa4=>?_,λa4=>?_⟩;simp only[nrm]at a4;refine Ax ?_;rw[Eo a0.2.2 hd eM eD (by omega)];simp only[nrm]at a4;refine⟨λa5=>?_,λa5=>?_⟩;simp only[nrm]at a5;refine Ax ?_;rw[Eo a0.2.2 hd eM eD (by omega)];simp only[nrm]at a5
 refine⟨(neg,m,(zOf neg m)),by
  rfl,by
  show nl m<=60/\zOf neg m=(zOf neg m);exact⟨by omega,by omega⟩,?_⟩
 refine ao (by simp only[List.length_nil];omega) λo66=>?_;refine⟨?_,?_,?_⟩;rw[(EZ a0.2.2 hd eM eD (by omega) (by omega)).1];rw[(EZ a0.2.2 hd eM eD (by omega) (by omega)).1];rw[(EZ a0.2.2 hd eM eD (by omega) (by omega)).2];exact List.nil_append _;simp only[nrm]at a2
 refine⟨(m,d),by
  rfl,by
  show nl m<=131072/\nl d<=131072;exact⟨by omega,by omega⟩,?_⟩
 refine⟨(m.gcd d),by
  rfl,by
  trivial,?_⟩
 refine And.symm ⟨λa3=>?_,λa3=>?_⟩;simp only[nrm]at a3;have e1:m.gcd d=1:=a3;have eM:m/m.gcd d=m:=by rw[e1,Nat.div_one]
 have eD:d/m.gcd d=d:=by rw[e1,Nat.div_one]
 have lm:=AJ m;have ld:=AJ d;refine And.symm ⟨λa6=>?_,λa6=>?_⟩;simp only[nrm]at a6;refine Ax ?_;rw[Eo a0.2.2 hd eM eD (by omega)];simp only[nrm]at a6;refine⟨λa7=>?_,λa7=>?_⟩;simp only[nrm]at a7;refine Ax ?_;rw[Eo a0.2.2 hd eM eD (by omega)];simp only[nrm]at a7
 refine⟨(neg,m,(zOf neg m)),by
  rfl,by
  show nl m<=60/\zOf neg m=(zOf neg m);exact⟨by omega,by omega⟩,?_⟩
 refine ao (by simp only[List.length_nil];omega) λo51=>?_;refine⟨?_,?_,?_⟩;rw[(EZ a0.2.2 hd eM eD (by omega) (by omega)).1];rw[(EZ a0.2.2 hd eM eD (by omega) (by omega)).1];rw[(EZ a0.2.2 hd eM eD (by omega) (by omega)).2];exact List.nil_append _;simp only[nrm]at a3;have eM:m/m.gcd d=m/m.gcd d:=rfl;have eD:d/m.gcd d=d/m.gcd d:=rfl;have lm:=AJ (m/m.gcd d);have ld:=AJ (d/m.gcd d)
 refine⟨(m,(m.gcd d)),by
  rfl,by
  show(m.gcd d)≠0/\nl m<=131072/\nl (m.gcd d)<=131072;exact⟨by omega,by omega⟩,?_⟩
 refine⟨(d,(m.gcd d)),by
  rfl,by
  show(m.gcd d)≠0/\nl d<=131072/\nl (m.gcd d)<=131072;exact⟨by omega,by omega⟩,?_⟩
 refine And.symm ⟨λa8=>?_,λa8=>?_⟩;simp only[nrm]at a8;refine Ax ?_;rw[Eo a0.2.2 hd eM eD (by omega)];simp only[nrm]at a8;refine⟨λa9=>?_,λa9=>?_⟩;simp only[nrm]at a9;refine Ax ?_;rw[Eo a0.2.2 hd eM eD (by omega)];simp only[nrm]at a9
 refine⟨(neg,(m/(m.gcd d)),(zOf neg (m/(m.gcd d)))),by
  rfl,by
  show nl (m/(m.gcd d))<=60/\zOf neg (m/(m.gcd d))=(zOf neg (m/(m.gcd d)));exact⟨by omega,by omega⟩,?_⟩
 refine ao (by simp only[List.length_nil];omega) λo36=>?_;refine⟨?_,?_,?_⟩;rw[(EZ a0.2.2 hd eM eD (by omega) (by omega)).1];rw[(EZ a0.2.2 hd eM eD (by omega) (by omega)).1];rw[(EZ a0.2.2 hd eM eD (by omega) (by omega)).2];exact List.nil_append _
def AD:Con:={ι:=Bool×(List (List Dat))×(List (List Dat))×Bool,pre:=λi=>Dat.has (.sl 3 [.int]) (.sl i.2.1)/\Dat.has (.sl 3 [.int]) (.sl i.2.2.1)/\i.2.1.length<=9223372036854775807/\i.2.2.1.length<=9223372036854775807/\GX i.1 i.2.1 i.2.2.1=i.2.2.2,args:=λi=>[DA.agg [cB i.1,cS i.2.1,cS i.2.2.1]],res:=λi=>⟨false,[none],[rcB i.2.2.2]⟩}
theorem DW:AD.Ok Tryz.prog 97:=by
 refine fok (X:=⟨tt,[(130,BV),(131,B7),(133,DK),(132,BN)],[],39,[]⟩) mixed AG (CTok.cons Jb (CTok.cons KQ (CTok.cons OY (CTok.cons KR (CTok.nil _))))) Tryz.func97 (λ_=>[]) ?_;rintro⟨neg,m,d,b⟩ a0;have a0:Dat.has (.sl 3 [.int]) (.sl m)/\Dat.has (.sl 3 [.int]) (.sl d)/\m.length<=9223372036854775807/\d.length<=9223372036854775807/\GX neg m d=b:=a0;refine AH (q:=let Z1:=(vB false=vB b);∃i1:Bool×(List (List Dat)),[DA.agg [cB neg,cS m]]=BV.args i1/\BV.pre i1/\(ifB ((!(!(Bg i1.1 i1.2)))) (∃i2:(List (List Dat)),[DA.one (cS d)]=B7.args i2/\B7.pre i2/\(ifB ((!(!(BG i2)))) (ifB ((!((nI d.length) == (0:Int)))) (ifB ((!(decide ((nI d.length)>(24:Int))))) (ifB ((decide ((nI m.length)>(24:Int)))) Z1 (∃i3:Nat×Nat,[DA.one (cS m),DA.one (cS d)]=DK.args i3/\DK.pre i3/\(∃i4:Nat,[DA.one (cS (L (i3.1.gcd i3.2)))]=BN.args i4/\BN.pre i4/\((vB (decide (i4=1))=vB b))))) Z1) Z1) Z1)) Z1)) (by kernel_rfl) ?_;conv=>zeta
 delta ifB vB nI
 refine⟨(neg,m),by
  rfl,by
  show m.length<=9223372036854775807;omega,?_⟩
 refine And.symm ⟨λc4=>?_,λc4=>?_⟩;simp only[nrm]at c4;have hE:false=b:=by rw[← a0.2.2.2.2];exact(GA (.inl c4)).symm
 rw[hE];simp only[nrm]at c4
 refine⟨d,by
  rfl,by
  show d.length<=9223372036854775807;omega,?_⟩
 refine And.symm ⟨λc8=>?_,λc8=>?_⟩;simp only[nrm]at c8;have hE:false=b:=by rw[← a0.2.2.2.2];exact(GA (.inr (.inl c8))).symm
 rw[hE];simp only[nrm]at c8;refine And.symm ⟨λc9=>?_,λc9=>?_⟩;simp only[nrm]at c9;have hE:false=b:=by rw[← a0.2.2.2.2];exact(GA (.inr (.inr (.inl (by omega))))).symm
 rw[hE];simp only[nrm]at c9;refine And.symm ⟨λa1=>?_,λa1=>?_⟩;simp only[nrm]at a1;have hE:false=b:=by rw[← a0.2.2.2.2];exact(GA (.inr (.inr (.inr (.inr (by omega)))))).symm
 rw[hE];simp only[nrm]at a1;refine⟨λa2=>?_,λa2=>?_⟩;simp only[nrm]at a2;have hE:false=b:=by rw[← a0.2.2.2.2];exact(GA (.inr (.inr (.inr (.inl (by omega)))))).symm
 rw[hE];simp only[nrm]at a2;obtain⟨x,ea,na⟩:=Mp a0.1 (Sz c4);obtain⟨y,eb,nb⟩:=Mp a0.2.1 c8;have hR:=S7 c4 c8 (by omega) (by omega) (by omega)
 refine⟨(x,y),by
  rw[ea,eb];rfl,by
  show nl x<=131072/\nl y<=131072;exact⟨by omega,by omega⟩,?_⟩
 refine⟨(x.gcd y),by
  rfl,by
  trivial,?_⟩
 rw[← a0.2.2.2.2,hR,ea,eb,PY,PY]
def AE:Con:={ι:=Int,pre:=λi=>-9223372036854775808<=i/\i<=9223372036854775807,args:=λi=>[.one (cI i)],res:=λi=>⟨false,[some 3],[rcB (decide ((Fr.ofInt i).z<0)),.own 3 [.int] (L (Fr.ofInt i).z.natAbs),.own 3 [.int] (L (Fr.ofInt i).d)]⟩}
theorem Bq:AE.Ok Tryz.prog 51:=by
 refine fok (X:=⟨tt,[(88,BW)],[],7,[]⟩) mixed AG (CTok.cons Jc (CTok.nil _)) Tryz.func51 (λ_=>[]) ?_;intro (n:Int) a0;have a0:-9223372036854775808<=n/\n<=9223372036854775807:=a0;refine AH (q:=∃i1:Int,[DA.one (cI n)]=BW.args i1/\BW.pre i1/\((vB (decide (i1<0))=vB (decide ((Fr.ofInt n).z<0)))/\(L i1.natAbs=L (Fr.ofInt n).z.natAbs)/\(([[Dat.int (1:Int)]]:List (List Dat))=L (Fr.ofInt n).d))) (by kernel_rfl) ?_;delta vB
 refine⟨n,by
  rfl,by
  exact a0,?_⟩
 refine⟨?_,?_,?_⟩;rw[(E7 (Cd a0)).1];rw[(E7 (Cd a0)).1];rw[(E7 (Cd a0)).2];exact AAK
def Gj:Con:={ι:=Fr,pre:=λi=>True,args:=λi=>[dF i],res:=λi=>⟨false,[some 3],[rcB (decide (i.opp.z<0)),.own 3 [.int] (L i.opp.z.natAbs),.own 3 [.int] (L i.opp.d)]⟩}
theorem WB:Gj.Ok Tryz.prog 128:=by
 refine fok (X:=⟨tt,[(122,AK)],[],16,[]⟩) mixed AG (CTok.cons D5 (CTok.nil _)) Tryz.func128 (λ_=>[]) ?_;intro (r:Fr) a0;have a0:True:=a0;refine AH (q:=∃i1:Bool×Nat×Int,[DA.one (cB (!(decide (r.z<0)))),DA.one (cS (L r.z.natAbs))]=AK.args i1/\AK.pre i1/\((([]:List (List Dat)).length+(L r.d).length<=2199023255552)/\((vB (decide (i1.2.2<0))=vB (decide (r.opp.z<0)))/\(L i1.2.2.natAbs=L r.opp.z.natAbs)/\((([]:List (List Dat))++(L r.d))=L r.opp.d)))) (by kernel_rfl) ?_;delta vB;have h1:=r.nlz;have h2:=r.nld;have lr:=AJ r.d;have lz:=AJ r.z.natAbs
 refine⟨(!(decide (r.z<0)),r.z.natAbs,-r.z),by
  rfl,by
  show nl r.z.natAbs<=60/\zOf (!(decide (r.z<0))) r.z.natAbs=(-r.z);exact⟨by omega,PX _⟩,?_⟩
 refine ao (by simp only[List.length_nil];omega) λo4=>?_;refine⟨?_,?_,?_⟩;rw[Fr.opp_z];rw[Fr.opp_z];rw[Fr.opp_d];exact List.nil_append _
def AL:Con:={ι:=Bool×(List (List Dat))×(List (List Dat)),pre:=λi=>i.2.1.length<=1073741824/\i.2.2.length<=1073741824,args:=λi=>[DA.agg [cB i.1,cS i.2.1,cS i.2.2]],res:=λi=>⟨false,[some 3],[rcB i.1,.own 3 [.int] i.2.1,.own 3 [.int] i.2.2]⟩}
theorem FA:AL.Ok Tryz.prog 76:=by refine fok (X:=⟨tt,[],[],17,[]⟩) mixed AG (CTok.nil _) Tryz.func76 (λ_=>[]) ?_;rintro⟨neg,m,d⟩ a0;have a0:m.length<=1073741824/\d.length<=1073741824:=a0;refine AH (q:=(([]:List (List Dat)).length+m.length<=2199023255552)/\((([]:List (List Dat)).length+d.length<=2199023255552)/\((vB neg=vB neg)/\((([]:List (List Dat))++m)=m)/\((([]:List (List Dat))++d)=d)))) (by kernel_rfl) ?_;delta vB;refine ao (by simp only[List.length_nil];omega) λo1=>?_;refine ao (by simp only[List.length_nil];omega) λo2=>?_;refine⟨rfl,?_,?_⟩;rfl;rfl
def DL:Con:={ι:=Fr×Fr,pre:=λi=>i.1.d≠0/\i.2.d≠0,args:=λi=>[dF i.1,dF i.2],res:=λi=>⟨false,[some 3],[rcB (decide ((Fr.add i.1 i.2).z<0)),.own 3 [.int] (L (Fr.add i.1 i.2).z.natAbs),.own 3 [.int] (L (Fr.add i.1 i.2).d)]⟩}
set_option maxHeartbeats 4000000 in
theorem OZ:DL.Ok Tryz.prog 127:=by
 refine fok (X:=⟨tt,[(132,BN),(159,Cm),(125,Au),(126,AQ),(122,AK)],[],61,[]⟩) mixed AG (CTok.cons KR (CTok.cons V9 (CTok.cons IP (CTok.cons El (CTok.cons D5 (CTok.nil _)))))) Tryz.func127 (λ_=>[]) ?_;rintro⟨r,s⟩ a0;have a0:r.d≠0/\s.d≠0:=a0;refine AH (q:=let Z2:=cS (L s.d);let Z1:=cS (L r.d);∃i1:Nat,[DA.one Z1]=BN.args i1/\BN.pre i1/\(ifB ((decide (i1=1))) (∃i2:Nat,[DA.one Z2]=BN.args i2/\BN.pre i2/\(ifB ((decide (i2=1))) (∃i3:Int×Int,[dB r.z,dB s.z]=Cm.args i3/\Cm.pre i3/\(∃i4:Bool×Nat×Nat×Int,[DA.one (cB (decide ((i3.1+i3.2)<0))),DA.one (cS (L (i3.1+i3.2).natAbs)),DA.one (cS ([[Dat.int (1:Int)]]:List (List Dat)))]=Au.args i4/\Au.pre i4/\((eqC (E9 i4.2.2.2 i4.2.2.1) (Fr.add r s))))) (∃i5:Nat×Nat,[DA.one (cS (L r.z.natAbs)),DA.one Z2]=AQ.args i5/\AQ.pre i5/\(∃i6:Bool×Nat×Int,[DA.one (cB (decide (r.z<0))),DA.one (cS (L (i5.1*i5.2)))]=AK.args i6/\AK.pre i6/\(∃i7:Nat×Nat,[DA.one (cS (L s.z.natAbs)),DA.one Z1]=AQ.args i7/\AQ.pre i7/\(∃i8:Bool×Nat×Int,[DA.one (cB (decide (s.z<0))),DA.one (cS (L (i7.1*i7.2)))]=AK.args i8/\AK.pre i8/\(∃i9:Int×Int,[dB i6.2.2,dB i8.2.2]=Cm.args i9/\Cm.pre i9/\(∃a2:Nat×Nat,[DA.one Z1,DA.one Z2]=AQ.args a2/\AQ.pre a2/\(∃a3:Bool×Nat×Nat×Int,[DA.one (cB (decide ((i9.1+i9.2)<0))),DA.one (cS (L (i9.1+i9.2).natAbs)),DA.one (cS (L (a2.1*a2.2)))]=Au.args a3/\Au.pre a3/\((eqC (E9 a3.2.2.2 a3.2.2.1) (Fr.add r s)))))))))))) (∃a4:Nat×Nat,[DA.one (cS (L r.z.natAbs)),DA.one Z2]=AQ.args a4/\AQ.pre a4/\(∃a8:Bool×Nat×Int,[DA.one (cB (decide (r.z<0))),DA.one (cS (L (a4.1*a4.2)))]=AK.args a8/\AK.pre a8/\(∃a5:Nat×Nat,[DA.one (cS (L s.z.natAbs)),DA.one Z1]=AQ.args a5/\AQ.pre a5/\(∃a9:Bool×Nat×Int,[DA.one (cB (decide (s.z<0))),DA.one (cS (L (a5.1*a5.2)))]=AK.args a9/\AK.pre a9/\(∃a1:Int×Int,[dB a8.2.2,dB a9.2.2]=Cm.args a1/\Cm.pre a1/\(∃a6:Nat×Nat,[DA.one Z1,DA.one Z2]=AQ.args a6/\AQ.pre a6/\(∃a7:Bool×Nat×Nat×Int,[DA.one (cB (decide ((a1.1+a1.2)<0))),DA.one (cS (L (a1.1+a1.2).natAbs)),DA.one (cS (L (a6.1*a6.2)))]=Au.args a7/\Au.pre a7/\((eqC (E9 a7.2.2.2 a7.2.2.1) (Fr.add r s)))))))))))) (by kernel_rfl) ?_;conv=>zeta
 delta ifB;have h1:=r.nlz;have h2:=r.nld;have lr:=AJ r.d;have lz:=AJ r.z.natAbs;have h3:=s.nlz;have h4:=s.nld;have ls:=AJ s.d;have lw:=AJ s.z.natAbs;have m0:=As r.z.natAbs s.d;have m00:=As s.z.natAbs r.d;have m1:=BQ r.z ((s.d:Nat):Int);have m2:=BQ s.z ((r.d:Nat):Int);rw[Dn]at m1 m2;have m3:=E5 (r.z*((s.d:Nat):Int)) (s.z*((r.d:Nat):Int));have m4:=As r.d s.d;have m6:=As r.d s.z.natAbs
 refine⟨r.d,by
  rfl,by
  trivial,?_⟩
 refine And.symm ⟨λc4=>?_,λc4=>?_⟩;simp only[nrm]at c4;have hE:=Uj a0.1 a0.2
 refine⟨(r.z.natAbs,s.d),by
  rfl,by
  show nl r.z.natAbs<=524288/\nl s.d<=524288;exact⟨by omega,by omega⟩,?_⟩
 refine⟨(decide (r.z<0),r.z.natAbs*s.d,r.z*((s.d:Nat):Int)),by
  rfl,by
  show nl (r.z.natAbs*s.d)<=60/\zOf (decide (r.z<0)) (r.z.natAbs*s.d)=(r.z*((s.d:Nat):Int));exact⟨by omega,Em _ _⟩,?_⟩
 refine⟨(s.z.natAbs,r.d),by
  rfl,by
  show nl s.z.natAbs<=524288/\nl r.d<=524288;exact⟨by omega,by omega⟩,?_⟩
 refine⟨(decide (s.z<0),s.z.natAbs*r.d,s.z*((r.d:Nat):Int)),by
  rfl,by
  show nl (s.z.natAbs*r.d)<=60/\zOf (decide (s.z<0)) (s.z.natAbs*r.d)=(s.z*((r.d:Nat):Int));exact⟨by omega,Em _ _⟩,?_⟩
 refine⟨((r.z*((s.d:Nat):Int)),(s.z*((r.d:Nat):Int))),by
  rfl,by
  show nl (r.z*((s.d:Nat):Int)).natAbs<=59/\nl (s.z*((r.d:Nat):Int)).natAbs<=59;exact⟨by omega,by omega⟩,?_⟩
 refine⟨(r.d,s.d),by
  rfl,by
  show nl r.d<=524288/\nl s.d<=524288;exact⟨by omega,by omega⟩,?_⟩
 refine⟨(decide (r.z*((s.d:Nat):Int)+s.z*((r.d:Nat):Int)<0),(r.z*((s.d:Nat):Int)+s.z*((r.d:Nat):Int)).natAbs,r.d*s.d,r.z*((s.d:Nat):Int)+s.z*((r.d:Nat):Int)),by
  rfl,by
  try dsimp only[Au]
  exact⟨by omega,by omega,F9 _⟩,?_⟩
 refine Bo ?_;rw[hE];simp only[nrm]at c4
 refine⟨s.d,by
  rfl,by
  trivial,?_⟩
 refine⟨λc8=>?_,λc8=>?_⟩;simp only[nrm]at c8;have hE:=X6 c4 c8
 refine⟨(r.z,s.z),by
  rfl,by
  show nl r.z.natAbs<=59/\nl s.z.natAbs<=59;exact⟨by omega,by omega⟩,?_⟩
 refine⟨(decide (r.z+s.z<0),(r.z+s.z).natAbs,1,r.z+s.z),by
  rw[AAK];rfl,by
  show nl ((r.z+s.z).natAbs)<=1000/\nl 1<=1000/\zOf (decide (r.z+s.z<0)) ((r.z+s.z).natAbs)=(r.z+s.z);have:=E5 r.z s.z;exact⟨by omega,by rw[PZ];decide,F9 _⟩,?_⟩
 refine Bo ?_;rw[hE];simp only[nrm]at c8;have hE:=Uj a0.1 a0.2
 refine⟨(r.z.natAbs,s.d),by
  rfl,by
  show nl r.z.natAbs<=524288/\nl s.d<=524288;exact⟨by omega,by omega⟩,?_⟩
 refine⟨(decide (r.z<0),r.z.natAbs*s.d,r.z*((s.d:Nat):Int)),by
  rfl,by
  show nl (r.z.natAbs*s.d)<=60/\zOf (decide (r.z<0)) (r.z.natAbs*s.d)=(r.z*((s.d:Nat):Int));exact⟨by omega,Em _ _⟩,?_⟩
 refine⟨(s.z.natAbs,r.d),by
  rfl,by
  show nl s.z.natAbs<=524288/\nl r.d<=524288;exact⟨by omega,by omega⟩,?_⟩
 refine⟨(decide (s.z<0),s.z.natAbs*r.d,s.z*((r.d:Nat):Int)),by
  rfl,by
  show nl (s.z.natAbs*r.d)<=60/\zOf (decide (s.z<0)) (s.z.natAbs*r.d)=(s.z*((r.d:Nat):Int));exact⟨by omega,Em _ _⟩,?_⟩
 refine⟨((r.z*((s.d:Nat):Int)),(s.z*((r.d:Nat):Int))),by
  rfl,by
  show nl (r.z*((s.d:Nat):Int)).natAbs<=59/\nl (s.z*((r.d:Nat):Int)).natAbs<=59;exact⟨by omega,by omega⟩,?_⟩
 refine⟨(r.d,s.d),by
  rfl,by
  show nl r.d<=524288/\nl s.d<=524288;exact⟨by omega,by omega⟩,?_⟩
 refine⟨(decide (r.z*((s.d:Nat):Int)+s.z*((r.d:Nat):Int)<0),(r.z*((s.d:Nat):Int)+s.z*((r.d:Nat):Int)).natAbs,r.d*s.d,r.z*((s.d:Nat):Int)+s.z*((r.d:Nat):Int)),by
  rfl,by
  try dsimp only[Au]
  exact⟨by omega,by omega,F9 _⟩,?_⟩
 refine Bo ?_;rw[hE]
def Gk:Con:={ι:=Fr×Fr,pre:=λi=>i.1.d≠0/\i.2.d≠0,args:=λi=>[dF i.1,dF i.2],res:=λi=>⟨false,[some 3],[rcB (decide ((Fr.mul i.1 i.2).z<0)),.own 3 [.int] (L (Fr.mul i.1 i.2).z.natAbs),.own 3 [.int] (L (Fr.mul i.1 i.2).d)]⟩}
set_option maxHeartbeats 4000000 in
theorem WC:Gk.Ok Tryz.prog 160:=by
 refine fok (X:=⟨tt,[(126,AQ),(125,Au)],[],25,[]⟩) mixed AG (CTok.cons El (CTok.cons IP (CTok.nil _))) Tryz.func160 (λ_=>[]) ?_;rintro⟨r,s⟩ a0;have a0:r.d≠0/\s.d≠0:=a0;refine AH (q:=∃i1:Nat×Nat,[DA.one (cS (L r.z.natAbs)),DA.one (cS (L s.z.natAbs))]=AQ.args i1/\AQ.pre i1/\(∃i2:Nat×Nat,[DA.one (cS (L r.d)),DA.one (cS (L s.d))]=AQ.args i2/\AQ.pre i2/\(∃i3:Bool×Nat×Nat×Int,[DA.one (cB ((decide (r.z<0)) != (decide (s.z<0)))),DA.one (cS (L (i1.1*i1.2))),DA.one (cS (L (i2.1*i2.2)))]=Au.args i3/\Au.pre i3/\((eqC (E9 i3.2.2.2 i3.2.2.1) (Fr.mul r s)))))) (by kernel_rfl) ?_;have h1:=r.nlz;have h2:=r.nld;have lr:=AJ r.d;have lz:=AJ r.z.natAbs;have h3:=s.nlz;have h4:=s.nld;have ls:=AJ s.d;have lw:=AJ s.z.natAbs;have m4:=As r.d s.d;have m5:=As r.z.natAbs s.z.natAbs;have hE:=ZM a0.1 a0.2
 refine⟨(r.z.natAbs,s.z.natAbs),by
  rfl,by
  show nl r.z.natAbs<=524288/\nl s.z.natAbs<=524288;exact⟨by omega,by omega⟩,?_⟩
 refine⟨(r.d,s.d),by
  rfl,by
  show nl r.d<=524288/\nl s.d<=524288;exact⟨by omega,by omega⟩,?_⟩
 refine⟨((decide (r.z<0)) != (decide (s.z<0)),r.z.natAbs*s.z.natAbs,r.d*s.d,r.z*s.z),by
  rfl,by
  show nl (r.z.natAbs*s.z.natAbs)<=1000/\nl (r.d*s.d)<=1000/\zOf ((decide (r.z<0)) != (decide (s.z<0))) (r.z.natAbs*s.z.natAbs)=(r.z*s.z);exact⟨by omega,by omega,Lj _ _⟩,?_⟩
 refine Bo ?_;rw[hE]
def B9:Con:={ι:=Fr×Fr,pre:=λi=>i.1.d≠0/\i.2.d≠0,args:=λi=>[dF i.1,dF i.2],res:=λi=>⟨false,[none],[rcI (Fr.cmp i.1 i.2)]⟩}
theorem KS:B9.Ok Tryz.prog 98:=by
 refine fok (X:=⟨tt,[(126,AQ),(122,AK),(134,Gi)],[],26,[]⟩) mixed AG (CTok.cons El (CTok.cons D5 (CTok.cons WA (CTok.nil _)))) Tryz.func98 (λ_=>[]) ?_;rintro⟨r,s⟩ a0;have a0:r.d≠0/\s.d≠0:=a0;refine AH (q:=∃i1:Nat×Nat,[DA.one (cS (L r.z.natAbs)),DA.one (cS (L s.d))]=AQ.args i1/\AQ.pre i1/\(∃i2:Bool×Nat×Int,[DA.one (cB (decide (r.z<0))),DA.one (cS (L (i1.1*i1.2)))]=AK.args i2/\AK.pre i2/\(∃i3:Nat×Nat,[DA.one (cS (L s.z.natAbs)),DA.one (cS (L r.d))]=AQ.args i3/\AQ.pre i3/\(∃i4:Bool×Nat×Int,[DA.one (cB (decide (s.z<0))),DA.one (cS (L (i3.1*i3.2)))]=AK.args i4/\AK.pre i4/\(∃i5:Int×Int,[dB i2.2.2,dB i4.2.2]=Gi.args i5/\Gi.pre i5/\((vI (DG i5.1 i5.2)=vI (Fr.cmp r s)))))))) (by kernel_rfl) ?_;delta vI;have h1:=r.nlz;have h2:=r.nld;have lr:=AJ r.d;have lz:=AJ r.z.natAbs;have h3:=s.nlz;have h4:=s.nld;have ls:=AJ s.d;have lw:=AJ s.z.natAbs;have m0:=As r.z.natAbs s.d;have m00:=As s.z.natAbs r.d;have m1:=BQ r.z ((s.d:Nat):Int);have m2:=BQ s.z ((r.d:Nat):Int);rw[Dn]at m1 m2;have m3:=E5 (r.z*((s.d:Nat):Int)) (s.z*((r.d:Nat):Int));have m4:=As r.d s.d;have m6:=As r.d s.z.natAbs
 refine⟨(r.z.natAbs,s.d),by
  rfl,by
  show nl r.z.natAbs<=524288/\nl s.d<=524288;exact⟨by omega,by omega⟩,?_⟩
 refine⟨(decide (r.z<0),r.z.natAbs*s.d,r.z*((s.d:Nat):Int)),by
  rfl,by
  show nl (r.z.natAbs*s.d)<=60/\zOf (decide (r.z<0)) (r.z.natAbs*s.d)=(r.z*((s.d:Nat):Int));exact⟨by omega,Em _ _⟩,?_⟩
 refine⟨(s.z.natAbs,r.d),by
  rfl,by
  show nl s.z.natAbs<=524288/\nl r.d<=524288;exact⟨by omega,by omega⟩,?_⟩
 refine⟨(decide (s.z<0),s.z.natAbs*r.d,s.z*((r.d:Nat):Int)),by
  rfl,by
  show nl (s.z.natAbs*r.d)<=60/\zOf (decide (s.z<0)) (s.z.natAbs*r.d)=(s.z*((r.d:Nat):Int));exact⟨by omega,Em _ _⟩,?_⟩
 refine⟨((r.z*((s.d:Nat):Int)),(s.z*((r.d:Nat):Int))),by
  rfl,by
  show nl (r.z*((s.d:Nat):Int)).natAbs<=59/\nl (s.z*((r.d:Nat):Int)).natAbs<=59;exact⟨by omega,by omega⟩,?_⟩
 rw[Fr.cmp_zd a0.1 a0.2]
def Cn:Con:={ι:=Fr×Fr,pre:=λi=>True,args:=λi=>[dF i.1,dF i.2],res:=λi=>⟨false,[some 3],[rcB (decide ((Fr.add i.1 i.2).z<0)),.own 3 [.int] (L (Fr.add i.1 i.2).z.natAbs),.own 3 [.int] (L (Fr.add i.1 i.2).d)]⟩}
theorem M6:Cn.Ok Tryz.prog 96:=by
 refine fok (X:=⟨tt,[(97,AD),(127,DL)],[],17,[]⟩) mixed AG (CTok.cons DW (CTok.cons OZ (CTok.nil _))) Tryz.func96 (λ_=>[]) ?_;rintro⟨r,s⟩ a0;have a0:True:=a0;refine AH (q:=let Z1:=List (List Dat);∃i1:Bool×Z1×Z1×Bool,[dF r]=AD.args i1/\AD.pre i1/\(ifB ((!(!i1.2.2.2))) (∃i2:Bool×Z1×Z1×Bool,[dF s]=AD.args i2/\AD.pre i2/\(ifB ((!i2.2.2.2)) ((eqN (Fr.add r s))) (∃i3:Fr×Fr,[dF r,dF s]=DL.args i3/\DL.pre i3/\((eqC (Fr.add i3.1 i3.2) (Fr.add r s)))))) ((eqN (Fr.add r s))))) (by kernel_rfl) ?_;conv=>zeta
 delta ifB;have h1:=r.nlz;have h2:=r.nld;have lr:=AJ r.d;have lz:=AJ r.z.natAbs;have h3:=s.nlz;have h4:=s.nld;have ls:=AJ s.d;have lw:=AJ s.z.natAbs
 refine⟨(decide (r.z<0),(L r.z.natAbs),(L r.d),r.good),by
  rfl,by
  try dsimp only[AD]
  exact⟨BP _ (by omega),BP _ (by omega),by omega,by omega,BO _⟩,?_⟩
 refine And.symm ⟨λc4=>?_,λc4=>?_⟩;simp only[nrm]at c4;have hE:Fr.add r s=Fr.none:=Fr.bin_bad _ (.inl (CL c4));refine Ax ?_;rw[hE];simp only[nrm]at c4
 refine⟨(decide (s.z<0),(L s.z.natAbs),(L s.d),s.good),by
  rfl,by
  try dsimp only[AD]
  exact⟨BP _ (by omega),BP _ (by omega),by omega,by omega,BO _⟩,?_⟩
 refine⟨λc8=>?_,λc8=>?_⟩;simp only[nrm]at c8;have hE:Fr.add r s=Fr.none:=Fr.bin_bad _ (.inr (CL c8));refine Ax ?_;rw[hE];simp only[nrm]at c8
 refine⟨(r,s),by
  rfl,by
  exact⟨Ar c4,Ar c8⟩,?_⟩
 exact Bo rfl
def Bx:Con:={ι:=Fr×Fr,pre:=λi=>True,args:=λi=>[dF i.1,dF i.2],res:=λi=>⟨false,[some 3],[rcB (decide ((Fr.sub i.1 i.2).z<0)),.own 3 [.int] (L (Fr.sub i.1 i.2).z.natAbs),.own 3 [.int] (L (Fr.sub i.1 i.2).d)]⟩}
theorem M7:Bx.Ok Tryz.prog 93:=by
 refine fok (X:=⟨tt,[(97,AD),(128,Gj),(127,DL)],[],18,[]⟩) mixed AG (CTok.cons DW (CTok.cons WB (CTok.cons OZ (CTok.nil _)))) Tryz.func93 (λ_=>[]) ?_;rintro⟨r,s⟩ a0;have a0:True:=a0;refine AH (q:=let Z1:=List (List Dat);∃i1:Bool×Z1×Z1×Bool,[dF r]=AD.args i1/\AD.pre i1/\(ifB ((!(!i1.2.2.2))) (∃i2:Bool×Z1×Z1×Bool,[dF s]=AD.args i2/\AD.pre i2/\(ifB ((!i2.2.2.2)) ((eqN (Fr.sub r s))) (∃i3:Fr,[dF s]=Gj.args i3/\Gj.pre i3/\(∃i4:Fr×Fr,[dF r,dF i3.opp]=DL.args i4/\DL.pre i4/\((eqC (Fr.add i4.1 i4.2) (Fr.sub r s))))))) ((eqN (Fr.sub r s))))) (by kernel_rfl) ?_;conv=>zeta
 delta ifB;have h1:=r.nlz;have h2:=r.nld;have lr:=AJ r.d;have lz:=AJ r.z.natAbs;have h3:=s.nlz;have h4:=s.nld;have ls:=AJ s.d;have lw:=AJ s.z.natAbs
 refine⟨(decide (r.z<0),(L r.z.natAbs),(L r.d),r.good),by
  rfl,by
  try dsimp only[AD]
  exact⟨BP _ (by omega),BP _ (by omega),by omega,by omega,BO _⟩,?_⟩
 refine And.symm ⟨λc4=>?_,λc4=>?_⟩;simp only[nrm]at c4;have hE:Fr.sub r s=Fr.none:=Fr.bin_bad _ (.inl (CL c4));refine Ax ?_;rw[hE];simp only[nrm]at c4
 refine⟨(decide (s.z<0),(L s.z.natAbs),(L s.d),s.good),by
  rfl,by
  try dsimp only[AD]
  exact⟨BP _ (by omega),BP _ (by omega),by omega,by omega,BO _⟩,?_⟩
 refine⟨λc8=>?_,λc8=>?_⟩;simp only[nrm]at c8;have hE:Fr.sub r s=Fr.none:=Fr.bin_bad _ (.inr (CL c8));refine Ax ?_;rw[hE];simp only[nrm]at c8;have hE:=X5 r s
 refine⟨s,by
  rfl,by
  trivial,?_⟩
 refine⟨(r,s.opp),by
  rfl,by
  exact⟨Ar c4,by rw[Fr.opp_d];exact Ar c8⟩,?_⟩
 refine Bo ?_;rw[hE]
def FR:Con:={ι:=Fr×Fr,pre:=λi=>True,args:=λi=>[dF i.1,dF i.2],res:=λi=>⟨false,[some 3],[rcB (decide ((Fr.mul i.1 i.2).z<0)),.own 3 [.int] (L (Fr.mul i.1 i.2).z.natAbs),.own 3 [.int] (L (Fr.mul i.1 i.2).d)]⟩}
theorem TC:FR.Ok Tryz.prog 129:=by
 refine fok (X:=⟨tt,[(97,AD),(160,Gk)],[],17,[]⟩) mixed AG (CTok.cons DW (CTok.cons WC (CTok.nil _))) Tryz.func129 (λ_=>[]) ?_;rintro⟨r,s⟩ a0;have a0:True:=a0;refine AH (q:=let Z1:=List (List Dat);∃i1:Bool×Z1×Z1×Bool,[dF r]=AD.args i1/\AD.pre i1/\(ifB ((!(!i1.2.2.2))) (∃i2:Bool×Z1×Z1×Bool,[dF s]=AD.args i2/\AD.pre i2/\(ifB ((!i2.2.2.2)) ((eqN (Fr.mul r s))) (∃i3:Fr×Fr,[dF r,dF s]=Gk.args i3/\Gk.pre i3/\((eqC (Fr.mul i3.1 i3.2) (Fr.mul r s)))))) ((eqN (Fr.mul r s))))) (by kernel_rfl) ?_;conv=>zeta
 delta ifB;have h1:=r.nlz;have h2:=r.nld;have lr:=AJ r.d;have lz:=AJ r.z.natAbs;have h3:=s.nlz;have h4:=s.nld;have ls:=AJ s.d;have lw:=AJ s.z.natAbs
 refine⟨(decide (r.z<0),(L r.z.natAbs),(L r.d),r.good),by
  rfl,by
  try dsimp only[AD]
  exact⟨BP _ (by omega),BP _ (by omega),by omega,by omega,BO _⟩,?_⟩
 refine And.symm ⟨λc4=>?_,λc4=>?_⟩;simp only[nrm]at c4;have hE:Fr.mul r s=Fr.none:=Fr.bin_bad _ (.inl (CL c4));refine Ax ?_;rw[hE];simp only[nrm]at c4
 refine⟨(decide (s.z<0),(L s.z.natAbs),(L s.d),s.good),by
  rfl,by
  try dsimp only[AD]
  exact⟨BP _ (by omega),BP _ (by omega),by omega,by omega,BO _⟩,?_⟩
 refine⟨λc8=>?_,λc8=>?_⟩;simp only[nrm]at c8;have hE:Fr.mul r s=Fr.none:=Fr.bin_bad _ (.inr (CL c8));refine Ax ?_;rw[hE];simp only[nrm]at c8
 refine⟨(r,s),by
  rfl,by
  exact⟨Ar c4,Ar c8⟩,?_⟩
 exact Bo rfl
def FS:Con:={ι:=Fr×Fr,pre:=λi=>True,args:=λi=>[dF i.1,dF i.2],res:=λi=>⟨false,[some 3],[rcB (decide ((Fr.div i.1 i.2).z<0)),.own 3 [.int] (L (Fr.div i.1 i.2).z.natAbs),.own 3 [.int] (L (Fr.div i.1 i.2).d)]⟩}
theorem TE:FS.Ok Tryz.prog 92:=by
 refine fok (X:=⟨tt,[(97,AD),(126,AQ),(125,Au)],[],34,[]⟩) mixed AG (CTok.cons DW (CTok.cons El (CTok.cons IP (CTok.nil _)))) Tryz.func92 (λ_=>[]) ?_;rintro⟨r,s⟩ a0;have a0:True:=a0;refine AH (q:=let Z1:=List (List Dat);∃i1:Bool×Z1×Z1×Bool,[dF r]=AD.args i1/\AD.pre i1/\(ifB ((!(!i1.2.2.2))) (∃i2:Bool×Z1×Z1×Bool,[dF s]=AD.args i2/\AD.pre i2/\(ifB ((!i2.2.2.2)) ((eqN (Fr.div r s))) (∃i3:Nat×Nat,[DA.one (cS (L r.z.natAbs)),DA.one (cS (L s.d))]=AQ.args i3/\AQ.pre i3/\(∃i4:Nat×Nat,[DA.one (cS (L r.d)),DA.one (cS (L s.z.natAbs))]=AQ.args i4/\AQ.pre i4/\(∃i5:Bool×Nat×Nat×Int,[DA.one (cB ((decide (r.z<0)) != (decide (s.z<0)))),DA.one (cS (L (i3.1*i3.2))),DA.one (cS (L (i4.1*i4.2)))]=Au.args i5/\Au.pre i5/\((eqC (E9 i5.2.2.2 i5.2.2.1) (Fr.div r s)))))))) ((eqN (Fr.div r s))))) (by kernel_rfl) ?_;conv=>zeta
 delta ifB;have h1:=r.nlz;have h2:=r.nld;have lr:=AJ r.d;have lz:=AJ r.z.natAbs;have h3:=s.nlz;have h4:=s.nld;have ls:=AJ s.d;have lw:=AJ s.z.natAbs
 refine⟨(decide (r.z<0),(L r.z.natAbs),(L r.d),r.good),by
  rfl,by
  try dsimp only[AD]
  exact⟨BP _ (by omega),BP _ (by omega),by omega,by omega,BO _⟩,?_⟩
 refine And.symm ⟨λc4=>?_,λc4=>?_⟩;simp only[nrm]at c4;have hE:Fr.div r s=Fr.none:=Fr.bin_bad _ (.inl (CL c4));refine Ax ?_;rw[hE];simp only[nrm]at c4
 refine⟨(decide (s.z<0),(L s.z.natAbs),(L s.d),s.good),by
  rfl,by
  try dsimp only[AD]
  exact⟨BP _ (by omega),BP _ (by omega),by omega,by omega,BO _⟩,?_⟩
 refine⟨λc8=>?_,λc8=>?_⟩;simp only[nrm]at c8;have hE:Fr.div r s=Fr.none:=Fr.bin_bad _ (.inr (CL c8));refine Ax ?_;rw[hE];simp only[nrm]at c8;have m0:=As r.z.natAbs s.d;have m00:=As s.z.natAbs r.d;have m1:=BQ r.z ((s.d:Nat):Int);have m2:=BQ s.z ((r.d:Nat):Int);rw[Dn]at m1 m2;have m3:=E5 (r.z*((s.d:Nat):Int)) (s.z*((r.d:Nat):Int));have m4:=As r.d s.d;have m6:=As r.d s.z.natAbs;have hE:=ZN (Ar c4) (Ar c8)
 refine⟨(r.z.natAbs,s.d),by
  rfl,by
  show nl r.z.natAbs<=524288/\nl s.d<=524288;exact⟨by omega,by omega⟩,?_⟩
 refine⟨(r.d,s.z.natAbs),by
  rfl,by
  show nl r.d<=524288/\nl s.z.natAbs<=524288;exact⟨by omega,by omega⟩,?_⟩
 refine⟨(((decide (r.z<0)) != (decide (s.z<0))),(r.z.natAbs*s.d),(r.d*s.z.natAbs),(zOf ((decide (r.z<0)) != (decide (s.z<0))) (r.z.natAbs*s.d))),by
  rfl,by
  try dsimp only[Au]
  exact⟨by omega,by omega,rfl⟩,?_⟩
 refine Bo ?_;rw[hE]
def AR:Con:={ι:=Fr×Fr,pre:=λi=>True,args:=λi=>[dF i.1,dF i.2],res:=λi=>⟨false,[none],[rcI (Fr.cmp i.1 i.2)]⟩}
theorem D6:AR.Ok Tryz.prog 55:=by
 refine fok (X:=⟨tt,[(97,AD),(98,B9)],[],16,[]⟩) mixed AG (CTok.cons DW (CTok.cons KS (CTok.nil _))) Tryz.func55 (λ_=>[]) ?_;rintro⟨r,s⟩ a0;have a0:True:=a0;refine AH (q:=let Z2:=(vI (0:Int)=vI (Fr.cmp r s));let Z1:=List (List Dat);∃i1:Bool×Z1×Z1×Bool,[dF r]=AD.args i1/\AD.pre i1/\(ifB ((!(!i1.2.2.2))) (∃i2:Bool×Z1×Z1×Bool,[dF s]=AD.args i2/\AD.pre i2/\(ifB ((!i2.2.2.2)) Z2 (∃i3:Fr×Fr,[dF r,dF s]=B9.args i3/\B9.pre i3/\((vI (Fr.cmp i3.1 i3.2)=vI (Fr.cmp r s)))))) Z2)) (by kernel_rfl) ?_;conv=>zeta
 delta ifB vI;have h1:=r.nlz;have h2:=r.nld;have lr:=AJ r.d;have lz:=AJ r.z.natAbs;have h3:=s.nlz;have h4:=s.nld;have ls:=AJ s.d;have lw:=AJ s.z.natAbs
 refine⟨(decide (r.z<0),(L r.z.natAbs),(L r.d),r.good),by
  rfl,by
  try dsimp only[AD]
  exact⟨BP _ (by omega),BP _ (by omega),by omega,by omega,BO _⟩,?_⟩
 refine And.symm ⟨λc4=>?_,λc4=>?_⟩;simp only[nrm]at c4;have hE:Fr.cmp r s=0:=Fr.cmp_bad (.inl (CL c4));rw[hE];simp only[nrm]at c4
 refine⟨(decide (s.z<0),(L s.z.natAbs),(L s.d),s.good),by
  rfl,by
  try dsimp only[AD]
  exact⟨BP _ (by omega),BP _ (by omega),by omega,by omega,BO _⟩,?_⟩
 refine⟨λc8=>?_,λc8=>?_⟩;simp only[nrm]at c8;have hE:Fr.cmp r s=0:=Fr.cmp_bad (.inr (CL c8));rw[hE];simp only[nrm]at c8
 refine⟨(r,s),by
  rfl,by
  exact⟨Ar c4,Ar c8⟩,?_⟩
 exact rfl
def FT:Con:={ι:=Fr×Fr,pre:=λi=>True,args:=λi=>[dF i.1,dF i.2],res:=λi=>⟨false,[some 3],[rcB (decide ((Fr.min i.1 i.2).z<0)),.own 3 [.int] (L (Fr.min i.1 i.2).z.natAbs),.own 3 [.int] (L (Fr.min i.1 i.2).d)]⟩}
theorem TF:FT.Ok Tryz.prog 75:=by
 refine fok (X:=⟨tt,[(97,AD),(98,B9),(76,AL)],[],22,[]⟩) mixed AG (CTok.cons DW (CTok.cons KS (CTok.cons FA (CTok.nil _)))) Tryz.func75 (λ_=>[]) ?_;rintro⟨r,s⟩ a0;have a0:True:=a0;refine AH (q:=let Z2:=Fr.min r s;let Z1:=List (List Dat);∃i1:Bool×Z1×Z1×Bool,[dF r]=AD.args i1/\AD.pre i1/\(ifB ((!(!i1.2.2.2))) (∃i2:Bool×Z1×Z1×Bool,[dF s]=AD.args i2/\AD.pre i2/\(ifB ((!i2.2.2.2)) ((eqN Z2)) (∃i3:Fr×Fr,[dF r,dF s]=B9.args i3/\B9.pre i3/\(ifB ((decide ((Fr.cmp i3.1 i3.2)<=(0:Int)))) (∃i4:Bool×Z1×Z1,[dF r]=AL.args i4/\AL.pre i4/\((vB i4.1=vB (decide (Z2.z<0)))/\(i4.2.1=L Z2.z.natAbs)/\(i4.2.2=L Z2.d))) (∃i5:Bool×Z1×Z1,[dF s]=AL.args i5/\AL.pre i5/\((vB i5.1=vB (decide (Z2.z<0)))/\(i5.2.1=L Z2.z.natAbs)/\(i5.2.2=L Z2.d))))))) ((eqN Z2)))) (by kernel_rfl) ?_;conv=>zeta
 delta ifB vB;have h1:=r.nlz;have h2:=r.nld;have lr:=AJ r.d;have lz:=AJ r.z.natAbs;have h3:=s.nlz;have h4:=s.nld;have ls:=AJ s.d;have lw:=AJ s.z.natAbs
 refine⟨(decide (r.z<0),(L r.z.natAbs),(L r.d),r.good),by
  rfl,by
  try dsimp only[AD]
  exact⟨BP _ (by omega),BP _ (by omega),by omega,by omega,BO _⟩,?_⟩
 refine And.symm ⟨λc4=>?_,λc4=>?_⟩;simp only[nrm]at c4;have hE:Fr.min r s=Fr.none:=Fr.bin_bad _ (.inl (CL c4));refine Ax ?_;rw[hE];simp only[nrm]at c4
 refine⟨(decide (s.z<0),(L s.z.natAbs),(L s.d),s.good),by
  rfl,by
  try dsimp only[AD]
  exact⟨BP _ (by omega),BP _ (by omega),by omega,by omega,BO _⟩,?_⟩
 refine⟨λc8=>?_,λc8=>?_⟩;simp only[nrm]at c8;have hE:Fr.min r s=Fr.none:=Fr.bin_bad _ (.inr (CL c8));refine Ax ?_;rw[hE];simp only[nrm]at c8
 refine⟨(r,s),by
  rfl,by
  exact⟨Ar c4,Ar c8⟩,?_⟩
 refine⟨λa1=>?_,λa1=>?_⟩;simp only[nrm]at a1;have hE:Fr.min r s=r:=by rw[Fr.min_pick,if_neg (λh=>h.elim (Ar c4) (Ar c8)),if_pos (by omega)]
 refine⟨(decide (r.z<0),(L r.z.natAbs),(L r.d)),by
  rfl,by
  show(L r.z.natAbs).length<=1073741824/\(L r.d).length<=1073741824;exact⟨by omega,by omega⟩,?_⟩
 refine⟨?_,?_,?_⟩;rw[hE];rw[hE];rw[hE];simp only[nrm]at a1;have hE:Fr.min r s=s:=by rw[Fr.min_pick,if_neg (λh=>h.elim (Ar c4) (Ar c8)),if_neg (by omega)]
 refine⟨(decide (s.z<0),(L s.z.natAbs),(L s.d)),by
  rfl,by
  show(L s.z.natAbs).length<=1073741824/\(L s.d).length<=1073741824;exact⟨by omega,by omega⟩,?_⟩
 refine⟨?_,?_,?_⟩;rw[hE];rw[hE];rw[hE]
def DX:Con:={ι:=Fr×Fr,pre:=λi=>True,args:=λi=>[dF i.1,dF i.2],res:=λi=>⟨false,[some 3],[rcB (decide ((Fr.max i.1 i.2).z<0)),.own 3 [.int] (L (Fr.max i.1 i.2).z.natAbs),.own 3 [.int] (L (Fr.max i.1 i.2).d)]⟩}
theorem TG:DX.Ok Tryz.prog 77:=by
 refine fok (X:=⟨tt,[(97,AD),(98,B9),(76,AL)],[],22,[]⟩) mixed AG (CTok.cons DW (CTok.cons KS (CTok.cons FA (CTok.nil _)))) Tryz.func77 (λ_=>[]) ?_;rintro⟨r,s⟩ a0;have a0:True:=a0;refine AH (q:=let Z2:=Fr.max r s;let Z1:=List (List Dat);∃i1:Bool×Z1×Z1×Bool,[dF r]=AD.args i1/\AD.pre i1/\(ifB ((!(!i1.2.2.2))) (∃i2:Bool×Z1×Z1×Bool,[dF s]=AD.args i2/\AD.pre i2/\(ifB ((!i2.2.2.2)) ((eqN Z2)) (∃i3:Fr×Fr,[dF r,dF s]=B9.args i3/\B9.pre i3/\(ifB ((decide ((Fr.cmp i3.1 i3.2)>=(0:Int)))) (∃i4:Bool×Z1×Z1,[dF r]=AL.args i4/\AL.pre i4/\((vB i4.1=vB (decide (Z2.z<0)))/\(i4.2.1=L Z2.z.natAbs)/\(i4.2.2=L Z2.d))) (∃i5:Bool×Z1×Z1,[dF s]=AL.args i5/\AL.pre i5/\((vB i5.1=vB (decide (Z2.z<0)))/\(i5.2.1=L Z2.z.natAbs)/\(i5.2.2=L Z2.d))))))) ((eqN Z2)))) (by kernel_rfl) ?_;conv=>zeta
 delta ifB vB;have h1:=r.nlz;have h2:=r.nld;have lr:=AJ r.d;have lz:=AJ r.z.natAbs;have h3:=s.nlz;have h4:=s.nld;have ls:=AJ s.d;have lw:=AJ s.z.natAbs
 refine⟨(decide (r.z<0),(L r.z.natAbs),(L r.d),r.good),by
  rfl,by
  try dsimp only[AD]
  exact⟨BP _ (by omega),BP _ (by omega),by omega,by omega,BO _⟩,?_⟩
 refine And.symm ⟨λc4=>?_,λc4=>?_⟩;simp only[nrm]at c4;have hE:Fr.max r s=Fr.none:=Fr.bin_bad _ (.inl (CL c4));refine Ax ?_;rw[hE];simp only[nrm]at c4
 refine⟨(decide (s.z<0),(L s.z.natAbs),(L s.d),s.good),by
  rfl,by
  try dsimp only[AD]
  exact⟨BP _ (by omega),BP _ (by omega),by omega,by omega,BO _⟩,?_⟩
 refine⟨λc8=>?_,λc8=>?_⟩;simp only[nrm]at c8;have hE:Fr.max r s=Fr.none:=Fr.bin_bad _ (.inr (CL c8));refine Ax ?_;rw[hE];simp only[nrm]at c8
 refine⟨(r,s),by
  rfl,by
  exact⟨Ar c4,Ar c8⟩,?_⟩
 refine⟨λa1=>?_,λa1=>?_⟩;simp only[nrm]at a1;have hE:Fr.max r s=r:=by rw[Fr.max_pick,if_neg (λh=>h.elim (Ar c4) (Ar c8)),if_pos (by omega)]
 refine⟨(decide (r.z<0),(L r.z.natAbs),(L r.d)),by
  rfl,by
  show(L r.z.natAbs).length<=1073741824/\(L r.d).length<=1073741824;exact⟨by omega,by omega⟩,?_⟩
 refine⟨?_,?_,?_⟩;rw[hE];rw[hE];rw[hE];simp only[nrm]at a1;have hE:Fr.max r s=s:=by rw[Fr.max_pick,if_neg (λh=>h.elim (Ar c4) (Ar c8)),if_neg (by omega)]
 refine⟨(decide (s.z<0),(L s.z.natAbs),(L s.d)),by
  rfl,by
  show(L s.z.natAbs).length<=1073741824/\(L s.d).length<=1073741824;exact⟨by omega,by omega⟩,?_⟩
 refine⟨?_,?_,?_⟩;rw[hE];rw[hE];rw[hE]
end Go.Proofs.YthoidhehmmcgnaaGreat
