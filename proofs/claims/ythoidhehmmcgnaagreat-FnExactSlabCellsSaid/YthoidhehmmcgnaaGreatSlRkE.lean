import Derived.Test.YthoidhehmmcgnaaGreatSlRkD
namespace Go.Proofs.YthoidhehmmcgnaaGreat
set_option maxRecDepth 100000
set_option linter.unusedVariables false
set_option linter.unusedSimpArgs false
open Go.RowKit
theorem E8(z:Int)(d:Nat):zOf (decide (z<0)) (z.natAbs*d)=z*((d:Nat):Int):=by have h:=L3 z ((d:Nat):Int);rw[YI,Int.natAbs_natCast]at h;rw[← h];cases decide (z<0) <;> rfl
theorem WJ{z:Int}{d:Nat}(hd:d≠0):decide (z*((d:Nat):Int)<0)=decide (z<0):=by
 congr 1;apply propext;have hp:(0:Int)<((d:Nat):Int):=by omega
 constructor;intro h;apply Int.lt_of_not_ge;intro h2;have:=Int.mul_nonneg h2 (Int.le_of_lt hp);omega;intro h;exact Int.mul_neg_of_neg_of_pos h hp
theorem Zt{neg:Bool}{m k:Nat}(h:m=0->k=0):zOf (decide (zOf neg m<0)) k=zOf neg k:=by cases neg;have:decide (zOf false m<0)=false:=decide_eq_false (by unfold zOf;simp);rw[this];by_cases hm:m=0;rw[h hm];unfold zOf;simp;have:decide (zOf true m<0)=true:=decide_eq_true (by unfold zOf;simp;omega);rw[this]
def FW(z:Int)(d:Nat):Fr:=if d=0 then Fr.none else Fr.mk' z d
theorem Gu{z:Int}{d:Nat}(h:d≠0):FW z d=Fr.mk' z d:=by unfold FW;rw[if_neg h]
theorem TY{z:Int}{d:Nat}(h:d=0):FW z d=Fr.none:=by unfold FW;rw[if_pos h]
theorem Eq{neg:Bool}{m d M D:Nat}{z:Int}(hz:zOf neg m=z)(hd:d≠0)(eM:m/m.gcd d=M)(eD:d/m.gcd d=D)(h1:nl M<=24)(h2:nl D<=24):(FW z d).z=zOf neg M/\(FW z d).d=D:=by
 have ha:z.natAbs=m:=by rw[← hz,El]
 have hf:=ET (z:=z) hd (by rw[ha,eM];exact h1) (by rw[ha,eD];exact h2);rw[Gu hd];rw[ha,eM,eD]at hf;refine⟨?_,hf.2.2⟩;rw[← GN (Fr.mk' z d).z,hf.1,hf.2.1,← hz];exact Zt λe=>by rw[← eM,e,Nat.zero_div]
theorem E9{neg:Bool}{m d M D:Nat}{z:Int}(hz:zOf neg m=z)(hd:d≠0)(eM:m/m.gcd d=M)(eD:d/m.gcd d=D)(h:¬(nl M<=24/\nl D<=24)):FW z d=Fr.none:=by
 have ha:z.natAbs=m:=by rw[← hz,El]
 rw[Gu hd,FT hd (by rw[ha,eM,eD];exact h)]
theorem AAr:[[Dat.int (1:Int)]]=L 1:=YF (by decide) (by decide)
theorem B8(e:Nat){n:Nat}(h:nl n<=9223372036854775807):Dat.has (.sl e [.int]) (.sl (L n)):=by refine⟨by rw[AK];exact h,λk hk=>?_⟩;unfold L;rw[M8 (by rw[AK]at hk;exact hk)];simp[hasRow,Dat.has]
theorem CA(r:Fr):Gi (decide (r.z<0)) (L r.z.natAbs) (L r.d)=r.good:=by rw[← Fr.neg_z,← Fr.num_z,← Fr.den_d];exact WA r
theorem TZ{m:List (List Dat)}(h:BO m=true):Br true m=decide (((m.length:Nat):Int)>(0:Int)):=by
 rw[NL h];by_cases hv:m.length=0;rw[hv];rfl;rw[decide_eq_true (by omega)];have:((((m.length:Nat):Int)) == (0:Int))=false:=by rw[beq_eq_false_iff_ne];omega
 rw[this];rfl
theorem YM(r s:Fr):Fr.sub r s=Fr.add r s.opp:=(Fr.sub_opp r s).symm
theorem YN{r s:Fr}(hr:r.d=1)(hs:s.d=1):Fr.add r s=FW (r.z+s.z) 1:=by rw[Fr.add_zd (by omega) (by omega),Gu (by decide),hr,hs];show Fr.mk' (r.z*1+s.z*1) (1*1)=_;rw[Int.mul_one,Int.mul_one]
theorem U1{r s:Fr}(hr:r.d≠0)(hs:s.d≠0):Fr.add r s=FW (r.z*((s.d:Nat):Int)+s.z*((r.d:Nat):Int)) (r.d*s.d):=by rw[Fr.add_zd hr hs,Gu (Nat.mul_ne_zero hr hs)]
theorem Zu{r s:Fr}(hr:r.d≠0)(hs:s.d≠0):Fr.mul r s=FW (r.z*s.z) (r.d*s.d):=by rw[Fr.mul_zd hr hs,Gu (Nat.mul_ne_zero hr hs)]
theorem Zv{r s:Fr}(hr:r.d≠0)(hs:s.d≠0):Fr.div r s=FW (zOf (decide (r.z<0) != decide (s.z<0)) (r.z.natAbs*s.d)) (r.d*s.z.natAbs):=by by_cases hz:s.z=0;rw[Fr.div_bad (.inr (.inr hz)),TY (by rw[hz];exact Nat.mul_zero _)];rw[Fr.div_zd hr hs hz,Gu (Nat.mul_ne_zero hr (by omega)),WJ hs,Int.natAbs_mul,Int.natAbs_natCast]
def Bj:Con:={ι:=Bool×(List (List Dat)),pre:=λi=>i.2.length<=9223372036854775807,args:=λi=>[DA.agg [cB i.1,cS i.2]],res:=λi=>⟨false,[none],[rcB (Br i.1 i.2)]⟩}
theorem Js:Bj.Ok Tryz.prog 130:=by
 refine fok (X:=⟨tt,[(131,CJ)],[],17,[]⟩) mixed AF (CTok.cons Ki (CTok.nil _)) Tryz.func130 (λ_=>[]) ?_;rintro⟨neg,m⟩ a0;have a0:m.length<=9223372036854775807:=a0;refine AG (q:=let Z1:=Br neg m;∃i1:(List (List Dat)),[DA.one (cS m)]=CJ.args i1/\CJ.pre i1/\(ifB ((BO i1)) (ifB ((!(!neg))) ((vB (decide ((nI m.length)>(0:Int)))=vB Z1)) ((vB true=vB Z1))) ((vB false=vB Z1)))) (by kernel_rfl) ?_;conv=>zeta
 delta ifB vB nI
 refine⟨m,by
  rfl,by
  trivial,?_⟩
 refine And.symm ⟨λc4=>?_,λc4=>?_⟩;unfold Br;rw[c4];rfl;refine⟨λc5=>?_,λc5=>?_⟩;simp only[nrm]at c5;rw[c5,TZ c4];simp only[nrm]at c5;unfold Br;rw[c4,c5];rfl
def AM:Con:={ι:=Bool×Nat×Int,pre:=λi=>nl i.2.1<=60/\zOf i.1 i.2.1=i.2.2,args:=λi=>[.one (cB i.1),.one (cS (L i.2.1))],res:=λi=>⟨false,[some 2],[rcB (decide (i.2.2<0)),.own 3 [.int] (L i.2.2.natAbs)]⟩}
theorem EH:AM.Ok Tryz.prog 122:=by
 refine fok (X:=⟨tt,[(156,Gs)],[],18,[]⟩) mixed AF (CTok.cons WH (CTok.nil _)) Tryz.func122 (λ_=>[]) ?_;rintro⟨neg,m,z⟩ a0;have a0:nl m<=60/\zOf neg m=z:=a0;refine AG (q:=∃i1:Nat,let Z1:=(([]:List (List Dat))++L i1)=L z.natAbs;[DA.one (cS (L m))]=Gs.args i1/\Gs.pre i1/\(ifB (neg) ((([]:List (List Dat)).length+(L i1).length<=2199023255552)/\((vB (decide ((nI ((L i1).length))>(0:Int)))=vB (decide (z<0)))/\Z1)) ((([]:List (List Dat)).length+(L i1).length<=2199023255552)/\((vB false=vB (decide (z<0)))/\Z1)))) (by kernel_rfl) ?_;conv=>zeta
 delta ifB vB nI
 refine⟨m,by
  rfl,by
  exact a0.1,?_⟩
 refine⟨λc4=>?_,λc4=>?_⟩;refine ao (by first|(rw[AK];simp only[List.length_nil];omega)) λo5=>?_;refine⟨?_,?_⟩;rw[← a0.2];rw[L4,c4];rfl;rw[← a0.2];rw[El];exact List.nil_append _;refine ao (by first|(rw[AK];simp only[List.length_nil];omega)) λo8=>?_;refine⟨?_,?_⟩;rw[← a0.2];rw[L4,c4];rfl;rw[← a0.2];rw[El];exact List.nil_append _
def Bk:Con:={ι:=Int,pre:=λi=>-9223372036854775808<=i/\i<=9223372036854775807,args:=λi=>[.one (cI i)],res:=λi=>⟨false,[some 2],[rcB (decide (i<0)),.own 3 [.int] (L i.natAbs)]⟩}
theorem Jt:Bk.Ok Tryz.prog 88:=by
 refine fok (X:=⟨tt,[(122,AM),(123,BC)],[],16,[]⟩) mixed AF (CTok.cons EH (CTok.cons Ig (CTok.nil _))) Tryz.func88 (λ_=>[]) ?_;intro (n:Int) a0;have a0:-9223372036854775808<=n/\n<=9223372036854775807:=a0;refine AG (q:=let Z1:=decide (n<0);ifB ((n == (-9223372036854775808:Int))) (∃i1:Bool×Nat×Int,[DA.one (cB true),DA.one (cS ([[Dat.int (854775808:Int)],[Dat.int (223372036:Int)],[Dat.int (9:Int)]]:List (List Dat)))]=AM.args i1/\AM.pre i1/\((vB (decide (i1.2.2<0))=vB Z1)/\(L i1.2.2.natAbs=L n.natAbs))) (ifB ((decide (n<(0:Int)))) (∃i2:Nat,[DA.one (cI (wR (0-n)))]=BC.args i2/\BC.pre i2/\(∃i3:Bool×Nat×Int,[DA.one (cB true),DA.one (cS (L i2))]=AM.args i3/\AM.pre i3/\((vB (decide (i3.2.2<0))=vB Z1)/\(L i3.2.2.natAbs=L n.natAbs)))) (∃i4:Nat,[DA.one (cI n)]=BC.args i4/\BC.pre i4/\(∃i5:Bool×Nat×Int,[DA.one (cB false),DA.one (cS (L i4))]=AM.args i5/\AM.pre i5/\((vB (decide (i5.2.2<0))=vB Z1)/\(L i5.2.2.natAbs=L n.natAbs)))))) (by kernel_rfl) ?_;conv=>zeta
 delta ifB vB wR;refine⟨λc1=>?_,λc1=>?_⟩;simp only[nrm]at c1
 refine⟨(true,9223372036854775808,n),by
  rw[ADQ];rfl,by
  show nl 9223372036854775808<=60/\zOf true 9223372036854775808=n;exact⟨Nat.le_trans ((Do 3 _).2 (by decide)) (by decide),by unfold zOf;rw[if_pos rfl];omega⟩,?_⟩
 exact⟨rfl,rfl⟩;simp only[nrm]at c1;refine⟨λc7=>?_,λc7=>?_⟩;simp only[nrm]at c7;have en:IntKind.i64.wrap (0-n)=(((-n).toNat:Nat):Int):=by rw[AC (by omega) (by omega)];omega
 have ea:n.natAbs=(-n).toNat:=by omega
 refine⟨(-n).toNat,by
  rw[en];rfl,by
  show((-n).toNat)<=9223372036854775807;omega,?_⟩
 refine⟨(true,(-n).toNat,n),by
  rfl,by
  show nl ((-n).toNat)<=60/\zOf true ((-n).toNat)=n;exact⟨Nat.le_trans (by rw[← ea];exact CN a0) (by decide),by unfold zOf;rw[if_pos rfl];omega⟩,?_⟩
 exact⟨rfl,rfl⟩;simp only[nrm]at c7;have en:n=((n.toNat:Nat):Int):=by omega
 have ea:n.natAbs=n.toNat:=by omega
 refine⟨n.toNat,by
  show[DA.one (DC.im (Value.int .i64 n))]=[DA.one (DC.im (Value.int .i64 ((n.toNat:Nat):Int)))];rw[← en],by
  show n.toNat<=9223372036854775807;omega,?_⟩
 refine⟨(false,n.toNat,n),by
  rfl,by
  show nl n.toNat<=60/\zOf false n.toNat=n;exact⟨Nat.le_trans (by rw[← ea];exact CN a0) (by decide),by unfold zOf;rw[if_neg (by decide)];omega⟩,?_⟩
 exact⟨rfl,rfl⟩
def Cq:Con:={ι:=Int×Int,pre:=λi=>nl i.1.natAbs<=59/\nl i.2.natAbs<=59,args:=λi=>[dB i.1,dB i.2],res:=λi=>⟨false,[some 2],[rcB (decide ((i.1+i.2)<0)),.own 3 [.int] (L (i.1+i.2).natAbs)]⟩}
theorem WK:Cq.Ok Tryz.prog 159:=by
 refine fok (X:=⟨tt,[(182,Gt),(122,AM),(163,AX),(181,CK)],[],40,[]⟩) mixed AF (CTok.cons WI (CTok.cons EH (CTok.cons GQ (CTok.cons Oh (CTok.nil _))))) Tryz.func159 (λ_=>[]) ?_;rintro⟨x,y⟩ a1;have a1:nl x.natAbs<=59/\nl y.natAbs<=59:=a1;refine AG (q:=let Z4:=decide (x<0);let Z3:=decide ((x+y)<0);let Z2:=cS (L y.natAbs);let Z1:=cS (L x.natAbs);ifB ((Z4 == (decide (y<0)))) (∃i1:Nat×Nat,[DA.one Z1,DA.one Z2]=Gt.args i1/\Gt.pre i1/\(∃i2:Bool×Nat×Int,[DA.one (cB Z4),DA.one (cS (L (i1.1+i1.2)))]=AM.args i2/\AM.pre i2/\((vB (decide (i2.2.2<0))=vB Z3)/\(L i2.2.2.natAbs=L (x+y).natAbs)))) (∃i3:Nat×Nat,[DA.one Z1,DA.one Z2]=AX.args i3/\AX.pre i3/\(ifB ((decide ((B7 i3.1 i3.2)>=(0:Int)))) (∃i4:Nat×Nat,[DA.one Z1,DA.one Z2]=CK.args i4/\CK.pre i4/\(∃i5:Bool×Nat×Int,[DA.one (cB Z4),DA.one (cS (L (i4.1-i4.2)))]=AM.args i5/\AM.pre i5/\((vB (decide (i5.2.2<0))=vB Z3)/\(L i5.2.2.natAbs=L (x+y).natAbs)))) (∃i6:Nat×Nat,[DA.one Z2,DA.one Z1]=CK.args i6/\CK.pre i6/\(∃i7:Bool×Nat×Int,[DA.one (cB (decide (y<0))),DA.one (cS (L (i6.1-i6.2)))]=AM.args i7/\AM.pre i7/\((vB (decide (i7.2.2<0))=vB Z3)/\(L i7.2.2.natAbs=L (x+y).natAbs))))))) (by kernel_rfl) ?_;conv=>zeta
 delta ifB vB;have hs:=Ka x.natAbs y.natAbs;have hs1:=Cz (Nat.sub_le x.natAbs y.natAbs);have hs2:=Cz (Nat.sub_le y.natAbs x.natAbs);refine⟨λc1=>?_,λc1=>?_⟩;simp only[nrm]at c1
 refine⟨(x.natAbs,y.natAbs),by
  rfl,by
  show nl x.natAbs<=1048576/\nl y.natAbs<=1048576;exact⟨by omega,by omega⟩,?_⟩
 refine⟨(decide (x<0),x.natAbs+y.natAbs,x+y),by
  rfl,by
  show nl (x.natAbs+y.natAbs)<=60/\zOf (decide (x<0)) (x.natAbs+y.natAbs)=(x+y);exact⟨by omega,NG c1⟩,?_⟩
 exact⟨rfl,rfl⟩;simp only[nrm]at c1
 refine⟨(x.natAbs,y.natAbs),by
  rfl,by
  show nl x.natAbs<=1048576/\nl y.natAbs<=1048576;exact⟨by omega,by omega⟩,?_⟩
 refine⟨λa0=>?_,λa0=>?_⟩;simp only[nrm]at a0
 refine⟨(x.natAbs,y.natAbs),by
  rfl,by
  show nl x.natAbs<=1048576/\nl y.natAbs<=1048576/\y.natAbs<=x.natAbs;exact⟨by omega,by omega,FR.1 a0⟩,?_⟩
 refine⟨(decide (x<0),x.natAbs-y.natAbs,x+y),by
  rfl,by
  show nl (x.natAbs-y.natAbs)<=60/\zOf (decide (x<0)) (x.natAbs-y.natAbs)=(x+y);exact⟨by omega,Jr c1 (FR.1 a0)⟩,?_⟩
 exact⟨rfl,rfl⟩;simp only[nrm]at a0
 refine⟨(y.natAbs,x.natAbs),by
  rfl,by
  show nl y.natAbs<=1048576/\nl x.natAbs<=1048576/\x.natAbs<=y.natAbs;exact⟨by omega,by omega,Nat.le_of_lt (Ds.1 a0)⟩,?_⟩
 refine⟨(decide (y<0),y.natAbs-x.natAbs,x+y),by
  rfl,by
  show nl (y.natAbs-x.natAbs)<=60/\zOf (decide (y<0)) (y.natAbs-x.natAbs)=(x+y);exact⟨by omega,NH c1 (Nat.le_of_lt (Ds.1 a0))⟩,?_⟩
 exact⟨rfl,rfl⟩
def Gv:Con:={ι:=Int×Int,pre:=λi=>nl i.1.natAbs<=59/\nl i.2.natAbs<=59,args:=λi=>[dB i.1,dB i.2],res:=λi=>⟨false,[none],[rcI (DJ i.1 i.2)]⟩}
theorem WL:Gv.Ok Tryz.prog 134:=by
 refine fok (X:=⟨tt,[(163,AX)],[],34,[]⟩) mixed AF (CTok.cons GQ (CTok.nil _)) Tryz.func134 (λ_=>[]) ?_;rintro⟨x,y⟩ a0;have a0:nl x.natAbs<=59/\nl y.natAbs<=59:=a0;refine AG (q:=let Z5:=decide (y<0);let Z4:=DJ x y;let Z6:=(vI (1:Int)=vI Z4);let Z3:=decide (x<0);let Z2:=cS (L x.natAbs);let Z1:=cS (L y.natAbs);ifB Z3 (ifB ((!Z5)) ((vI (-1:Int)=vI Z4)) (ifB ((!Z3)) (ifB Z5 Z6 (ifB Z3 (∃i1:Nat×Nat,[DA.one Z1,DA.one Z2]=AX.args i1/\AX.pre i1/\((vI (B7 i1.1 i1.2)=vI Z4))) (∃i2:Nat×Nat,[DA.one Z2,DA.one Z1]=AX.args i2/\AX.pre i2/\((vI (B7 i2.1 i2.2)=vI Z4))))) (ifB Z3 (∃i3:Nat×Nat,[DA.one Z1,DA.one Z2]=AX.args i3/\AX.pre i3/\((vI (B7 i3.1 i3.2)=vI Z4))) (∃i4:Nat×Nat,[DA.one Z2,DA.one Z1]=AX.args i4/\AX.pre i4/\((vI (B7 i4.1 i4.2)=vI Z4)))))) (ifB ((!Z3)) (ifB Z5 Z6 (ifB Z3 (∃i5:Nat×Nat,[DA.one Z1,DA.one Z2]=AX.args i5/\AX.pre i5/\((vI (B7 i5.1 i5.2)=vI Z4))) (∃i6:Nat×Nat,[DA.one Z2,DA.one Z1]=AX.args i6/\AX.pre i6/\((vI (B7 i6.1 i6.2)=vI Z4))))) (ifB Z3 (∃i7:Nat×Nat,[DA.one Z1,DA.one Z2]=AX.args i7/\AX.pre i7/\((vI (B7 i7.1 i7.2)=vI Z4))) (∃i8:Nat×Nat,[DA.one Z2,DA.one Z1]=AX.args i8/\AX.pre i8/\((vI (B7 i8.1 i8.2)=vI Z4)))))) (by kernel_rfl) ?_;conv=>zeta
 delta ifB vI;refine And.symm ⟨λc1=>?_,λc1=>?_⟩;simp only[nrm]at c1;refine And.symm ⟨λa1=>?_,λa1=>?_⟩;simp only[nrm]at a1;refine⟨λa2=>?_,λa2=>?_⟩;simp only[nrm]at a2
 refine⟨(y.natAbs,x.natAbs),by
  rfl,by
  exact⟨by omega,by omega⟩,?_⟩
 exfalso;omega;simp only[nrm]at a2
 refine⟨(x.natAbs,y.natAbs),by
  rfl,by
  exact⟨by omega,by omega⟩,?_⟩
 exfalso;omega;simp only[nrm]at a1;refine⟨λa3=>?_,λa3=>?_⟩;simp only[nrm]at a3;rw[← Uy (by omega) (by omega)];simp only[nrm]at a3;refine⟨λa4=>?_,λa4=>?_⟩;simp only[nrm]at a4
 refine⟨(y.natAbs,x.natAbs),by
  rfl,by
  exact⟨by omega,by omega⟩,?_⟩
 exfalso;omega;simp only[nrm]at a4
 refine⟨(x.natAbs,y.natAbs),by
  rfl,by
  show nl x.natAbs<=1048576/\nl y.natAbs<=1048576;exact⟨by omega,by omega⟩,?_⟩
 rw[Uw (by omega) (by omega)];simp only[nrm]at c1;refine⟨λc2=>?_,λc2=>?_⟩;simp only[nrm]at c2;rw[← Ux (by omega) (by omega)];simp only[nrm]at c2;refine And.symm ⟨λc4=>?_,λc4=>?_⟩;simp only[nrm]at c4;refine And.symm ⟨λa5=>?_,λa5=>?_⟩;simp only[nrm]at a5
 refine⟨(x.natAbs,y.natAbs),by
  rfl,by
  exact⟨by omega,by omega⟩,?_⟩
 exfalso;omega;simp only[nrm]at a5
 refine⟨(y.natAbs,x.natAbs),by
  rfl,by
  show nl y.natAbs<=1048576/\nl x.natAbs<=1048576;exact⟨by omega,by omega⟩,?_⟩
 rw[Uv (by omega) (by omega)];simp only[nrm]at c4;refine⟨λc5=>?_,λc5=>?_⟩;simp only[nrm]at c5;exfalso;omega;simp only[nrm]at c5;refine⟨λc7=>?_,λc7=>?_⟩;simp only[nrm]at c7
 refine⟨(y.natAbs,x.natAbs),by
  rfl,by
  exact⟨by omega,by omega⟩,?_⟩
 exfalso;omega;simp only[nrm]at c7
 refine⟨(x.natAbs,y.natAbs),by
  rfl,by
  exact⟨by omega,by omega⟩,?_⟩
 exfalso;omega
def BY:Con:={ι:=Nat,pre:=λi=>True,args:=λi=>[.one (cS (L i))],res:=λi=>⟨false,[none],[rcB (decide (i=1))]⟩}
theorem Kj:BY.Ok Tryz.prog 132:=by refine fok (X:=⟨tt,[],[],12,[]⟩) mixed AF (CTok.nil _) Tryz.func132 (λ_=>[]) ?_;intro (a:Nat) a0;have a0:True:=a0;refine AG (q:=ifB (((nI ((L a).length)) == (1:Int))) ((0<=(0:Int)/\(0:Int)<((L a).length:Int))/\((0<(L a).length)/\((vB (((((L a).getD 0 []).getD 0 (.int 0))).n == (1:Int))=vB (decide (a=1)))))) ((vB false=vB (decide (a=1))))) (by kernel_rfl) ?_;delta ifB vB nI;have ha:=AK a;refine And.symm ⟨λc1=>?_,λc1=>?_⟩;simp only[nrm]at c1;exact congrArg Value.bool (decide_eq_false (λe=>by subst e;rw[Po]at ha;omega)).symm;simp only[nrm]at c1;have h1:=H6 (b:=a) (by omega);refine ao (by omega) λo2=>?_;refine ao (by omega) λo3=>?_;rw[L_n,h1.1];exact congrArg Value.bool (by rw[Bool.eq_iff_iff,beq_iff_eq,decide_eq_true_iff];omega)
def A1:Con:={ι:=Bool×Nat×Nat×Int,pre:=λi=>nl i.2.1<=1000/\nl i.2.2.1<=1000/\zOf i.1 i.2.1=i.2.2.2,args:=λi=>[.one (cB i.1),.one (cS (L i.2.1)),.one (cS (L i.2.2.1))],res:=λi=>⟨false,[some 3],[rcB (decide ((FW i.2.2.2 i.2.2.1).z<0)),.own 3 [.int] (L (FW i.2.2.2 i.2.2.1).z.natAbs),.own 3 [.int] (L (FW i.2.2.2 i.2.2.1).d)]⟩}
theorem Ih:A1.Ok Tryz.prog 125:=by
 refine fok (X:=⟨tt,[(157,Ae),(132,BY),(133,DM),(158,B5),(122,AM)],[],55,[]⟩) mixed AF (CTok.cons EG (CTok.cons Kj (CTok.cons Oj (CTok.cons Oi (CTok.cons EH (CTok.nil _)))))) Tryz.func125 (λ_=>[]) ?_;rintro⟨neg,m,d,z⟩ a0;have a0:nl m<=1000/\nl d<=1000/\zOf neg m=z:=a0;refine AG (q:=let Z9:=List Dat;let Z1:=FW z d;let Z7:=decide (Z1.z<0);let Z6:=(eqN Z1);∃i1:(List Nat)×Nat,let Z8:=cS (L i1.2);let Z2:=(!(decide ((nI ((L i1.2).length))>(24:Int))));[DA.one (cS (L m))]=Ae.args i1/\Ae.pre i1/\(∃i2:(List Nat)×Nat,let Z4:=(([]:List Z9)++L i2.2)=L Z1.d;let Z3:=(decide ((nI ((L i2.2).length))>(24:Int)));[DA.one (cS (L d))]=Ae.args i2/\Ae.pre i2/\(ifB (((nI ((L i2.2).length)) == (0:Int))) Z6 (∃i3:Nat,[DA.one (cS (L i2.2))]=BY.args i3/\BY.pre i3/\(ifB ((!(decide (i3=1)))) (∃i4:Nat×Nat,let Z5:=cS (L (i4.1.gcd i4.2));[DA.one Z8,DA.one (cS (L i2.2))]=DM.args i4/\DM.pre i4/\(∃i5:Nat,[DA.one Z5]=BY.args i5/\BY.pre i5/\(ifB ((!(decide (i5=1)))) (∃i6:Nat×Nat,[DA.one Z8,DA.one Z5]=B5.args i6/\B5.pre i6/\(∃i7:Nat×Nat,[DA.one (cS (L i2.2)),DA.one Z5]=B5.args i7/\B5.pre i7/\(ifB ((!(decide ((nI ((L (i6.1/i6.2)).length))>(24:Int))))) (ifB ((decide ((nI ((L (i7.1/i7.2)).length))>(24:Int)))) Z6 (∃i8:Bool×Nat×Int,[DA.one (cB neg),DA.one (cS (L (i6.1/i6.2)))]=AM.args i8/\AM.pre i8/\((([]:List Z9).length+(L (i7.1/i7.2)).length<=2199023255552)/\((vB (decide (i8.2.2<0))=vB Z7)/\(L i8.2.2.natAbs=L Z1.z.natAbs)/\((([]:List Z9)++L (i7.1/i7.2))=L Z1.d))))) Z6))) (ifB Z2 (ifB Z3 Z6 (∃i9:Bool×Nat×Int,[DA.one (cB neg),DA.one Z8]=AM.args i9/\AM.pre i9/\((([]:List Z9).length+(L i2.2).length<=2199023255552)/\((vB (decide (i9.2.2<0))=vB Z7)/\(L i9.2.2.natAbs=L Z1.z.natAbs)/\Z4)))) Z6)))) (ifB Z2 (ifB Z3 Z6 (∃a1:Bool×Nat×Int,[DA.one (cB neg),DA.one Z8]=AM.args a1/\AM.pre a1/\((([]:List Z9).length+(L i2.2).length<=2199023255552)/\((vB (decide (a1.2.2<0))=vB Z7)/\(L a1.2.2.natAbs=L Z1.z.natAbs)/\Z4)))) Z6)))))) (by kernel_rfl) ?_;conv=>zeta
 delta ifB vB nI
 refine⟨(dig m,m),by
  rfl,by
  exact⟨by show nl _<=_;omega,M0 _,EB _⟩,?_⟩
 refine⟨(dig d,d),by
  rfl,by
  exact⟨by show nl _<=_;omega,M0 _,EB _⟩,?_⟩
 refine⟨λc7=>?_,λc7=>?_⟩;simp only[nrm]at c7;have hE:FW z d=Fr.none:=TY (H8 (by omega));refine BV ?_;rw[hE];simp only[nrm]at c7;have hd:d≠0:=λe=>by subst e;rw[AK,Ca]at c7;omega
 have hg:=U0 (a:=m) hd
 refine⟨d,by
  rfl,by
  trivial,?_⟩
 refine And.symm ⟨λa2=>?_,λa2=>?_⟩;simp only[nrm]at a2;have e1:m.gcd d=1:=by rw[a2];exact Nat.gcd_one_right _
 have eM:m/m.gcd d=m:=by rw[e1,Nat.div_one]
 have eD:d/m.gcd d=d:=by rw[e1,Nat.div_one]
 have lm:=AK m;have ld:=AK d;refine And.symm ⟨λa4=>?_,λa4=>?_⟩;simp only[nrm]at a4;refine BV ?_;rw[E9 a0.2.2 hd eM eD (by omega)];simp only[nrm]at a4;refine⟨λa5=>?_,λa5=>?_⟩;simp only[nrm]at a5;refine BV ?_;rw[E9 a0.2.2 hd eM eD (by omega)];simp only[nrm]at a5
 refine⟨(neg,m,(zOf neg m)),by
  rfl,by
  show nl m<=60/\zOf neg m=(zOf neg m);exact⟨by omega,by omega⟩,?_⟩
 refine ao (by simp only[List.length_nil];omega) λo66=>?_;refine⟨?_,?_,?_⟩;rw[(Eq a0.2.2 hd eM eD (by omega) (by omega)).1];rw[(Eq a0.2.2 hd eM eD (by omega) (by omega)).1];rw[(Eq a0.2.2 hd eM eD (by omega) (by omega)).2];exact List.nil_append _;simp only[nrm]at a2
 refine⟨(m,d),by
  rfl,by
  show nl m<=131072/\nl d<=131072;exact⟨by omega,by omega⟩,?_⟩
 refine⟨(m.gcd d),by
  rfl,by
  trivial,?_⟩
 refine And.symm ⟨λa3=>?_,λa3=>?_⟩;simp only[nrm]at a3;have e1:m.gcd d=1:=a3;have eM:m/m.gcd d=m:=by rw[e1,Nat.div_one]
 have eD:d/m.gcd d=d:=by rw[e1,Nat.div_one]
 have lm:=AK m;have ld:=AK d;refine And.symm ⟨λa6=>?_,λa6=>?_⟩;simp only[nrm]at a6;refine BV ?_;rw[E9 a0.2.2 hd eM eD (by omega)];simp only[nrm]at a6;refine⟨λa7=>?_,λa7=>?_⟩;simp only[nrm]at a7;refine BV ?_;rw[E9 a0.2.2 hd eM eD (by omega)];simp only[nrm]at a7
 refine⟨(neg,m,(zOf neg m)),by
  rfl,by
  show nl m<=60/\zOf neg m=(zOf neg m);exact⟨by omega,by omega⟩,?_⟩
 refine ao (by simp only[List.length_nil];omega) λo51=>?_;refine⟨?_,?_,?_⟩;rw[(Eq a0.2.2 hd eM eD (by omega) (by omega)).1];rw[(Eq a0.2.2 hd eM eD (by omega) (by omega)).1];rw[(Eq a0.2.2 hd eM eD (by omega) (by omega)).2];exact List.nil_append _;simp only[nrm]at a3;have eM:m/m.gcd d=m/m.gcd d:=rfl;have eD:d/m.gcd d=d/m.gcd d:=rfl;have lm:=AK (m/m.gcd d);have ld:=AK (d/m.gcd d)
 refine⟨(m,(m.gcd d)),by
  rfl,by
  show(m.gcd d)≠0/\nl m<=131072/\nl (m.gcd d)<=131072;exact⟨by omega,by omega⟩,?_⟩
 refine⟨(d,(m.gcd d)),by
  rfl,by
  show(m.gcd d)≠0/\nl d<=131072/\nl (m.gcd d)<=131072;exact⟨by omega,by omega⟩,?_⟩
 refine And.symm ⟨λa8=>?_,λa8=>?_⟩;simp only[nrm]at a8;refine BV ?_;rw[E9 a0.2.2 hd eM eD (by omega)];simp only[nrm]at a8;refine⟨λa9=>?_,λa9=>?_⟩;simp only[nrm]at a9;refine BV ?_;rw[E9 a0.2.2 hd eM eD (by omega)];simp only[nrm]at a9
 refine⟨(neg,(m/(m.gcd d)),(zOf neg (m/(m.gcd d)))),by
  rfl,by
  show nl (m/(m.gcd d))<=60/\zOf neg (m/(m.gcd d))=(zOf neg (m/(m.gcd d)));exact⟨by omega,by omega⟩,?_⟩
 refine ao (by simp only[List.length_nil];omega) λo36=>?_;refine⟨?_,?_,?_⟩;rw[(Eq a0.2.2 hd eM eD (by omega) (by omega)).1];rw[(Eq a0.2.2 hd eM eD (by omega) (by omega)).1];rw[(Eq a0.2.2 hd eM eD (by omega) (by omega)).2];exact List.nil_append _
def AO:Con:={ι:=Bool×(List (List Dat))×(List (List Dat))×Bool,pre:=λi=>Dat.has (.sl 3 [.int]) (.sl i.2.1)/\Dat.has (.sl 3 [.int]) (.sl i.2.2.1)/\i.2.1.length<=9223372036854775807/\i.2.2.1.length<=9223372036854775807/\Gi i.1 i.2.1 i.2.2.1=i.2.2.2,args:=λi=>[DA.agg [cB i.1,cS i.2.1,cS i.2.2.1]],res:=λi=>⟨false,[none],[rcB i.2.2.2]⟩}
theorem FA:AO.Ok Tryz.prog 97:=by
 refine fok (X:=⟨tt,[(130,Bj),(131,CJ),(133,DM),(132,BY)],[],39,[]⟩) mixed AF (CTok.cons Js (CTok.cons Ki (CTok.cons Oj (CTok.cons Kj (CTok.nil _))))) Tryz.func97 (λ_=>[]) ?_;rintro⟨neg,m,d,b⟩ a0;have a0:Dat.has (.sl 3 [.int]) (.sl m)/\Dat.has (.sl 3 [.int]) (.sl d)/\m.length<=9223372036854775807/\d.length<=9223372036854775807/\Gi neg m d=b:=a0;refine AG (q:=let Z1:=(vB false=vB b);∃i1:Bool×(List (List Dat)),[DA.agg [cB neg,cS m]]=Bj.args i1/\Bj.pre i1/\(ifB ((!(!(Br i1.1 i1.2)))) (∃i2:(List (List Dat)),[DA.one (cS d)]=CJ.args i2/\CJ.pre i2/\(ifB ((!(!(BO i2)))) (ifB ((!((nI d.length) == (0:Int)))) (ifB ((!(decide ((nI d.length)>(24:Int))))) (ifB ((decide ((nI m.length)>(24:Int)))) Z1 (∃i3:Nat×Nat,[DA.one (cS m),DA.one (cS d)]=DM.args i3/\DM.pre i3/\(∃i4:Nat,[DA.one (cS (L (i3.1.gcd i3.2)))]=BY.args i4/\BY.pre i4/\((vB (decide (i4=1))=vB b))))) Z1) Z1) Z1)) Z1)) (by kernel_rfl) ?_;conv=>zeta
 delta ifB vB nI
 refine⟨(neg,m),by
  rfl,by
  show m.length<=9223372036854775807;omega,?_⟩
 refine And.symm ⟨λc4=>?_,λc4=>?_⟩;simp only[nrm]at c4;have hE:false=b:=by rw[← a0.2.2.2.2];exact(GO (.inl c4)).symm
 rw[hE];simp only[nrm]at c4
 refine⟨d,by
  rfl,by
  show d.length<=9223372036854775807;omega,?_⟩
 refine And.symm ⟨λc8=>?_,λc8=>?_⟩;simp only[nrm]at c8;have hE:false=b:=by rw[← a0.2.2.2.2];exact(GO (.inr (.inl c8))).symm
 rw[hE];simp only[nrm]at c8;refine And.symm ⟨λc9=>?_,λc9=>?_⟩;simp only[nrm]at c9;have hE:false=b:=by rw[← a0.2.2.2.2];exact(GO (.inr (.inr (.inl (by omega))))).symm
 rw[hE];simp only[nrm]at c9;refine And.symm ⟨λa1=>?_,λa1=>?_⟩;simp only[nrm]at a1;have hE:false=b:=by rw[← a0.2.2.2.2];exact(GO (.inr (.inr (.inr (.inr (by omega)))))).symm
 rw[hE];simp only[nrm]at a1;refine⟨λa2=>?_,λa2=>?_⟩;simp only[nrm]at a2;have hE:false=b:=by rw[← a0.2.2.2.2];exact(GO (.inr (.inr (.inr (.inl (by omega)))))).symm
 rw[hE];simp only[nrm]at a2;obtain⟨x,ea,na⟩:=NA a0.1 (TU c4);obtain⟨y,eb,nb⟩:=NA a0.2.1 c8;have hR:=TV c4 c8 (by omega) (by omega) (by omega)
 refine⟨(x,y),by
  rw[ea,eb];rfl,by
  show nl x<=131072/\nl y<=131072;exact⟨by omega,by omega⟩,?_⟩
 refine⟨(x.gcd y),by
  rfl,by
  trivial,?_⟩
 rw[← a0.2.2.2.2,hR,ea,eb,Pn,Pn]
def AL:Con:={ι:=Int,pre:=λi=>-9223372036854775808<=i/\i<=9223372036854775807,args:=λi=>[.one (cI i)],res:=λi=>⟨false,[some 3],[rcB (decide ((Fr.ofInt i).z<0)),.own 3 [.int] (L (Fr.ofInt i).z.natAbs),.own 3 [.int] (L (Fr.ofInt i).d)]⟩}
theorem CO:AL.Ok Tryz.prog 51:=by
 refine fok (X:=⟨tt,[(88,Bk)],[],7,[]⟩) mixed AF (CTok.cons Jt (CTok.nil _)) Tryz.func51 (λ_=>[]) ?_;intro (n:Int) a0;have a0:-9223372036854775808<=n/\n<=9223372036854775807:=a0;refine AG (q:=∃i1:Int,[DA.one (cI n)]=Bk.args i1/\Bk.pre i1/\((vB (decide (i1<0))=vB (decide ((Fr.ofInt n).z<0)))/\(L i1.natAbs=L (Fr.ofInt n).z.natAbs)/\(([[Dat.int (1:Int)]]:List (List Dat))=L (Fr.ofInt n).d))) (by kernel_rfl) ?_;delta vB
 refine⟨n,by
  rfl,by
  exact a0,?_⟩
 refine⟨?_,?_,?_⟩;rw[(FU (CN a0)).1];rw[(FU (CN a0)).1];rw[(FU (CN a0)).2];exact AAr
def Gw:Con:={ι:=Fr,pre:=λi=>True,args:=λi=>[dF i],res:=λi=>⟨false,[some 3],[rcB (decide (i.opp.z<0)),.own 3 [.int] (L i.opp.z.natAbs),.own 3 [.int] (L i.opp.d)]⟩}
theorem WM:Gw.Ok Tryz.prog 128:=by
 refine fok (X:=⟨tt,[(122,AM)],[],16,[]⟩) mixed AF (CTok.cons EH (CTok.nil _)) Tryz.func128 (λ_=>[]) ?_;intro (r:Fr) a0;have a0:True:=a0;refine AG (q:=∃i1:Bool×Nat×Int,[DA.one (cB (!(decide (r.z<0)))),DA.one (cS (L r.z.natAbs))]=AM.args i1/\AM.pre i1/\((([]:List (List Dat)).length+(L r.d).length<=2199023255552)/\((vB (decide (i1.2.2<0))=vB (decide (r.opp.z<0)))/\(L i1.2.2.natAbs=L r.opp.z.natAbs)/\((([]:List (List Dat))++(L r.d))=L r.opp.d)))) (by kernel_rfl) ?_;delta vB;have h1:=r.nlz;have h2:=r.nld;have lr:=AK r.d;have lz:=AK r.z.natAbs
 refine⟨(!(decide (r.z<0)),r.z.natAbs,-r.z),by
  rfl,by
  show nl r.z.natAbs<=60/\zOf (!(decide (r.z<0))) r.z.natAbs=(-r.z);exact⟨by omega,Pm _⟩,?_⟩
 refine ao (by simp only[List.length_nil];omega) λo4=>?_;refine⟨?_,?_,?_⟩;rw[Fr.opp_z];rw[Fr.opp_z];rw[Fr.opp_d];exact List.nil_append _
def Aa:Con:={ι:=Bool×(List (List Dat))×(List (List Dat)),pre:=λi=>i.2.1.length<=1073741824/\i.2.2.length<=1073741824,args:=λi=>[DA.agg [cB i.1,cS i.2.1,cS i.2.2]],res:=λi=>⟨false,[some 3],[rcB i.1,.own 3 [.int] i.2.1,.own 3 [.int] i.2.2]⟩}
theorem JH:Aa.Ok Tryz.prog 76:=by refine fok (X:=⟨tt,[],[],17,[]⟩) mixed AF (CTok.nil _) Tryz.func76 (λ_=>[]) ?_;rintro⟨neg,m,d⟩ a0;have a0:m.length<=1073741824/\d.length<=1073741824:=a0;refine AG (q:=(([]:List (List Dat)).length+m.length<=2199023255552)/\((([]:List (List Dat)).length+d.length<=2199023255552)/\((vB neg=vB neg)/\((([]:List (List Dat))++m)=m)/\((([]:List (List Dat))++d)=d)))) (by kernel_rfl) ?_;delta vB;refine ao (by simp only[List.length_nil];omega) λo1=>?_;refine ao (by simp only[List.length_nil];omega) λo2=>?_;refine⟨rfl,?_,?_⟩;rfl;rfl
def DN:Con:={ι:=Fr×Fr,pre:=λi=>i.1.d≠0/\i.2.d≠0,args:=λi=>[dF i.1,dF i.2],res:=λi=>⟨false,[some 3],[rcB (decide ((Fr.add i.1 i.2).z<0)),.own 3 [.int] (L (Fr.add i.1 i.2).z.natAbs),.own 3 [.int] (L (Fr.add i.1 i.2).d)]⟩}
set_option maxHeartbeats 4000000 in
theorem Ol:DN.Ok Tryz.prog 127:=by
 refine fok (X:=⟨tt,[(132,BY),(159,Cq),(125,A1),(126,AT),(122,AM)],[],61,[]⟩) mixed AF (CTok.cons Kj (CTok.cons WK (CTok.cons Ih (CTok.cons E7 (CTok.cons EH (CTok.nil _)))))) Tryz.func127 (λ_=>[]) ?_;rintro⟨r,s⟩ a0;have a0:r.d≠0/\s.d≠0:=a0;refine AG (q:=let Z2:=cS (L s.d);let Z1:=cS (L r.d);∃i1:Nat,[DA.one Z1]=BY.args i1/\BY.pre i1/\(ifB ((decide (i1=1))) (∃i2:Nat,[DA.one Z2]=BY.args i2/\BY.pre i2/\(ifB ((decide (i2=1))) (∃i3:Int×Int,[dB r.z,dB s.z]=Cq.args i3/\Cq.pre i3/\(∃i4:Bool×Nat×Nat×Int,[DA.one (cB (decide ((i3.1+i3.2)<0))),DA.one (cS (L (i3.1+i3.2).natAbs)),DA.one (cS ([[Dat.int (1:Int)]]:List (List Dat)))]=A1.args i4/\A1.pre i4/\((eqC (FW i4.2.2.2 i4.2.2.1) (Fr.add r s))))) (∃i5:Nat×Nat,[DA.one (cS (L r.z.natAbs)),DA.one Z2]=AT.args i5/\AT.pre i5/\(∃i6:Bool×Nat×Int,[DA.one (cB (decide (r.z<0))),DA.one (cS (L (i5.1*i5.2)))]=AM.args i6/\AM.pre i6/\(∃i7:Nat×Nat,[DA.one (cS (L s.z.natAbs)),DA.one Z1]=AT.args i7/\AT.pre i7/\(∃i8:Bool×Nat×Int,[DA.one (cB (decide (s.z<0))),DA.one (cS (L (i7.1*i7.2)))]=AM.args i8/\AM.pre i8/\(∃i9:Int×Int,[dB i6.2.2,dB i8.2.2]=Cq.args i9/\Cq.pre i9/\(∃a2:Nat×Nat,[DA.one Z1,DA.one Z2]=AT.args a2/\AT.pre a2/\(∃a3:Bool×Nat×Nat×Int,[DA.one (cB (decide ((i9.1+i9.2)<0))),DA.one (cS (L (i9.1+i9.2).natAbs)),DA.one (cS (L (a2.1*a2.2)))]=A1.args a3/\A1.pre a3/\((eqC (FW a3.2.2.2 a3.2.2.1) (Fr.add r s)))))))))))) (∃a4:Nat×Nat,[DA.one (cS (L r.z.natAbs)),DA.one Z2]=AT.args a4/\AT.pre a4/\(∃a8:Bool×Nat×Int,[DA.one (cB (decide (r.z<0))),DA.one (cS (L (a4.1*a4.2)))]=AM.args a8/\AM.pre a8/\(∃a5:Nat×Nat,[DA.one (cS (L s.z.natAbs)),DA.one Z1]=AT.args a5/\AT.pre a5/\(∃a9:Bool×Nat×Int,[DA.one (cB (decide (s.z<0))),DA.one (cS (L (a5.1*a5.2)))]=AM.args a9/\AM.pre a9/\(∃a1:Int×Int,[dB a8.2.2,dB a9.2.2]=Cq.args a1/\Cq.pre a1/\(∃a6:Nat×Nat,[DA.one Z1,DA.one Z2]=AT.args a6/\AT.pre a6/\(∃a7:Bool×Nat×Nat×Int,[DA.one (cB (decide ((a1.1+a1.2)<0))),DA.one (cS (L (a1.1+a1.2).natAbs)),DA.one (cS (L (a6.1*a6.2)))]=A1.args a7/\A1.pre a7/\((eqC (FW a7.2.2.2 a7.2.2.1) (Fr.add r s)))))))))))) (by kernel_rfl) ?_;conv=>zeta
 delta ifB;have h1:=r.nlz;have h2:=r.nld;have lr:=AK r.d;have lz:=AK r.z.natAbs;have h3:=s.nlz;have h4:=s.nld;have ls:=AK s.d;have lw:=AK s.z.natAbs;have m0:=Az r.z.natAbs s.d;have m00:=Az s.z.natAbs r.d;have m1:=Bc r.z ((s.d:Nat):Int);have m2:=Bc s.z ((r.d:Nat):Int);rw[Dt]at m1 m2;have m3:=FS (r.z*((s.d:Nat):Int)) (s.z*((r.d:Nat):Int));have m4:=Az r.d s.d;have m6:=Az r.d s.z.natAbs
 refine⟨r.d,by
  rfl,by
  trivial,?_⟩
 refine And.symm ⟨λc4=>?_,λc4=>?_⟩;simp only[nrm]at c4;have hE:=U1 a0.1 a0.2
 refine⟨(r.z.natAbs,s.d),by
  rfl,by
  show nl r.z.natAbs<=524288/\nl s.d<=524288;exact⟨by omega,by omega⟩,?_⟩
 refine⟨(decide (r.z<0),r.z.natAbs*s.d,r.z*((s.d:Nat):Int)),by
  rfl,by
  show nl (r.z.natAbs*s.d)<=60/\zOf (decide (r.z<0)) (r.z.natAbs*s.d)=(r.z*((s.d:Nat):Int));exact⟨by omega,E8 _ _⟩,?_⟩
 refine⟨(s.z.natAbs,r.d),by
  rfl,by
  show nl s.z.natAbs<=524288/\nl r.d<=524288;exact⟨by omega,by omega⟩,?_⟩
 refine⟨(decide (s.z<0),s.z.natAbs*r.d,s.z*((r.d:Nat):Int)),by
  rfl,by
  show nl (s.z.natAbs*r.d)<=60/\zOf (decide (s.z<0)) (s.z.natAbs*r.d)=(s.z*((r.d:Nat):Int));exact⟨by omega,E8 _ _⟩,?_⟩
 refine⟨((r.z*((s.d:Nat):Int)),(s.z*((r.d:Nat):Int))),by
  rfl,by
  show nl (r.z*((s.d:Nat):Int)).natAbs<=59/\nl (s.z*((r.d:Nat):Int)).natAbs<=59;exact⟨by omega,by omega⟩,?_⟩
 refine⟨(r.d,s.d),by
  rfl,by
  show nl r.d<=524288/\nl s.d<=524288;exact⟨by omega,by omega⟩,?_⟩
 refine⟨(decide (r.z*((s.d:Nat):Int)+s.z*((r.d:Nat):Int)<0),(r.z*((s.d:Nat):Int)+s.z*((r.d:Nat):Int)).natAbs,r.d*s.d,r.z*((s.d:Nat):Int)+s.z*((r.d:Nat):Int)),by
  rfl,by
  try dsimp only[A1]
  exact⟨by omega,by omega,GN _⟩,?_⟩
 refine B0 ?_;rw[hE];simp only[nrm]at c4
 refine⟨s.d,by
  rfl,by
  trivial,?_⟩
 refine⟨λc8=>?_,λc8=>?_⟩;simp only[nrm]at c8;have hE:=YN c4 c8
 refine⟨(r.z,s.z),by
  rfl,by
  show nl r.z.natAbs<=59/\nl s.z.natAbs<=59;exact⟨by omega,by omega⟩,?_⟩
 refine⟨(decide (r.z+s.z<0),(r.z+s.z).natAbs,1,r.z+s.z),by
  rw[AAr];rfl,by
  show nl ((r.z+s.z).natAbs)<=1000/\nl 1<=1000/\zOf (decide (r.z+s.z<0)) ((r.z+s.z).natAbs)=(r.z+s.z);have:=FS r.z s.z;exact⟨by omega,by rw[Po];decide,GN _⟩,?_⟩
 refine B0 ?_;rw[hE];simp only[nrm]at c8;have hE:=U1 a0.1 a0.2
 refine⟨(r.z.natAbs,s.d),by
  rfl,by
  show nl r.z.natAbs<=524288/\nl s.d<=524288;exact⟨by omega,by omega⟩,?_⟩
 refine⟨(decide (r.z<0),r.z.natAbs*s.d,r.z*((s.d:Nat):Int)),by
  rfl,by
  show nl (r.z.natAbs*s.d)<=60/\zOf (decide (r.z<0)) (r.z.natAbs*s.d)=(r.z*((s.d:Nat):Int));exact⟨by omega,E8 _ _⟩,?_⟩
 refine⟨(s.z.natAbs,r.d),by
  rfl,by
  show nl s.z.natAbs<=524288/\nl r.d<=524288;exact⟨by omega,by omega⟩,?_⟩
 refine⟨(decide (s.z<0),s.z.natAbs*r.d,s.z*((r.d:Nat):Int)),by
  rfl,by
  show nl (s.z.natAbs*r.d)<=60/\zOf (decide (s.z<0)) (s.z.natAbs*r.d)=(s.z*((r.d:Nat):Int));exact⟨by omega,E8 _ _⟩,?_⟩
 refine⟨((r.z*((s.d:Nat):Int)),(s.z*((r.d:Nat):Int))),by
  rfl,by
  show nl (r.z*((s.d:Nat):Int)).natAbs<=59/\nl (s.z*((r.d:Nat):Int)).natAbs<=59;exact⟨by omega,by omega⟩,?_⟩
 refine⟨(r.d,s.d),by
  rfl,by
  show nl r.d<=524288/\nl s.d<=524288;exact⟨by omega,by omega⟩,?_⟩
 refine⟨(decide (r.z*((s.d:Nat):Int)+s.z*((r.d:Nat):Int)<0),(r.z*((s.d:Nat):Int)+s.z*((r.d:Nat):Int)).natAbs,r.d*s.d,r.z*((s.d:Nat):Int)+s.z*((r.d:Nat):Int)),by
  rfl,by
  try dsimp only[A1]
  exact⟨by omega,by omega,GN _⟩,?_⟩
 refine B0 ?_;rw[hE]
def Gx:Con:={ι:=Fr×Fr,pre:=λi=>i.1.d≠0/\i.2.d≠0,args:=λi=>[dF i.1,dF i.2],res:=λi=>⟨false,[some 3],[rcB (decide ((Fr.mul i.1 i.2).z<0)),.own 3 [.int] (L (Fr.mul i.1 i.2).z.natAbs),.own 3 [.int] (L (Fr.mul i.1 i.2).d)]⟩}
set_option maxHeartbeats 4000000 in
theorem WN:Gx.Ok Tryz.prog 160:=by
 refine fok (X:=⟨tt,[(126,AT),(125,A1)],[],25,[]⟩) mixed AF (CTok.cons E7 (CTok.cons Ih (CTok.nil _))) Tryz.func160 (λ_=>[]) ?_;rintro⟨r,s⟩ a0;have a0:r.d≠0/\s.d≠0:=a0;refine AG (q:=∃i1:Nat×Nat,[DA.one (cS (L r.z.natAbs)),DA.one (cS (L s.z.natAbs))]=AT.args i1/\AT.pre i1/\(∃i2:Nat×Nat,[DA.one (cS (L r.d)),DA.one (cS (L s.d))]=AT.args i2/\AT.pre i2/\(∃i3:Bool×Nat×Nat×Int,[DA.one (cB ((decide (r.z<0)) != (decide (s.z<0)))),DA.one (cS (L (i1.1*i1.2))),DA.one (cS (L (i2.1*i2.2)))]=A1.args i3/\A1.pre i3/\((eqC (FW i3.2.2.2 i3.2.2.1) (Fr.mul r s)))))) (by kernel_rfl) ?_;have h1:=r.nlz;have h2:=r.nld;have lr:=AK r.d;have lz:=AK r.z.natAbs;have h3:=s.nlz;have h4:=s.nld;have ls:=AK s.d;have lw:=AK s.z.natAbs;have m4:=Az r.d s.d;have m5:=Az r.z.natAbs s.z.natAbs;have hE:=Zu a0.1 a0.2
 refine⟨(r.z.natAbs,s.z.natAbs),by
  rfl,by
  show nl r.z.natAbs<=524288/\nl s.z.natAbs<=524288;exact⟨by omega,by omega⟩,?_⟩
 refine⟨(r.d,s.d),by
  rfl,by
  show nl r.d<=524288/\nl s.d<=524288;exact⟨by omega,by omega⟩,?_⟩
 refine⟨((decide (r.z<0)) != (decide (s.z<0)),r.z.natAbs*s.z.natAbs,r.d*s.d,r.z*s.z),by
  rfl,by
  show nl (r.z.natAbs*s.z.natAbs)<=1000/\nl (r.d*s.d)<=1000/\zOf ((decide (r.z<0)) != (decide (s.z<0))) (r.z.natAbs*s.z.natAbs)=(r.z*s.z);exact⟨by omega,by omega,L3 _ _⟩,?_⟩
 refine B0 ?_;rw[hE]
def Gy:Con:={ι:=Fr×Fr,pre:=λi=>i.1.d≠0/\i.2.d≠0,args:=λi=>[dF i.1,dF i.2],res:=λi=>⟨false,[none],[rcI (Fr.cmp i.1 i.2)]⟩}
theorem WO:Gy.Ok Tryz.prog 98:=by
 refine fok (X:=⟨tt,[(126,AT),(122,AM),(134,Gv)],[],26,[]⟩) mixed AF (CTok.cons E7 (CTok.cons EH (CTok.cons WL (CTok.nil _)))) Tryz.func98 (λ_=>[]) ?_;rintro⟨r,s⟩ a0;have a0:r.d≠0/\s.d≠0:=a0;refine AG (q:=∃i1:Nat×Nat,[DA.one (cS (L r.z.natAbs)),DA.one (cS (L s.d))]=AT.args i1/\AT.pre i1/\(∃i2:Bool×Nat×Int,[DA.one (cB (decide (r.z<0))),DA.one (cS (L (i1.1*i1.2)))]=AM.args i2/\AM.pre i2/\(∃i3:Nat×Nat,[DA.one (cS (L s.z.natAbs)),DA.one (cS (L r.d))]=AT.args i3/\AT.pre i3/\(∃i4:Bool×Nat×Int,[DA.one (cB (decide (s.z<0))),DA.one (cS (L (i3.1*i3.2)))]=AM.args i4/\AM.pre i4/\(∃i5:Int×Int,[dB i2.2.2,dB i4.2.2]=Gv.args i5/\Gv.pre i5/\((vI (DJ i5.1 i5.2)=vI (Fr.cmp r s)))))))) (by kernel_rfl) ?_;delta vI;have h1:=r.nlz;have h2:=r.nld;have lr:=AK r.d;have lz:=AK r.z.natAbs;have h3:=s.nlz;have h4:=s.nld;have ls:=AK s.d;have lw:=AK s.z.natAbs;have m0:=Az r.z.natAbs s.d;have m00:=Az s.z.natAbs r.d;have m1:=Bc r.z ((s.d:Nat):Int);have m2:=Bc s.z ((r.d:Nat):Int);rw[Dt]at m1 m2;have m3:=FS (r.z*((s.d:Nat):Int)) (s.z*((r.d:Nat):Int));have m4:=Az r.d s.d;have m6:=Az r.d s.z.natAbs
 refine⟨(r.z.natAbs,s.d),by
  rfl,by
  show nl r.z.natAbs<=524288/\nl s.d<=524288;exact⟨by omega,by omega⟩,?_⟩
 refine⟨(decide (r.z<0),r.z.natAbs*s.d,r.z*((s.d:Nat):Int)),by
  rfl,by
  show nl (r.z.natAbs*s.d)<=60/\zOf (decide (r.z<0)) (r.z.natAbs*s.d)=(r.z*((s.d:Nat):Int));exact⟨by omega,E8 _ _⟩,?_⟩
 refine⟨(s.z.natAbs,r.d),by
  rfl,by
  show nl s.z.natAbs<=524288/\nl r.d<=524288;exact⟨by omega,by omega⟩,?_⟩
 refine⟨(decide (s.z<0),s.z.natAbs*r.d,s.z*((r.d:Nat):Int)),by
  rfl,by
  show nl (s.z.natAbs*r.d)<=60/\zOf (decide (s.z<0)) (s.z.natAbs*r.d)=(s.z*((r.d:Nat):Int));exact⟨by omega,E8 _ _⟩,?_⟩
 refine⟨((r.z*((s.d:Nat):Int)),(s.z*((r.d:Nat):Int))),by
  rfl,by
  show nl (r.z*((s.d:Nat):Int)).natAbs<=59/\nl (s.z*((r.d:Nat):Int)).natAbs<=59;exact⟨by omega,by omega⟩,?_⟩
 rw[Fr.cmp_zd a0.1 a0.2]
def BT:Con:={ι:=Fr×Fr,pre:=λi=>True,args:=λi=>[dF i.1,dF i.2],res:=λi=>⟨false,[some 3],[rcB (decide ((Fr.add i.1 i.2).z<0)),.own 3 [.int] (L (Fr.add i.1 i.2).z.natAbs),.own 3 [.int] (L (Fr.add i.1 i.2).d)]⟩}
theorem Gz:BT.Ok Tryz.prog 96:=by
 refine fok (X:=⟨tt,[(97,AO),(127,DN)],[],17,[]⟩) mixed AF (CTok.cons FA (CTok.cons Ol (CTok.nil _))) Tryz.func96 (λ_=>[]) ?_;rintro⟨r,s⟩ a0;have a0:True:=a0;refine AG (q:=let Z1:=List (List Dat);∃i1:Bool×Z1×Z1×Bool,[dF r]=AO.args i1/\AO.pre i1/\(ifB ((!(!i1.2.2.2))) (∃i2:Bool×Z1×Z1×Bool,[dF s]=AO.args i2/\AO.pre i2/\(ifB ((!i2.2.2.2)) ((eqN (Fr.add r s))) (∃i3:Fr×Fr,[dF r,dF s]=DN.args i3/\DN.pre i3/\((eqC (Fr.add i3.1 i3.2) (Fr.add r s)))))) ((eqN (Fr.add r s))))) (by kernel_rfl) ?_;conv=>zeta
 delta ifB;have h1:=r.nlz;have h2:=r.nld;have lr:=AK r.d;have lz:=AK r.z.natAbs;have h3:=s.nlz;have h4:=s.nld;have ls:=AK s.d;have lw:=AK s.z.natAbs
 refine⟨(decide (r.z<0),(L r.z.natAbs),(L r.d),r.good),by
  rfl,by
  try dsimp only[AO]
  exact⟨B8 _ (by omega),B8 _ (by omega),by omega,by omega,CA _⟩,?_⟩
 refine And.symm ⟨λc4=>?_,λc4=>?_⟩;simp only[nrm]at c4;have hE:Fr.add r s=Fr.none:=Fr.bin_bad _ (.inl (D6 c4));refine BV ?_;rw[hE];simp only[nrm]at c4
 refine⟨(decide (s.z<0),(L s.z.natAbs),(L s.d),s.good),by
  rfl,by
  try dsimp only[AO]
  exact⟨B8 _ (by omega),B8 _ (by omega),by omega,by omega,CA _⟩,?_⟩
 refine⟨λc8=>?_,λc8=>?_⟩;simp only[nrm]at c8;have hE:Fr.add r s=Fr.none:=Fr.bin_bad _ (.inr (D6 c8));refine BV ?_;rw[hE];simp only[nrm]at c8
 refine⟨(r,s),by
  rfl,by
  exact⟨B4 c4,B4 c8⟩,?_⟩
 exact B0 rfl
def CF:Con:={ι:=Fr×Fr,pre:=λi=>True,args:=λi=>[dF i.1,dF i.2],res:=λi=>⟨false,[some 3],[rcB (decide ((Fr.sub i.1 i.2).z<0)),.own 3 [.int] (L (Fr.sub i.1 i.2).z.natAbs),.own 3 [.int] (L (Fr.sub i.1 i.2).d)]⟩}
theorem NM:CF.Ok Tryz.prog 93:=by
 refine fok (X:=⟨tt,[(97,AO),(128,Gw),(127,DN)],[],18,[]⟩) mixed AF (CTok.cons FA (CTok.cons WM (CTok.cons Ol (CTok.nil _)))) Tryz.func93 (λ_=>[]) ?_;rintro⟨r,s⟩ a0;have a0:True:=a0;refine AG (q:=let Z1:=List (List Dat);∃i1:Bool×Z1×Z1×Bool,[dF r]=AO.args i1/\AO.pre i1/\(ifB ((!(!i1.2.2.2))) (∃i2:Bool×Z1×Z1×Bool,[dF s]=AO.args i2/\AO.pre i2/\(ifB ((!i2.2.2.2)) ((eqN (Fr.sub r s))) (∃i3:Fr,[dF s]=Gw.args i3/\Gw.pre i3/\(∃i4:Fr×Fr,[dF r,dF i3.opp]=DN.args i4/\DN.pre i4/\((eqC (Fr.add i4.1 i4.2) (Fr.sub r s))))))) ((eqN (Fr.sub r s))))) (by kernel_rfl) ?_;conv=>zeta
 delta ifB;have h1:=r.nlz;have h2:=r.nld;have lr:=AK r.d;have lz:=AK r.z.natAbs;have h3:=s.nlz;have h4:=s.nld;have ls:=AK s.d;have lw:=AK s.z.natAbs
 refine⟨(decide (r.z<0),(L r.z.natAbs),(L r.d),r.good),by
  rfl,by
  try dsimp only[AO]
  exact⟨B8 _ (by omega),B8 _ (by omega),by omega,by omega,CA _⟩,?_⟩
 refine And.symm ⟨λc4=>?_,λc4=>?_⟩;simp only[nrm]at c4;have hE:Fr.sub r s=Fr.none:=Fr.bin_bad _ (.inl (D6 c4));refine BV ?_;rw[hE];simp only[nrm]at c4
 refine⟨(decide (s.z<0),(L s.z.natAbs),(L s.d),s.good),by
  rfl,by
  try dsimp only[AO]
  exact⟨B8 _ (by omega),B8 _ (by omega),by omega,by omega,CA _⟩,?_⟩
 refine⟨λc8=>?_,λc8=>?_⟩;simp only[nrm]at c8;have hE:Fr.sub r s=Fr.none:=Fr.bin_bad _ (.inr (D6 c8));refine BV ?_;rw[hE];simp only[nrm]at c8;have hE:=YM r s
 refine⟨s,by
  rfl,by
  trivial,?_⟩
 refine⟨(r,s.opp),by
  rfl,by
  exact⟨B4 c4,by rw[Fr.opp_d];exact B4 c8⟩,?_⟩
 refine B0 ?_;rw[hE]
def Fk:Con:={ι:=Fr×Fr,pre:=λi=>True,args:=λi=>[dF i.1,dF i.2],res:=λi=>⟨false,[some 3],[rcB (decide ((Fr.mul i.1 i.2).z<0)),.own 3 [.int] (L (Fr.mul i.1 i.2).z.natAbs),.own 3 [.int] (L (Fr.mul i.1 i.2).d)]⟩}
theorem Ta:Fk.Ok Tryz.prog 129:=by
 refine fok (X:=⟨tt,[(97,AO),(160,Gx)],[],17,[]⟩) mixed AF (CTok.cons FA (CTok.cons WN (CTok.nil _))) Tryz.func129 (λ_=>[]) ?_;rintro⟨r,s⟩ a0;have a0:True:=a0;refine AG (q:=let Z1:=List (List Dat);∃i1:Bool×Z1×Z1×Bool,[dF r]=AO.args i1/\AO.pre i1/\(ifB ((!(!i1.2.2.2))) (∃i2:Bool×Z1×Z1×Bool,[dF s]=AO.args i2/\AO.pre i2/\(ifB ((!i2.2.2.2)) ((eqN (Fr.mul r s))) (∃i3:Fr×Fr,[dF r,dF s]=Gx.args i3/\Gx.pre i3/\((eqC (Fr.mul i3.1 i3.2) (Fr.mul r s)))))) ((eqN (Fr.mul r s))))) (by kernel_rfl) ?_;conv=>zeta
 delta ifB;have h1:=r.nlz;have h2:=r.nld;have lr:=AK r.d;have lz:=AK r.z.natAbs;have h3:=s.nlz;have h4:=s.nld;have ls:=AK s.d;have lw:=AK s.z.natAbs
 refine⟨(decide (r.z<0),(L r.z.natAbs),(L r.d),r.good),by
  rfl,by
  try dsimp only[AO]
  exact⟨B8 _ (by omega),B8 _ (by omega),by omega,by omega,CA _⟩,?_⟩
 refine And.symm ⟨λc4=>?_,λc4=>?_⟩;simp only[nrm]at c4;have hE:Fr.mul r s=Fr.none:=Fr.bin_bad _ (.inl (D6 c4));refine BV ?_;rw[hE];simp only[nrm]at c4
 refine⟨(decide (s.z<0),(L s.z.natAbs),(L s.d),s.good),by
  rfl,by
  try dsimp only[AO]
  exact⟨B8 _ (by omega),B8 _ (by omega),by omega,by omega,CA _⟩,?_⟩
 refine⟨λc8=>?_,λc8=>?_⟩;simp only[nrm]at c8;have hE:Fr.mul r s=Fr.none:=Fr.bin_bad _ (.inr (D6 c8));refine BV ?_;rw[hE];simp only[nrm]at c8
 refine⟨(r,s),by
  rfl,by
  exact⟨B4 c4,B4 c8⟩,?_⟩
 exact B0 rfl
def Fl:Con:={ι:=Fr×Fr,pre:=λi=>True,args:=λi=>[dF i.1,dF i.2],res:=λi=>⟨false,[some 3],[rcB (decide ((Fr.div i.1 i.2).z<0)),.own 3 [.int] (L (Fr.div i.1 i.2).z.natAbs),.own 3 [.int] (L (Fr.div i.1 i.2).d)]⟩}
theorem Tb:Fl.Ok Tryz.prog 92:=by
 refine fok (X:=⟨tt,[(97,AO),(126,AT),(125,A1)],[],34,[]⟩) mixed AF (CTok.cons FA (CTok.cons E7 (CTok.cons Ih (CTok.nil _)))) Tryz.func92 (λ_=>[]) ?_;rintro⟨r,s⟩ a0;have a0:True:=a0;refine AG (q:=let Z1:=List (List Dat);∃i1:Bool×Z1×Z1×Bool,[dF r]=AO.args i1/\AO.pre i1/\(ifB ((!(!i1.2.2.2))) (∃i2:Bool×Z1×Z1×Bool,[dF s]=AO.args i2/\AO.pre i2/\(ifB ((!i2.2.2.2)) ((eqN (Fr.div r s))) (∃i3:Nat×Nat,[DA.one (cS (L r.z.natAbs)),DA.one (cS (L s.d))]=AT.args i3/\AT.pre i3/\(∃i4:Nat×Nat,[DA.one (cS (L r.d)),DA.one (cS (L s.z.natAbs))]=AT.args i4/\AT.pre i4/\(∃i5:Bool×Nat×Nat×Int,[DA.one (cB ((decide (r.z<0)) != (decide (s.z<0)))),DA.one (cS (L (i3.1*i3.2))),DA.one (cS (L (i4.1*i4.2)))]=A1.args i5/\A1.pre i5/\((eqC (FW i5.2.2.2 i5.2.2.1) (Fr.div r s)))))))) ((eqN (Fr.div r s))))) (by kernel_rfl) ?_;conv=>zeta
 delta ifB;have h1:=r.nlz;have h2:=r.nld;have lr:=AK r.d;have lz:=AK r.z.natAbs;have h3:=s.nlz;have h4:=s.nld;have ls:=AK s.d;have lw:=AK s.z.natAbs
 refine⟨(decide (r.z<0),(L r.z.natAbs),(L r.d),r.good),by
  rfl,by
  try dsimp only[AO]
  exact⟨B8 _ (by omega),B8 _ (by omega),by omega,by omega,CA _⟩,?_⟩
 refine And.symm ⟨λc4=>?_,λc4=>?_⟩;simp only[nrm]at c4;have hE:Fr.div r s=Fr.none:=Fr.bin_bad _ (.inl (D6 c4));refine BV ?_;rw[hE];simp only[nrm]at c4
 refine⟨(decide (s.z<0),(L s.z.natAbs),(L s.d),s.good),by
  rfl,by
  try dsimp only[AO]
  exact⟨B8 _ (by omega),B8 _ (by omega),by omega,by omega,CA _⟩,?_⟩
 refine⟨λc8=>?_,λc8=>?_⟩;simp only[nrm]at c8;have hE:Fr.div r s=Fr.none:=Fr.bin_bad _ (.inr (D6 c8));refine BV ?_;rw[hE];simp only[nrm]at c8;have m0:=Az r.z.natAbs s.d;have m00:=Az s.z.natAbs r.d;have m1:=Bc r.z ((s.d:Nat):Int);have m2:=Bc s.z ((r.d:Nat):Int);rw[Dt]at m1 m2;have m3:=FS (r.z*((s.d:Nat):Int)) (s.z*((r.d:Nat):Int));have m4:=Az r.d s.d;have m6:=Az r.d s.z.natAbs;have hE:=Zv (B4 c4) (B4 c8)
 refine⟨(r.z.natAbs,s.d),by
  rfl,by
  show nl r.z.natAbs<=524288/\nl s.d<=524288;exact⟨by omega,by omega⟩,?_⟩
 refine⟨(r.d,s.z.natAbs),by
  rfl,by
  show nl r.d<=524288/\nl s.z.natAbs<=524288;exact⟨by omega,by omega⟩,?_⟩
 refine⟨(((decide (r.z<0)) != (decide (s.z<0))),(r.z.natAbs*s.d),(r.d*s.z.natAbs),(zOf ((decide (r.z<0)) != (decide (s.z<0))) (r.z.natAbs*s.d))),by
  rfl,by
  try dsimp only[A1]
  exact⟨by omega,by omega,rfl⟩,?_⟩
 refine B0 ?_;rw[hE]
def Af:Con:={ι:=Fr×Fr,pre:=λi=>True,args:=λi=>[dF i.1,dF i.2],res:=λi=>⟨false,[none],[rcI (Fr.cmp i.1 i.2)]⟩}
theorem FX:Af.Ok Tryz.prog 55:=by
 refine fok (X:=⟨tt,[(97,AO),(98,Gy)],[],16,[]⟩) mixed AF (CTok.cons FA (CTok.cons WO (CTok.nil _))) Tryz.func55 (λ_=>[]) ?_;rintro⟨r,s⟩ a0;have a0:True:=a0;refine AG (q:=let Z2:=(vI (0:Int)=vI (Fr.cmp r s));let Z1:=List (List Dat);∃i1:Bool×Z1×Z1×Bool,[dF r]=AO.args i1/\AO.pre i1/\(ifB ((!(!i1.2.2.2))) (∃i2:Bool×Z1×Z1×Bool,[dF s]=AO.args i2/\AO.pre i2/\(ifB ((!i2.2.2.2)) Z2 (∃i3:Fr×Fr,[dF r,dF s]=Gy.args i3/\Gy.pre i3/\((vI (Fr.cmp i3.1 i3.2)=vI (Fr.cmp r s)))))) Z2)) (by kernel_rfl) ?_;conv=>zeta
 delta ifB vI;have h1:=r.nlz;have h2:=r.nld;have lr:=AK r.d;have lz:=AK r.z.natAbs;have h3:=s.nlz;have h4:=s.nld;have ls:=AK s.d;have lw:=AK s.z.natAbs
 refine⟨(decide (r.z<0),(L r.z.natAbs),(L r.d),r.good),by
  rfl,by
  try dsimp only[AO]
  exact⟨B8 _ (by omega),B8 _ (by omega),by omega,by omega,CA _⟩,?_⟩
 refine And.symm ⟨λc4=>?_,λc4=>?_⟩;simp only[nrm]at c4;have hE:Fr.cmp r s=0:=Fr.cmp_bad (.inl (D6 c4));rw[hE];simp only[nrm]at c4
 refine⟨(decide (s.z<0),(L s.z.natAbs),(L s.d),s.good),by
  rfl,by
  try dsimp only[AO]
  exact⟨B8 _ (by omega),B8 _ (by omega),by omega,by omega,CA _⟩,?_⟩
 refine⟨λc8=>?_,λc8=>?_⟩;simp only[nrm]at c8;have hE:Fr.cmp r s=0:=Fr.cmp_bad (.inr (D6 c8));rw[hE];simp only[nrm]at c8
 refine⟨(r,s),by
  rfl,by
  exact⟨B4 c4,B4 c8⟩,?_⟩
 exact rfl
end Go.Proofs.YthoidhehmmcgnaaGreat
