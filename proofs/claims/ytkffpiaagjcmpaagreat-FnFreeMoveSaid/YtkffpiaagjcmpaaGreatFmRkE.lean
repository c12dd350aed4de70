import Derived.Test.YtkffpiaagjcmpaaGreatFmRkD
namespace Go.Proofs.YtkffpiaagjcmpaaGreat
set_option maxRecDepth 100000
set_option linter.unusedVariables false
set_option linter.unusedSimpArgs false
open Go.RowKit
theorem Ib (z:Int) (d:Nat):zOf (decide (z<0)) (z.natAbs*d)=z*((d:Nat):Int):=by
 have h:=QT z ((d:Nat):Int)
 rw [Y4,Int.natAbs_natCast] at h
 rw [← h]
 cases decide (z<0) <;> rfl
theorem ABC {neg:Bool} {m k:Nat} (h:m=0->k=0):zOf (decide (zOf neg m<0)) k=zOf neg k:=by
 cases neg
 ·have:decide (zOf false m<0)=false:=decide_eq_false (by unfold zOf;simp)
  rw [this]
 ·by_cases hm:m=0
  ·rw [h hm];unfold zOf;simp
  ·have:decide (zOf true m<0)=true:=decide_eq_true (by unfold zOf;simp;omega)
   rw [this]
def GL (z:Int) (d:Nat):Fr:=if d=0 then Fr.none else Fr.mk' z d
theorem Ju {z:Int} {d:Nat} (h:d≠0):GL z d=Fr.mk' z d:=by unfold GL;rw [if_neg h]
theorem Y7 {z:Int} {d:Nat} (h:d=0):GL z d=Fr.none:=by unfold GL;rw [if_pos h]
theorem El {neg:Bool} {m d M D:Nat} {z:Int} (hz:zOf neg m=z) (hd:d≠0) (eM:m/m.gcd d=M) (eD:d/m.gcd d=D) (h1:nl M<=24) (h2:nl D<=24):(GL z d).z=zOf neg M/\(GL z d).d=D:=by
 have ha:z.natAbs=m:=by rw [← hz,C5]
 have hf:=EL (z:=z) hd (by rw [ha,eM];exact h1) (by rw [ha,eD];exact h2)
 rw [Ju hd]
 rw [ha,eM,eD] at hf
 refine ⟨?_,hf.2.2⟩
 rw [← FI (Fr.mk' z d).z,hf.1,hf.2.1,← hz]
 exact ABC λ e=>by rw [← eM,e,Nat.zero_div]
theorem E3 {neg:Bool} {m d M D:Nat} {z:Int} (hz:zOf neg m=z) (hd:d≠0) (eM:m/m.gcd d=M) (eD:d/m.gcd d=D) (h:¬ (nl M<=24/\nl D<=24)):GL z d=Fr.none:=by
 have ha:z.natAbs=m:=by rw [← hz,C5]
 rw [Ju hd,FJ hd (by rw [ha,eM,eD];exact h)]
theorem ACB:[[Dat.int (1:Int)]]=L 1:=Y0 (by decide) (by decide)
theorem Lx (e:Nat) {n:Nat} (h:nl n<=9223372036854775807):Dat.has (.sl e [.int]) (.sl (L n)):=by
 refine ⟨by rw [AV];exact h,λ k hk=>?_⟩
 unfold L
 rw [NV (by rw [AV] at hk;exact hk)]
 simp [hasRow,Dat.has]
theorem Ic (r:Fr):Bh (decide (r.z<0)) (L r.z.natAbs) (L r.d)=r.good:=by
 rw [← Fr.neg_z,← Fr.num_z,← Fr.den_d];exact Ws r
theorem UM {m:List (List Dat)} (h:BA m=true):BX true m=decide (((m.length:Nat):Int)>(0:Int)):=by
 rw [Ng h]
 by_cases hv:m.length=0
 ·rw [hv];rfl
 ·rw [decide_eq_true (by omega)]
  have:((((m.length:Nat):Int)) == (0:Int))=false:=by rw [beq_eq_false_iff_ne];omega
  rw [this];rfl
theorem Y8 {r s:Fr} (hr:r.d=1) (hs:s.d=1):Fr.add r s=GL (r.z+s.z) 1:=by
 rw [Fr.add_zd (by omega) (by omega),Ju (by decide),hr,hs]
 show Fr.mk' (r.z*1+s.z*1) (1*1)=_
 rw [Int.mul_one,Int.mul_one]
theorem Vf {r s:Fr} (hr:r.d≠0) (hs:s.d≠0):Fr.add r s=GL (r.z*((s.d:Nat):Int)+s.z*((r.d:Nat):Int)) (r.d*s.d):=by
 rw [Fr.add_zd hr hs,Ju (Nat.mul_ne_zero hr hs)]
def Ba:Con:={ ι:=Bool×(List (List Dat)),pre:=λ i=>i.2.length<=9223372036854775807,args:=λ i=>[DA.agg [cB i.1,cS i.2]],res:=λ i=>⟨false,[none],[rcB (BX i.1 i.2)]⟩ }
theorem Jv:Ba.Ok Tryz.prog 164:=by
 refine fok (X:=⟨tt,[(165,CH)],[],17,[]⟩) mixed AI (CTok.cons K6 (CTok.nil _)) Tryz.func164 (λ _=>[]) ?_
 rintro ⟨neg,m⟩ hpre
 have hpre:m.length<=9223372036854775807:=hpre
 refine AH (q:=let Z1:=BX neg m;∃ i1:(List (List Dat)),[DA.one (cS m)]=CH.args i1/\CH.pre i1/\(ifB ((BA i1)) (ifB ((!(!neg))) ((vB (decide ((nI m.length)>(0:Int)))=vB Z1)) ((vB true=vB Z1))) ((vB false=vB Z1)))) (by kernel_rfl) ?_
 conv=>zeta
 delta ifB vB nI
 refine ⟨m,by
  rfl,by
  trivial,?_⟩
 refine And.symm ⟨λ c4=>?_,λ c4=>?_⟩
 ·try simp only [nrm] at c4
  unfold BX;rw [c4];rfl
 try simp only [nrm] at c4
 refine ⟨λ c5=>?_,λ c5=>?_⟩
 ·try simp only [nrm] at c5
  rw [c5,UM c4];done
 try simp only [nrm] at c5
 unfold BX;rw [c4,c5];rfl
def AS:Con:={ ι:=Bool×Nat×Int,pre:=λ i=>nl i.2.1<=60/\zOf i.1 i.2.1=i.2.2,args:=λ i=>[.one (cB i.1),.one (cS (L i.2.1))],res:=λ i=>⟨false,[some 2],[rcB (decide (i.2.2<0)),.own 3 [.int] (L i.2.2.natAbs)]⟩ }
theorem Gv:AS.Ok Tryz.prog 170:=by
 refine fok (X:=⟨tt,[(200,Gt)],[],18,[]⟩) mixed AI (CTok.cons W1 (CTok.nil _)) Tryz.func170 (λ _=>[]) ?_
 rintro ⟨neg,m,z⟩ hpre
 have hpre:nl m<=60/\zOf neg m=z:=hpre
 refine AH (q:=∃ i1:Nat,let Z1:=(([]:List (List Dat))++L i1)=L z.natAbs;[DA.one (cS (L m))]=Gt.args i1/\Gt.pre i1/\(ifB (neg) ((([]:List (List Dat)).length+(L i1).length<=2199023255552)/\((vB (decide ((nI ((L i1).length))>(0:Int)))=vB (decide (z<0)))/\Z1)) ((([]:List (List Dat)).length+(L i1).length<=2199023255552)/\((vB false=vB (decide (z<0)))/\Z1)))) (by kernel_rfl) ?_
 conv=>zeta
 delta ifB vB nI
 refine ⟨m,by
  rfl,by
  exact hpre.1,?_⟩
 refine ⟨λ c4=>?_,λ c4=>?_⟩
 ·try simp only [nrm] at c4
  refine ao (by first|(rw [AV];simp only [List.length_nil];omega)) λ o5=>?_
  refine ⟨?_,?_⟩
  ·rw [← hpre.2]
   rw [MU,c4];rfl
  rw [← hpre.2]
  rw [C5];exact List.nil_append _
 try simp only [nrm] at c4
 refine ao (by first|(rw [AV];simp only [List.length_nil];omega)) λ o8=>?_
 refine ⟨?_,?_⟩
 ·rw [← hpre.2]
  rw [MU,c4];rfl
 rw [← hpre.2]
 rw [C5];exact List.nil_append _
def Bb:Con:={ ι:=Int,pre:=λ i=>-9223372036854775808<=i/\i<=9223372036854775807,args:=λ i=>[.one (cI i)],res:=λ i=>⟨false,[some 2],[rcB (decide (i<0)),.own 3 [.int] (L i.natAbs)]⟩ }
theorem Jw:Bb.Ok Tryz.prog 137:=by
 refine fok (X:=⟨tt,[(170,AS),(172,A2)],[],16,[]⟩) mixed AI (CTok.cons Gv (CTok.cons IZ (CTok.nil _))) Tryz.func137 (λ _=>[]) ?_
 intro (n:Int) hpre
 have hpre:-9223372036854775808<=n/\n<=9223372036854775807:=hpre
 refine AH (q:=let Z1:=decide (n<0);ifB ((n == (-9223372036854775808:Int))) (∃ i1:Bool×Nat×Int,[DA.one (cB true),DA.one (cS ([[Dat.int (854775808:Int)],[Dat.int (223372036:Int)],[Dat.int (9:Int)]]:List (List Dat)))]=AS.args i1/\AS.pre i1/\((vB (decide (i1.2.2<0))=vB Z1)/\(L i1.2.2.natAbs=L n.natAbs))) (ifB ((decide (n<(0:Int)))) (∃ i2:Nat,[DA.one (cI (wR (0-n)))]=A2.args i2/\A2.pre i2/\(∃ i3:Bool×Nat×Int,[DA.one (cB true),DA.one (cS (L i2))]=AS.args i3/\AS.pre i3/\((vB (decide (i3.2.2<0))=vB Z1)/\(L i3.2.2.natAbs=L n.natAbs)))) (∃ i4:Nat,[DA.one (cI n)]=A2.args i4/\A2.pre i4/\(∃ i5:Bool×Nat×Int,[DA.one (cB false),DA.one (cS (L i4))]=AS.args i5/\AS.pre i5/\((vB (decide (i5.2.2<0))=vB Z1)/\(L i5.2.2.natAbs=L n.natAbs)))))) (by kernel_rfl) ?_
 conv=>zeta
 delta ifB vB wR
 refine ⟨λ c1=>?_,λ c1=>?_⟩
 ·try simp only [nrm] at c1
  refine ⟨(true,9223372036854775808,n),by
   rw [AED];rfl,by
   show nl 9223372036854775808<=60/\zOf true 9223372036854775808=n
   exact ⟨Nat.le_trans ((Dp 3 _).2 (by decide)) (by decide),by unfold zOf;rw [if_pos rfl];omega⟩,?_⟩
  exact ⟨rfl,rfl⟩
 try simp only [nrm] at c1
 refine ⟨λ c7=>?_,λ c7=>?_⟩
 ·try simp only [nrm] at c7
  have en:IntKind.i64.wrap (0-n)=(((-n).toNat:Nat):Int):=by rw [AB (by omega) (by omega)];omega
  have ea:n.natAbs=(-n).toNat:=by omega
  refine ⟨(-n).toNat,by
   rw [en];rfl,by
   show ((-n).toNat)<=9223372036854775807
   omega,?_⟩
  refine ⟨(true,(-n).toNat,n),by
   rfl,by
   show nl ((-n).toNat)<=60/\zOf true ((-n).toNat)=n
   exact ⟨Nat.le_trans (by rw [← ea];exact CQ hpre) (by decide),by unfold zOf;rw [if_pos rfl];omega⟩,?_⟩
  exact ⟨rfl,rfl⟩
 try simp only [nrm] at c7
 have en:n=((n.toNat:Nat):Int):=by omega
 have ea:n.natAbs=n.toNat:=by omega
 refine ⟨n.toNat,by
  show [DA.one (DC.im (Value.int .i64 n))]=[DA.one (DC.im (Value.int .i64 ((n.toNat:Nat):Int)))]
  rw [← en],by
  show n.toNat<=9223372036854775807
  omega,?_⟩
 refine ⟨(false,n.toNat,n),by
  rfl,by
  show nl n.toNat<=60/\zOf false n.toNat=n
  exact ⟨Nat.le_trans (by rw [← ea];exact CQ hpre) (by decide),by unfold zOf;rw [if_neg (by decide)];omega⟩,?_⟩
 exact ⟨rfl,rfl⟩
def Ct:Con:={ ι:=Int×Int,pre:=λ i=>nl i.1.natAbs<=59/\nl i.2.natAbs<=59,args:=λ i=>[dB i.1,dB i.2],res:=λ i=>⟨false,[some 2],[rcB (decide ((i.1+i.2)<0)),.own 3 [.int] (L (i.1+i.2).natAbs)]⟩ }
theorem W3:Ct.Ok Tryz.prog 168:=by
 refine fok (X:=⟨tt,[(196,Gu),(170,AS),(197,BY),(198,CI)],[],40,[]⟩) mixed AI (CTok.cons W2 (CTok.cons Gv (CTok.cons Ia (CTok.cons PS (CTok.nil _))))) Tryz.func168 (λ _=>[]) ?_
 rintro ⟨x,y⟩ hpre
 have hpre:nl x.natAbs<=59/\nl y.natAbs<=59:=hpre
 refine AH (q:=let Z4:=decide (x<0);let Z3:=decide ((x+y)<0);let Z2:=cS (L y.natAbs);let Z1:=cS (L x.natAbs);ifB ((Z4 == (decide (y<0)))) (∃ i1:Nat×Nat,[DA.one Z1,DA.one Z2]=Gu.args i1/\Gu.pre i1/\(∃ i2:Bool×Nat×Int,[DA.one (cB Z4),DA.one (cS (L (i1.1+i1.2)))]=AS.args i2/\AS.pre i2/\((vB (decide (i2.2.2<0))=vB Z3)/\(L i2.2.2.natAbs=L (x+y).natAbs)))) (∃ i3:Nat×Nat,[DA.one Z1,DA.one Z2]=BY.args i3/\BY.pre i3/\(ifB ((decide ((Ch i3.1 i3.2)≥(0:Int)))) (∃ i4:Nat×Nat,[DA.one Z1,DA.one Z2]=CI.args i4/\CI.pre i4/\(∃ i5:Bool×Nat×Int,[DA.one (cB Z4),DA.one (cS (L (i4.1-i4.2)))]=AS.args i5/\AS.pre i5/\((vB (decide (i5.2.2<0))=vB Z3)/\(L i5.2.2.natAbs=L (x+y).natAbs)))) (∃ i6:Nat×Nat,[DA.one Z2,DA.one Z1]=CI.args i6/\CI.pre i6/\(∃ i7:Bool×Nat×Int,[DA.one (cB (decide (y<0))),DA.one (cS (L (i6.1-i6.2)))]=AS.args i7/\AS.pre i7/\((vB (decide (i7.2.2<0))=vB Z3)/\(L i7.2.2.natAbs=L (x+y).natAbs))))))) (by kernel_rfl) ?_
 conv=>zeta
 delta ifB vB
 have hs:=Kx x.natAbs y.natAbs
 have hs1:=C2 (Nat.sub_le x.natAbs y.natAbs)
 have hs2:=C2 (Nat.sub_le y.natAbs x.natAbs)
 refine ⟨λ c1=>?_,λ c1=>?_⟩
 ·try simp only [nrm] at c1
  refine ⟨(x.natAbs,y.natAbs),by
   rfl,by
   show nl x.natAbs<=1048576/\nl y.natAbs<=1048576
   exact ⟨by omega,by omega⟩,?_⟩
  refine ⟨(decide (x<0),x.natAbs+y.natAbs,x+y),by
   rfl,by
   show nl (x.natAbs+y.natAbs)<=60/\zOf (decide (x<0)) (x.natAbs+y.natAbs)=(x+y)
   exact ⟨by omega,Nb c1⟩,?_⟩
  exact ⟨rfl,rfl⟩
 try simp only [nrm] at c1
 refine ⟨(x.natAbs,y.natAbs),by
  rfl,by
  show nl x.natAbs<=1048576/\nl y.natAbs<=1048576
  exact ⟨by omega,by omega⟩,?_⟩
 refine ⟨λ c13=>?_,λ c13=>?_⟩
 ·try simp only [nrm] at c13
  refine ⟨(x.natAbs,y.natAbs),by
   rfl,by
   show nl x.natAbs<=1048576/\nl y.natAbs<=1048576/\y.natAbs<=x.natAbs
   exact ⟨by omega,by omega,FH.1 c13⟩,?_⟩
  refine ⟨(decide (x<0),x.natAbs-y.natAbs,x+y),by
   rfl,by
   show nl (x.natAbs-y.natAbs)<=60/\zOf (decide (x<0)) (x.natAbs-y.natAbs)=(x+y)
   exact ⟨by omega,Js c1 (FH.1 c13)⟩,?_⟩
  exact ⟨rfl,rfl⟩
 try simp only [nrm] at c13
 refine ⟨(y.natAbs,x.natAbs),by
  rfl,by
  show nl y.natAbs<=1048576/\nl x.natAbs<=1048576/\x.natAbs<=y.natAbs
  exact ⟨by omega,by omega,Nat.le_of_lt (Ds.1 c13)⟩,?_⟩
 refine ⟨(decide (y<0),y.natAbs-x.natAbs,x+y),by
  rfl,by
  show nl (y.natAbs-x.natAbs)<=60/\zOf (decide (y<0)) (y.natAbs-x.natAbs)=(x+y)
  exact ⟨by omega,Nc c1 (Nat.le_of_lt (Ds.1 c13))⟩,?_⟩
 exact ⟨rfl,rfl⟩
def BS:Con:={ ι:=Nat,pre:=λ i=>True,args:=λ i=>[.one (cS (L i))],res:=λ i=>⟨false,[none],[rcB (decide (i=1))]⟩ }
theorem K8:BS.Ok Tryz.prog 166:=by
 refine fok (X:=⟨tt,[],[],12,[]⟩) mixed AI (CTok.nil _) Tryz.func166 (λ _=>[]) ?_
 intro (a:Nat) hpre
 have hpre:True:=hpre
 refine AH (q:=ifB (((nI ((L a).length)) == (1:Int))) ((0<=(0:Int)/\(0:Int)<((L a).length:Int))/\((0<(L a).length)/\((vB (((((L a).getD 0 []).getD 0 (.int 0))).n == (1:Int))=vB (decide (a=1)))))) ((vB false=vB (decide (a=1))))) (by kernel_rfl) ?_
 delta ifB vB nI
 have ha:=AV a
 refine And.symm ⟨λ c1=>?_,λ c1=>?_⟩
 ·try simp only [nrm] at c1
  exact congrArg Value.bool (decide_eq_false (λ e=>by subst e;rw [UI] at ha;omega)).symm
 try simp only [nrm] at c1
 have h1:=Hx (b:=a) (by omega)
 refine ao (by omega) λ o2=>?_
 refine ao (by omega) λ o3=>?_
 rw [L_n,h1.1]
 exact congrArg Value.bool (by rw [Bool.eq_iff_iff,beq_iff_eq,decide_eq_true_iff];omega)
def BZ:Con:={ ι:=Bool×Nat×Nat×Int,pre:=λ i=>nl i.2.1<=1000/\nl i.2.2.1<=1000/\zOf i.1 i.2.1=i.2.2.2,args:=λ i=>[.one (cB i.1),.one (cS (L i.2.1)),.one (cS (L i.2.2.1))],res:=λ i=>⟨false,[some 3],[rcB (decide ((GL i.2.2.2 i.2.2.1).z<0)),.own 3 [.int] (L (GL i.2.2.2 i.2.2.1).z.natAbs),.own 3 [.int] (L (GL i.2.2.2 i.2.2.1).d)]⟩ }
theorem PV:BZ.Ok Tryz.prog 169:=by
 refine fok (X:=⟨tt,[(199,AY),(166,BS),(167,DY),(195,Bt),(170,AS)],[],55,[]⟩) mixed AI (CTok.cons EC (CTok.cons K8 (CTok.cons PU (CTok.cons PT (CTok.cons Gv (CTok.nil _)))))) Tryz.func169 (λ _=>[]) ?_
 rintro ⟨neg,m,d,z⟩ hpre
 have hpre:nl m<=1000/\nl d<=1000/\zOf neg m=z:=hpre
 refine AH (q:=let Z9:=List Dat;let Z1:=GL z d;let Z7:=decide (Z1.z<0);let Z6:=(eqN Z1);∃ i1:(List Nat)×Nat,let Z8:=cS (L i1.2);let Z2:=(!(decide ((nI ((L i1.2).length))>(24:Int))));[DA.one (cS (L m))]=AY.args i1/\AY.pre i1/\(∃ i2:(List Nat)×Nat,let Z4:=(([]:List Z9)++L i2.2)=L Z1.d;let Z3:=(decide ((nI ((L i2.2).length))>(24:Int)));[DA.one (cS (L d))]=AY.args i2/\AY.pre i2/\(ifB (((nI ((L i2.2).length)) == (0:Int))) Z6 (∃ i3:Nat,[DA.one (cS (L i2.2))]=BS.args i3/\BS.pre i3/\(ifB ((!(decide (i3=1)))) (∃ i4:Nat×Nat,let Z5:=cS (L (i4.1.gcd i4.2));[DA.one Z8,DA.one (cS (L i2.2))]=DY.args i4/\DY.pre i4/\(∃ i5:Nat,[DA.one Z5]=BS.args i5/\BS.pre i5/\(ifB ((!(decide (i5=1)))) (∃ i6:Nat×Nat,[DA.one Z8,DA.one Z5]=Bt.args i6/\Bt.pre i6/\(∃ i7:Nat×Nat,[DA.one (cS (L i2.2)),DA.one Z5]=Bt.args i7/\Bt.pre i7/\(ifB ((!(decide ((nI ((L (i6.1/i6.2)).length))>(24:Int))))) (ifB ((decide ((nI ((L (i7.1/i7.2)).length))>(24:Int)))) Z6 (∃ i8:Bool×Nat×Int,[DA.one (cB neg),DA.one (cS (L (i6.1/i6.2)))]=AS.args i8/\AS.pre i8/\((([]:List Z9).length+(L (i7.1/i7.2)).length<=2199023255552)/\((vB (decide (i8.2.2<0))=vB Z7)/\(L i8.2.2.natAbs=L Z1.z.natAbs)/\((([]:List Z9)++L (i7.1/i7.2))=L Z1.d))))) Z6))) (ifB Z2 (ifB Z3 Z6 (∃ i9:Bool×Nat×Int,[DA.one (cB neg),DA.one Z8]=AS.args i9/\AS.pre i9/\((([]:List Z9).length+(L i2.2).length<=2199023255552)/\((vB (decide (i9.2.2<0))=vB Z7)/\(L i9.2.2.natAbs=L Z1.z.natAbs)/\Z4)))) Z6)))) (ifB Z2 (ifB Z3 Z6 (∃ i10:Bool×Nat×Int,[DA.one (cB neg),DA.one Z8]=AS.args i10/\AS.pre i10/\((([]:List Z9).length+(L i2.2).length<=2199023255552)/\((vB (decide (i10.2.2<0))=vB Z7)/\(L i10.2.2.natAbs=L Z1.z.natAbs)/\Z4)))) Z6)))))) (by kernel_rfl) ?_
 conv=>zeta
 delta ifB vB nI
 refine ⟨(dig m,m),by
  rfl,by
  exact ⟨by show nl _<=_;omega,NR _,GB _⟩,?_⟩
 refine ⟨(dig d,d),by
  rfl,by
  exact ⟨by show nl _<=_;omega,NR _,GB _⟩,?_⟩
 refine ⟨λ c7=>?_,λ c7=>?_⟩
 ·try simp only [nrm] at c7
  have hE:GL z d=Fr.none:=Y7 (Hz (by omega))
  refine Bd ?_
  rw [hE];done
 try simp only [nrm] at c7
 have hd:d≠0:=λ e=>by subst e;rw [AV,Ca] at c7;omega
 have hg:=Ve (a:=m) hd
 refine ⟨d,by
  rfl,by
  trivial,?_⟩
 refine And.symm ⟨λ c14=>?_,λ c14=>?_⟩
 ·try simp only [nrm] at c14
  have e1:m.gcd d=1:=by rw [c14];exact Nat.gcd_one_right _
  have eM:m/m.gcd d=m:=by rw [e1,Nat.div_one]
  have eD:d/m.gcd d=d:=by rw [e1,Nat.div_one]
  have lm:=AV m
  have ld:=AV d
  refine And.symm ⟨λ c58=>?_,λ c58=>?_⟩
  ·try simp only [nrm] at c58
   refine Bd ?_
   rw [E3 hpre.2.2 hd eM eD (by omega)];done
  try simp only [nrm] at c58
  refine ⟨λ c59=>?_,λ c59=>?_⟩
  ·try simp only [nrm] at c59
   refine Bd ?_
   rw [E3 hpre.2.2 hd eM eD (by omega)];done
  try simp only [nrm] at c59
  refine ⟨(neg,m,(zOf neg m)),by
   rfl,by
   show nl m<=60/\zOf neg m=(zOf neg m)
   exact ⟨by omega,by omega⟩,?_⟩
  refine ao (a:=([]:List (List Dat)).length+(L d).length<=2199023255552) (by simp only [List.length_nil];omega) λ o66=>?_
  refine ⟨?_,?_,?_⟩
  ·rw [(El hpre.2.2 hd eM eD (by omega) (by omega)).1];done
  ·rw [(El hpre.2.2 hd eM eD (by omega) (by omega)).1];done
  rw [(El hpre.2.2 hd eM eD (by omega) (by omega)).2];exact List.nil_append _
 try simp only [nrm] at c14
 refine ⟨(m,d),by
  rfl,by
  show nl m<=131072/\nl d<=131072
  exact ⟨by omega,by omega⟩,?_⟩
 refine ⟨(m.gcd d),by
  rfl,by
  trivial,?_⟩
 refine And.symm ⟨λ c21=>?_,λ c21=>?_⟩
 ·try simp only [nrm] at c21
  have e1:m.gcd d=1:=c21
  have eM:m/m.gcd d=m:=by rw [e1,Nat.div_one]
  have eD:d/m.gcd d=d:=by rw [e1,Nat.div_one]
  have lm:=AV m
  have ld:=AV d
  refine And.symm ⟨λ c43=>?_,λ c43=>?_⟩
  ·try simp only [nrm] at c43
   refine Bd ?_
   rw [E3 hpre.2.2 hd eM eD (by omega)];done
  try simp only [nrm] at c43
  refine ⟨λ c44=>?_,λ c44=>?_⟩
  ·try simp only [nrm] at c44
   refine Bd ?_
   rw [E3 hpre.2.2 hd eM eD (by omega)];done
  try simp only [nrm] at c44
  refine ⟨(neg,m,(zOf neg m)),by
   rfl,by
   show nl m<=60/\zOf neg m=(zOf neg m)
   exact ⟨by omega,by omega⟩,?_⟩
  refine ao (a:=([]:List (List Dat)).length+(L d).length<=2199023255552) (by simp only [List.length_nil];omega) λ o51=>?_
  refine ⟨?_,?_,?_⟩
  ·rw [(El hpre.2.2 hd eM eD (by omega) (by omega)).1];done
  ·rw [(El hpre.2.2 hd eM eD (by omega) (by omega)).1];done
  rw [(El hpre.2.2 hd eM eD (by omega) (by omega)).2];exact List.nil_append _
 try simp only [nrm] at c21
 have eM:m/m.gcd d=m/m.gcd d:=rfl
 have eD:d/m.gcd d=d/m.gcd d:=rfl
 have lm:=AV (m/m.gcd d)
 have ld:=AV (d/m.gcd d)
 refine ⟨(m,(m.gcd d)),by
  rfl,by
  show (m.gcd d)≠0/\nl m<=131072/\nl (m.gcd d)<=131072
  exact ⟨by omega,by omega⟩,?_⟩
 refine ⟨(d,(m.gcd d)),by
  rfl,by
  show (m.gcd d)≠0/\nl d<=131072/\nl (m.gcd d)<=131072
  exact ⟨by omega,by omega⟩,?_⟩
 refine And.symm ⟨λ c28=>?_,λ c28=>?_⟩
 ·try simp only [nrm] at c28
  refine Bd ?_
  rw [E3 hpre.2.2 hd eM eD (by omega)];done
 try simp only [nrm] at c28
 refine ⟨λ c29=>?_,λ c29=>?_⟩
 ·try simp only [nrm] at c29
  refine Bd ?_
  rw [E3 hpre.2.2 hd eM eD (by omega)];done
 try simp only [nrm] at c29
 refine ⟨(neg,(m/(m.gcd d)),(zOf neg (m/(m.gcd d)))),by
  rfl,by
  show nl (m/(m.gcd d))<=60/\zOf neg (m/(m.gcd d))=(zOf neg (m/(m.gcd d)))
  exact ⟨by omega,by omega⟩,?_⟩
 refine ao (a:=([]:List (List Dat)).length+(L (d/(m.gcd d))).length<=2199023255552) (by simp only [List.length_nil];omega) λ o36=>?_
 refine ⟨?_,?_,?_⟩
 ·rw [(El hpre.2.2 hd eM eD (by omega) (by omega)).1];done
 ·rw [(El hpre.2.2 hd eM eD (by omega) (by omega)).1];done
 rw [(El hpre.2.2 hd eM eD (by omega) (by omega)).2];exact List.nil_append _
def Cu:Con:={ ι:=Bool×(List (List Dat))×(List (List Dat))×Bool,pre:=λ i=>Dat.has (.sl 3 [.int]) (.sl i.2.1)/\Dat.has (.sl 3 [.int]) (.sl i.2.2.1)/\i.2.1.length<=9223372036854775807/\i.2.2.1.length<=9223372036854775807/\Bh i.1 i.2.1 i.2.2.1=i.2.2.2,args:=λ i=>[DA.agg [cB i.1,cS i.2.1,cS i.2.2.1]],res:=λ i=>⟨false,[none],[rcB i.2.2.2]⟩ }
theorem W4:Cu.Ok Tryz.prog 134:=by
 refine fok (X:=⟨tt,[(164,Ba),(165,CH),(167,DY),(166,BS)],[],39,[]⟩) mixed AI (CTok.cons Jv (CTok.cons K6 (CTok.cons PU (CTok.cons K8 (CTok.nil _))))) Tryz.func134 (λ _=>[]) ?_
 rintro ⟨neg,m,d,b⟩ hpre
 have hpre:Dat.has (.sl 3 [.int]) (.sl m)/\Dat.has (.sl 3 [.int]) (.sl d)/\m.length<=9223372036854775807/\d.length<=9223372036854775807/\Bh neg m d=b:=hpre
 refine AH (q:=let Z1:=(vB false=vB b);∃ i1:Bool×(List (List Dat)),[DA.agg [cB neg,cS m]]=Ba.args i1/\Ba.pre i1/\(ifB ((!(!(BX i1.1 i1.2)))) (∃ i2:(List (List Dat)),[DA.one (cS d)]=CH.args i2/\CH.pre i2/\(ifB ((!(!(BA i2)))) (ifB ((!((nI d.length) == (0:Int)))) (ifB ((!(decide ((nI d.length)>(24:Int))))) (ifB ((decide ((nI m.length)>(24:Int)))) Z1 (∃ i3:Nat×Nat,[DA.one (cS m),DA.one (cS d)]=DY.args i3/\DY.pre i3/\(∃ i4:Nat,[DA.one (cS (L (i3.1.gcd i3.2)))]=BS.args i4/\BS.pre i4/\((vB (decide (i4=1))=vB b))))) Z1) Z1) Z1)) Z1)) (by kernel_rfl) ?_
 conv=>zeta
 delta ifB vB nI
 refine ⟨(neg,m),by
  rfl,by
  show m.length<=9223372036854775807
  omega,?_⟩
 refine And.symm ⟨λ c4=>?_,λ c4=>?_⟩
 ·try simp only [nrm] at c4
  have hE:false=b:=by rw [← hpre.2.2.2.2];exact (Cl (.inl c4)).symm
  rw [hE]
 try simp only [nrm] at c4
 refine ⟨d,by
  rfl,by
  show d.length<=9223372036854775807
  omega,?_⟩
 refine And.symm ⟨λ c8=>?_,λ c8=>?_⟩
 ·try simp only [nrm] at c8
  have hE:false=b:=by rw [← hpre.2.2.2.2];exact (Cl (.inr (.inl c8))).symm
  rw [hE]
 try simp only [nrm] at c8
 refine And.symm ⟨λ c9=>?_,λ c9=>?_⟩
 ·try simp only [nrm] at c9
  have hE:false=b:=by rw [← hpre.2.2.2.2];exact (Cl (.inr (.inr (.inl (by omega))))).symm
  rw [hE]
 try simp only [nrm] at c9
 refine And.symm ⟨λ c10=>?_,λ c10=>?_⟩
 ·try simp only [nrm] at c10
  have hE:false=b:=by rw [← hpre.2.2.2.2];exact (Cl (.inr (.inr (.inr (.inr (by omega)))))).symm
  rw [hE]
 try simp only [nrm] at c10
 refine ⟨λ c11=>?_,λ c11=>?_⟩
 ·try simp only [nrm] at c11
  have hE:false=b:=by rw [← hpre.2.2.2.2];exact (Cl (.inr (.inr (.inr (.inl (by omega)))))).symm
  rw [hE]
 try simp only [nrm] at c11
 obtain ⟨x,ea,na⟩:=D6 hpre.1 (Nh c4)
 obtain ⟨y,eb,nb⟩:=D6 hpre.2.1 c8
 have hR:=Ni c4 c8 (by omega) (by omega) (by omega)
 refine ⟨(x,y),by
  rw [ea,eb];rfl,by
  show nl x<=131072/\nl y<=131072
  exact ⟨by omega,by omega⟩,?_⟩
 refine ⟨(x.gcd y),by
  rfl,by
  trivial,?_⟩
 rw [← hpre.2.2.2.2,hR,ea,eb,DF,DF]
def B5:Con:={ ι:=Int,pre:=λ i=>-9223372036854775808<=i/\i<=9223372036854775807,args:=λ i=>[.one (cI i)],res:=λ i=>⟨false,[some 3],[rcB (decide ((Fr.ofInt i).z<0)),.own 3 [.int] (L (Fr.ofInt i).z.natAbs),.own 3 [.int] (L (Fr.ofInt i).d)]⟩ }
theorem Nj:B5.Ok Tryz.prog 133:=by
 refine fok (X:=⟨tt,[(137,Bb)],[],7,[]⟩) mixed AI (CTok.cons Jw (CTok.nil _)) Tryz.func133 (λ _=>[]) ?_
 intro (n:Int) hpre
 have hpre:-9223372036854775808<=n/\n<=9223372036854775807:=hpre
 refine AH (q:=∃ i1:Int,[DA.one (cI n)]=Bb.args i1/\Bb.pre i1/\((vB (decide (i1<0))=vB (decide ((Fr.ofInt n).z<0)))/\(L i1.natAbs=L (Fr.ofInt n).z.natAbs)/\(([[Dat.int (1:Int)]]:List (List Dat))=L (Fr.ofInt n).d))) (by kernel_rfl) ?_
 delta vB
 refine ⟨n,by
  rfl,by
  exact hpre,?_⟩
 refine ⟨?_,?_,?_⟩
 ·rw [(GJ (CQ hpre)).1];done
 ·rw [(GJ (CQ hpre)).1];done
 rw [(GJ (CQ hpre)).2];exact ACB
def Gw:Con:={ ι:=Fr×Fr,pre:=λ i=>i.1.d≠0/\i.2.d≠0,args:=λ i=>[dF i.1,dF i.2],res:=λ i=>⟨false,[some 3],[rcB (decide ((Fr.add i.1 i.2).z<0)),.own 3 [.int] (L (Fr.add i.1 i.2).z.natAbs),.own 3 [.int] (L (Fr.add i.1 i.2).d)]⟩ }
set_option maxHeartbeats 4000000 in
theorem W5:Gw.Ok Tryz.prog 135:=by
 refine fok (X:=⟨tt,[(166,BS),(168,Ct),(169,BZ),(171,Ar),(170,AS)],[],61,[]⟩) mixed AI (CTok.cons K8 (CTok.cons W3 (CTok.cons PV (CTok.cons K7 (CTok.cons Gv (CTok.nil _)))))) Tryz.func135 (λ _=>[]) ?_
 rintro ⟨r,s⟩ hpre
 have hpre:r.d≠0/\s.d≠0:=hpre
 refine AH (q:=let Z2:=cS (L s.d);let Z1:=cS (L r.d);∃ i1:Nat,[DA.one Z1]=BS.args i1/\BS.pre i1/\(ifB ((decide (i1=1))) (∃ i2:Nat,[DA.one Z2]=BS.args i2/\BS.pre i2/\(ifB ((decide (i2=1))) (∃ i3:Int×Int,[dB r.z,dB s.z]=Ct.args i3/\Ct.pre i3/\(∃ i4:Bool×Nat×Nat×Int,[DA.one (cB (decide ((i3.1+i3.2)<0))),DA.one (cS (L (i3.1+i3.2).natAbs)),DA.one (cS ([[Dat.int (1:Int)]]:List (List Dat)))]=BZ.args i4/\BZ.pre i4/\((eqC (GL i4.2.2.2 i4.2.2.1) (Fr.add r s))))) (∃ i5:Nat×Nat,[DA.one (cS (L r.z.natAbs)),DA.one Z2]=Ar.args i5/\Ar.pre i5/\(∃ i6:Bool×Nat×Int,[DA.one (cB (decide (r.z<0))),DA.one (cS (L (i5.1*i5.2)))]=AS.args i6/\AS.pre i6/\(∃ i7:Nat×Nat,[DA.one (cS (L s.z.natAbs)),DA.one Z1]=Ar.args i7/\Ar.pre i7/\(∃ i8:Bool×Nat×Int,[DA.one (cB (decide (s.z<0))),DA.one (cS (L (i7.1*i7.2)))]=AS.args i8/\AS.pre i8/\(∃ i9:Int×Int,[dB i6.2.2,dB i8.2.2]=Ct.args i9/\Ct.pre i9/\(∃ i10:Nat×Nat,[DA.one Z1,DA.one Z2]=Ar.args i10/\Ar.pre i10/\(∃ i11:Bool×Nat×Nat×Int,[DA.one (cB (decide ((i9.1+i9.2)<0))),DA.one (cS (L (i9.1+i9.2).natAbs)),DA.one (cS (L (i10.1*i10.2)))]=BZ.args i11/\BZ.pre i11/\((eqC (GL i11.2.2.2 i11.2.2.1) (Fr.add r s)))))))))))) (∃ i12:Nat×Nat,[DA.one (cS (L r.z.natAbs)),DA.one Z2]=Ar.args i12/\Ar.pre i12/\(∃ i13:Bool×Nat×Int,[DA.one (cB (decide (r.z<0))),DA.one (cS (L (i12.1*i12.2)))]=AS.args i13/\AS.pre i13/\(∃ i14:Nat×Nat,[DA.one (cS (L s.z.natAbs)),DA.one Z1]=Ar.args i14/\Ar.pre i14/\(∃ i15:Bool×Nat×Int,[DA.one (cB (decide (s.z<0))),DA.one (cS (L (i14.1*i14.2)))]=AS.args i15/\AS.pre i15/\(∃ i16:Int×Int,[dB i13.2.2,dB i15.2.2]=Ct.args i16/\Ct.pre i16/\(∃ i17:Nat×Nat,[DA.one Z1,DA.one Z2]=Ar.args i17/\Ar.pre i17/\(∃ i18:Bool×Nat×Nat×Int,[DA.one (cB (decide ((i16.1+i16.2)<0))),DA.one (cS (L (i16.1+i16.2).natAbs)),DA.one (cS (L (i17.1*i17.2)))]=BZ.args i18/\BZ.pre i18/\((eqC (GL i18.2.2.2 i18.2.2.1) (Fr.add r s)))))))))))) (by kernel_rfl) ?_
 conv=>zeta
 delta ifB
 have h1:=r.nlz
 have h2:=r.nld
 have lr:=AV r.d
 have lz:=AV r.z.natAbs
 have h3:=s.nlz
 have h4:=s.nld
 have ls:=AV s.d
 have lw:=AV s.z.natAbs
 have m0:=Br r.z.natAbs s.d
 have m00:=Br s.z.natAbs r.d
 have m1:=DX r.z ((s.d:Nat):Int)
 have m2:=DX s.z ((r.d:Nat):Int)
 rw [Gj] at m1 m2
 have m3:=JF (r.z*((s.d:Nat):Int)) (s.z*((r.d:Nat):Int))
 have m4:=Br r.d s.d
 have m6:=Br r.d s.z.natAbs
 refine ⟨r.d,by
  rfl,by
  trivial,?_⟩
 refine And.symm ⟨λ c4=>?_,λ c4=>?_⟩
 ·try simp only [nrm] at c4
  have hE:=Vf hpre.1 hpre.2
  refine ⟨(r.z.natAbs,s.d),by
   rfl,by
   show nl r.z.natAbs<=524288/\nl s.d<=524288
   exact ⟨by omega,by omega⟩,?_⟩
  refine ⟨(decide (r.z<0),r.z.natAbs*s.d,r.z*((s.d:Nat):Int)),by
   rfl,by
   show nl (r.z.natAbs*s.d)<=60/\zOf (decide (r.z<0)) (r.z.natAbs*s.d)=(r.z*((s.d:Nat):Int))
   exact ⟨by omega,Ib _ _⟩,?_⟩
  refine ⟨(s.z.natAbs,r.d),by
   rfl,by
   show nl s.z.natAbs<=524288/\nl r.d<=524288
   exact ⟨by omega,by omega⟩,?_⟩
  refine ⟨(decide (s.z<0),s.z.natAbs*r.d,s.z*((r.d:Nat):Int)),by
   rfl,by
   show nl (s.z.natAbs*r.d)<=60/\zOf (decide (s.z<0)) (s.z.natAbs*r.d)=(s.z*((r.d:Nat):Int))
   exact ⟨by omega,Ib _ _⟩,?_⟩
  refine ⟨((r.z*((s.d:Nat):Int)),(s.z*((r.d:Nat):Int))),by
   rfl,by
   show nl (r.z*((s.d:Nat):Int)).natAbs<=59/\nl (s.z*((r.d:Nat):Int)).natAbs<=59
   exact ⟨by omega,by omega⟩,?_⟩
  refine ⟨(r.d,s.d),by
   rfl,by
   show nl r.d<=524288/\nl s.d<=524288
   exact ⟨by omega,by omega⟩,?_⟩
  refine ⟨(decide (r.z*((s.d:Nat):Int)+s.z*((r.d:Nat):Int)<0),(r.z*((s.d:Nat):Int)+s.z*((r.d:Nat):Int)).natAbs,r.d*s.d,r.z*((s.d:Nat):Int)+s.z*((r.d:Nat):Int)),by
   rfl,by
   try dsimp only [BZ]
   exact ⟨by omega,by omega,FI _⟩,?_⟩
  refine CG ?_
  rw [hE]
 try simp only [nrm] at c4
 refine ⟨s.d,by
  rfl,by
  trivial,?_⟩
 refine ⟨λ c8=>?_,λ c8=>?_⟩
 ·try simp only [nrm] at c8
  have hE:=Y8 c4 c8
  refine ⟨(r.z,s.z),by
   rfl,by
   show nl r.z.natAbs<=59/\nl s.z.natAbs<=59
   exact ⟨by omega,by omega⟩,?_⟩
  refine ⟨(decide (r.z+s.z<0),(r.z+s.z).natAbs,1,r.z+s.z),by
   rw [ACB];rfl,by
   show nl ((r.z+s.z).natAbs)<=1000/\nl 1<=1000/\zOf (decide (r.z+s.z<0)) ((r.z+s.z).natAbs)=(r.z+s.z)
   have:=JF r.z s.z
   exact ⟨by omega,by rw [UI];decide,FI _⟩,?_⟩
  refine CG ?_
  rw [hE]
 try simp only [nrm] at c8
 have hE:=Vf hpre.1 hpre.2
 refine ⟨(r.z.natAbs,s.d),by
  rfl,by
  show nl r.z.natAbs<=524288/\nl s.d<=524288
  exact ⟨by omega,by omega⟩,?_⟩
 refine ⟨(decide (r.z<0),r.z.natAbs*s.d,r.z*((s.d:Nat):Int)),by
  rfl,by
  show nl (r.z.natAbs*s.d)<=60/\zOf (decide (r.z<0)) (r.z.natAbs*s.d)=(r.z*((s.d:Nat):Int))
  exact ⟨by omega,Ib _ _⟩,?_⟩
 refine ⟨(s.z.natAbs,r.d),by
  rfl,by
  show nl s.z.natAbs<=524288/\nl r.d<=524288
  exact ⟨by omega,by omega⟩,?_⟩
 refine ⟨(decide (s.z<0),s.z.natAbs*r.d,s.z*((r.d:Nat):Int)),by
  rfl,by
  show nl (s.z.natAbs*r.d)<=60/\zOf (decide (s.z<0)) (s.z.natAbs*r.d)=(s.z*((r.d:Nat):Int))
  exact ⟨by omega,Ib _ _⟩,?_⟩
 refine ⟨((r.z*((s.d:Nat):Int)),(s.z*((r.d:Nat):Int))),by
  rfl,by
  show nl (r.z*((s.d:Nat):Int)).natAbs<=59/\nl (s.z*((r.d:Nat):Int)).natAbs<=59
  exact ⟨by omega,by omega⟩,?_⟩
 refine ⟨(r.d,s.d),by
  rfl,by
  show nl r.d<=524288/\nl s.d<=524288
  exact ⟨by omega,by omega⟩,?_⟩
 refine ⟨(decide (r.z*((s.d:Nat):Int)+s.z*((r.d:Nat):Int)<0),(r.z*((s.d:Nat):Int)+s.z*((r.d:Nat):Int)).natAbs,r.d*s.d,r.z*((s.d:Nat):Int)+s.z*((r.d:Nat):Int)),by
  rfl,by
  try dsimp only [BZ]
  exact ⟨by omega,by omega,FI _⟩,?_⟩
 refine CG ?_
 rw [hE]
def Fg:Con:={ ι:=Fr×Fr,pre:=λ i=>True,args:=λ i=>[dF i.1,dF i.2],res:=λ i=>⟨false,[some 3],[rcB (decide ((Fr.add i.1 i.2).z<0)),.own 3 [.int] (L (Fr.add i.1 i.2).z.natAbs),.own 3 [.int] (L (Fr.add i.1 i.2).d)]⟩ }
theorem UN:Fg.Ok Tryz.prog 93:=by
 refine fok (X:=⟨tt,[(134,Cu),(135,Gw)],[],17,[]⟩) mixed AI (CTok.cons W4 (CTok.cons W5 (CTok.nil _))) Tryz.func93 (λ _=>[]) ?_
 rintro ⟨r,s⟩ hpre
 have hpre:True:=hpre
 refine AH (q:=let Z1:=List (List Dat);∃ i1:Bool×Z1×Z1×Bool,[dF r]=Cu.args i1/\Cu.pre i1/\(ifB ((!(!i1.2.2.2))) (∃ i2:Bool×Z1×Z1×Bool,[dF s]=Cu.args i2/\Cu.pre i2/\(ifB ((!i2.2.2.2)) ((eqN (Fr.add r s))) (∃ i3:Fr×Fr,[dF r,dF s]=Gw.args i3/\Gw.pre i3/\((eqC (Fr.add i3.1 i3.2) (Fr.add r s)))))) ((eqN (Fr.add r s))))) (by kernel_rfl) ?_
 conv=>zeta
 delta ifB
 have h1:=r.nlz
 have h2:=r.nld
 have lr:=AV r.d
 have lz:=AV r.z.natAbs
 have h3:=s.nlz
 have h4:=s.nld
 have ls:=AV s.d
 have lw:=AV s.z.natAbs
 refine ⟨(decide (r.z<0),(L r.z.natAbs),(L r.d),r.good),by
  rfl,by
  try dsimp only [Cu]
  exact ⟨Lx _ (by omega),Lx _ (by omega),by omega,by omega,Ic _⟩,?_⟩
 refine And.symm ⟨λ c4=>?_,λ c4=>?_⟩
 ·try simp only [nrm] at c4
  have hE:Fr.add r s=Fr.none:=Fr.bin_bad _ (.inl (GK c4))
  refine Bd ?_
  rw [hE];done
 try simp only [nrm] at c4
 refine ⟨(decide (s.z<0),(L s.z.natAbs),(L s.d),s.good),by
  rfl,by
  try dsimp only [Cu]
  exact ⟨Lx _ (by omega),Lx _ (by omega),by omega,by omega,Ic _⟩,?_⟩
 refine ⟨λ c8=>?_,λ c8=>?_⟩
 ·try simp only [nrm] at c8
  have hE:Fr.add r s=Fr.none:=Fr.bin_bad _ (.inr (GK c8))
  refine Bd ?_
  rw [hE];done
 try simp only [nrm] at c8
 refine ⟨(r,s),by
  rfl,by
  exact ⟨CP c4,CP c8⟩,?_⟩
 exact CG rfl
end Go.Proofs.YtkffpiaagjcmpaaGreat
