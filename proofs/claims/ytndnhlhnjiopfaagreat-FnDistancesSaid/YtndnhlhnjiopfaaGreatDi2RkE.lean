import Derived.Test.YtndnhlhnjiopfaaGreatDi2RkD
namespace Go.Proofs.YtndnhlhnjiopfaaGreat
set_option maxRecDepth 100000
set_option linter.unusedVariables false
set_option linter.unusedSimpArgs false
open Go.RowKit
theorem Hn (z:Int) (d:Nat):zOf (decide (z<0)) (z.natAbs*d)=z*((d:Nat):Int):=by
 have h:=N2 z ((d:Nat):Int)
 rw [VP,Int.natAbs_natCast] at h
 rw [← h]
 cases decide (z<0) <;> rfl
theorem We {neg:Bool} {m k:Nat} (h:m=0->k=0):zOf (decide (zOf neg m<0)) k=zOf neg k:=by
 cases neg
 ·have:decide (zOf false m<0)=false:=decide_eq_false (by unfold zOf;simp)
  rw [this]
 ·by_cases hm:m=0
  ·rw [h hm];unfold zOf;simp
  ·have:decide (zOf true m<0)=true:=decide_eq_true (by unfold zOf;simp;omega)
   rw [this]
def FT (z:Int) (d:Nat):Fr:=if d=0 then Fr.none else Fr.mk' z d
theorem Im {z:Int} {d:Nat} (h:d≠0):FT z d=Fr.mk' z d:=by unfold FT;rw [if_neg h]
theorem VR {z:Int} {d:Nat} (h:d=0):FT z d=Fr.none:=by unfold FT;rw [if_pos h]
theorem ES {neg:Bool} {m d M D:Nat} {z:Int} (hz:zOf neg m=z) (hd:d≠0) (eM:m/m.gcd d=M) (eD:d/m.gcd d=D) (h1:nl M<=24) (h2:nl D<=24):(FT z d).z=zOf neg M/\(FT z d).d=D:=by
 have ha:z.natAbs=m:=by rw [← hz,CZ]
 have hf:=Dz (z:=z) hd (by rw [ha,eM];exact h1) (by rw [ha,eD];exact h2)
 rw [Im hd]
 rw [ha,eM,eD] at hf
 refine ⟨?_,hf.2.2⟩
 rw [← Bd (Fr.mk' z d).z,hf.1,hf.2.1,← hz]
 exact We λ e=>by rw [← eM,e,Nat.zero_div]
theorem Ea {neg:Bool} {m d M D:Nat} {z:Int} (hz:zOf neg m=z) (hd:d≠0) (eM:m/m.gcd d=M) (eD:d/m.gcd d=D) (h:¬ (nl M<=24/\nl D<=24)):FT z d=Fr.none:=by
 have ha:z.natAbs=m:=by rw [← hz,CZ]
 rw [Im hd,Eo hd (by rw [ha,eM,eD];exact h)]
theorem XU:[[Dat.int (1:Int)]]=L 1:=VL (by decide) (by decide)
theorem Dg (e:Nat) {n:Nat} (h:nl n<=9223372036854775807):Dat.has (.sl e [.int]) (.sl (L n)):=by
 refine ⟨by rw [AL];exact h,λ k hk=>?_⟩
 unfold L
 rw [Lk (by rw [AL] at hk;exact hk)]
 simp [hasRow,Dat.has]
theorem CF (r:Fr):AZ (decide (r.z<0)) (L r.z.natAbs) (L r.d)=r.good:=by
 rw [← Fr.neg_z,← Fr.num_z,← Fr.den_d];exact TO r
theorem Q5 {m:List (List Dat)} (h:A5 m=true):Ai true m=decide (((m.length:Nat):Int)>(0:Int)):=by
 rw [Lv h]
 by_cases hv:m.length=0
 ·rw [hv];rfl
 ·rw [decide_eq_true (by omega)]
  have:((((m.length:Nat):Int)) == (0:Int))=false:=by rw [beq_eq_false_iff_ne];omega
  rw [this];rfl
theorem VS {r s:Fr} (hr:r.d=1) (hs:s.d=1):Fr.add r s=FT (r.z+s.z) 1:=by
 rw [Fr.add_zd (by omega) (by omega),Im (by decide),hr,hs]
 show Fr.mk' (r.z*1+s.z*1) (1*1)=_
 rw [Int.mul_one,Int.mul_one]
theorem SF {r s:Fr} (hr:r.d≠0) (hs:s.d≠0):Fr.add r s=FT (r.z*((s.d:Nat):Int)+s.z*((r.d:Nat):Int)) (r.d*s.d):=by
 rw [Fr.add_zd hr hs,Im (Nat.mul_ne_zero hr hs)]
def BO:Con:={ ι:=Bool×(List (List Dat)),pre:=λ i=>i.2.length<=9223372036854775807,args:=λ i=>[DA.agg [cB i.1,cS i.2]],res:=λ i=>⟨false,[none],[rcB (Ai i.1 i.2)]⟩ }
theorem Io:BO.Ok Tryz.prog 136:=by
 refine fok (X:=⟨tt,[(137,B8)],[],17,[]⟩) AG AH (CTok.cons Jg (CTok.nil _)) Tryz.func136 (λ _=>[]) ?_
 rintro ⟨neg,m⟩ hpre
 have hpre:m.length<=9223372036854775807:=hpre
 refine AF (q:=let Z1:=Ai neg m;∃ i1:(List (List Dat)),[DA.one (cS m)]=B8.args i1/\B8.pre i1/\(ifB ((A5 i1)) (ifB ((!(!neg))) ((vB (decide ((nI m.length)>(0:Int)))=vB Z1)) ((vB true=vB Z1))) ((vB false=vB Z1)))) (by kernel_rfl) ?_
 conv=>zeta
 delta ifB vB nI
 refine ⟨m,by
  rfl,by
  trivial,?_⟩
 refine And.symm ⟨λ c4=>?_,λ c4=>?_⟩
 ·try simp only [nrm] at c4
  unfold Ai;rw [c4];rfl
 try simp only [nrm] at c4
 refine ⟨λ c5=>?_,λ c5=>?_⟩
 ·try simp only [nrm] at c5
  rw [c5,Q5 c4];done
 try simp only [nrm] at c5
 unfold Ai;rw [c4,c5];rfl
def AP:Con:={ ι:=Bool×Nat×Int,pre:=λ i=>nl i.2.1<=60/\zOf i.1 i.2.1=i.2.2,args:=λ i=>[.one (cB i.1),.one (cS (L i.2.1))],res:=λ i=>⟨false,[some 2],[rcB (decide (i.2.2<0)),.own 3 [.int] (L i.2.2.natAbs)]⟩ }
theorem GR:AP.Ok Tryz.prog 142:=by
 refine fok (X:=⟨tt,[(159,GP)],[],18,[]⟩) AG AH (CTok.cons TX (CTok.nil _)) Tryz.func142 (λ _=>[]) ?_
 rintro ⟨neg,m,z⟩ hpre
 have hpre:nl m<=60/\zOf neg m=z:=hpre
 refine AF (q:=∃ i1:Nat,let Z1:=(([]:List (List Dat))++L i1)=L z.natAbs;[DA.one (cS (L m))]=GP.args i1/\GP.pre i1/\(ifB (neg) ((([]:List (List Dat)).length+(L i1).length<=2199023255552)/\((vB (decide ((nI ((L i1).length))>(0:Int)))=vB (decide (z<0)))/\Z1)) ((([]:List (List Dat)).length+(L i1).length<=2199023255552)/\((vB false=vB (decide (z<0)))/\Z1)))) (by kernel_rfl) ?_
 conv=>zeta
 delta ifB vB nI
 refine ⟨m,by
  rfl,by
  exact hpre.1,?_⟩
 refine ⟨λ c4=>?_,λ c4=>?_⟩
 ·try simp only [nrm] at c4
  refine ao (by first|(rw [AL];simp only [List.length_nil];omega)) λ o5=>?_
  refine ⟨?_,?_⟩
  ·rw [← hpre.2]
   rw [Ko,c4];rfl
  rw [← hpre.2]
  rw [CZ];exact List.nil_append _
 try simp only [nrm] at c4
 refine ao (by first|(rw [AL];simp only [List.length_nil];omega)) λ o8=>?_
 refine ⟨?_,?_⟩
 ·rw [← hpre.2]
  rw [Ko,c4];rfl
 rw [← hpre.2]
 rw [CZ];exact List.nil_append _
def BP:Con:={ ι:=Int,pre:=λ i=>-9223372036854775808<=i/\i<=9223372036854775807,args:=λ i=>[.one (cI i)],res:=λ i=>⟨false,[some 2],[rcB (decide (i<0)),.own 3 [.int] (L i.natAbs)]⟩ }
theorem Ip:BP.Ok Tryz.prog 108:=by
 refine fok (X:=⟨tt,[(142,AP),(144,Az)],[],16,[]⟩) AG AH (CTok.cons GR (CTok.cons Hl (CTok.nil _))) Tryz.func108 (λ _=>[]) ?_
 intro (n:Int) hpre
 have hpre:-9223372036854775808<=n/\n<=9223372036854775807:=hpre
 refine AF (q:=let Z1:=decide (n<0);ifB ((n == (-9223372036854775808:Int))) (∃ i1:Bool×Nat×Int,[DA.one (cB true),DA.one (cS ([[Dat.int (854775808:Int)],[Dat.int (223372036:Int)],[Dat.int (9:Int)]]:List (List Dat)))]=AP.args i1/\AP.pre i1/\((vB (decide (i1.2.2<0))=vB Z1)/\(L i1.2.2.natAbs=L n.natAbs))) (ifB ((decide (n<(0:Int)))) (∃ i2:Nat,[DA.one (cI (wR (0-n)))]=Az.args i2/\Az.pre i2/\(∃ i3:Bool×Nat×Int,[DA.one (cB true),DA.one (cS (L i2))]=AP.args i3/\AP.pre i3/\((vB (decide (i3.2.2<0))=vB Z1)/\(L i3.2.2.natAbs=L n.natAbs)))) (∃ i4:Nat,[DA.one (cI n)]=Az.args i4/\Az.pre i4/\(∃ i5:Bool×Nat×Int,[DA.one (cB false),DA.one (cS (L i4))]=AP.args i5/\AP.pre i5/\((vB (decide (i5.2.2<0))=vB Z1)/\(L i5.2.2.natAbs=L n.natAbs)))))) (by kernel_rfl) ?_
 conv=>zeta
 delta ifB vB wR
 refine ⟨λ c1=>?_,λ c1=>?_⟩
 ·try simp only [nrm] at c1
  refine ⟨(true,9223372036854775808,n),by
   rw [ZN];rfl,by
   show nl 9223372036854775808<=60/\zOf true 9223372036854775808=n
   exact ⟨Nat.le_trans ((DX 3 _).2 (by decide)) (by decide),by unfold zOf;rw [if_pos rfl];omega⟩,?_⟩
  exact ⟨rfl,rfl⟩
 try simp only [nrm] at c1
 refine ⟨λ c7=>?_,λ c7=>?_⟩
 ·try simp only [nrm] at c7
  have en:IntKind.i64.wrap (0-n)=(((-n).toNat:Nat):Int):=by rw [AB (by omega) (by omega)];omega
  have ea:n.natAbs=(-n).toNat:=by omega
  refine ⟨(-n).toNat,by
   rw [en];rfl,by
   show ((-n).toNat)<=9223372036854775807
   omega,?_⟩
  refine ⟨(true,(-n).toNat,n),by
   rfl,by
   show nl ((-n).toNat)<=60/\zOf true ((-n).toNat)=n
   exact ⟨Nat.le_trans (by rw [← ea];exact Bk hpre) (by decide),by unfold zOf;rw [if_pos rfl];omega⟩,?_⟩
  exact ⟨rfl,rfl⟩
 try simp only [nrm] at c7
 have en:n=((n.toNat:Nat):Int):=by omega
 have ea:n.natAbs=n.toNat:=by omega
 refine ⟨n.toNat,by
  show [DA.one (DC.im (Value.int .i64 n))]=[DA.one (DC.im (Value.int .i64 ((n.toNat:Nat):Int)))]
  rw [← en],by
  show n.toNat<=9223372036854775807
  omega,?_⟩
 refine ⟨(false,n.toNat,n),by
  rfl,by
  show nl n.toNat<=60/\zOf false n.toNat=n
  exact ⟨Nat.le_trans (by rw [← ea];exact Bk hpre) (by decide),by unfold zOf;rw [if_neg (by decide)];omega⟩,?_⟩
 exact ⟨rfl,rfl⟩
def Cg:Con:={ ι:=Int×Int,pre:=λ i=>nl i.1.natAbs<=59/\nl i.2.natAbs<=59,args:=λ i=>[dB i.1,dB i.2],res:=λ i=>⟨false,[some 2],[rcB (decide ((i.1+i.2)<0)),.own 3 [.int] (L (i.1+i.2).natAbs)]⟩ }
theorem TZ:Cg.Ok Tryz.prog 140:=by
 refine fok (X:=⟨tt,[(155,GQ),(142,AP),(156,BM),(157,B9)],[],40,[]⟩) AG AH (CTok.cons TY (CTok.cons GR (CTok.cons Hm (CTok.cons NH (CTok.nil _))))) Tryz.func140 (λ _=>[]) ?_
 rintro ⟨x,y⟩ hpre
 have hpre:nl x.natAbs<=59/\nl y.natAbs<=59:=hpre
 refine AF (q:=let Z4:=decide (x<0);let Z3:=decide ((x+y)<0);let Z2:=cS (L y.natAbs);let Z1:=cS (L x.natAbs);ifB ((Z4 == (decide (y<0)))) (∃ i1:Nat×Nat,[DA.one Z1,DA.one Z2]=GQ.args i1/\GQ.pre i1/\(∃ i2:Bool×Nat×Int,[DA.one (cB Z4),DA.one (cS (L (i1.1+i1.2)))]=AP.args i2/\AP.pre i2/\((vB (decide (i2.2.2<0))=vB Z3)/\(L i2.2.2.natAbs=L (x+y).natAbs)))) (∃ i3:Nat×Nat,[DA.one Z1,DA.one Z2]=BM.args i3/\BM.pre i3/\(ifB ((decide ((CS i3.1 i3.2)≥(0:Int)))) (∃ i4:Nat×Nat,[DA.one Z1,DA.one Z2]=B9.args i4/\B9.pre i4/\(∃ i5:Bool×Nat×Int,[DA.one (cB Z4),DA.one (cS (L (i4.1-i4.2)))]=AP.args i5/\AP.pre i5/\((vB (decide (i5.2.2<0))=vB Z3)/\(L i5.2.2.natAbs=L (x+y).natAbs)))) (∃ i6:Nat×Nat,[DA.one Z2,DA.one Z1]=B9.args i6/\B9.pre i6/\(∃ i7:Bool×Nat×Int,[DA.one (cB (decide (y<0))),DA.one (cS (L (i6.1-i6.2)))]=AP.args i7/\AP.pre i7/\((vB (decide (i7.2.2<0))=vB Z3)/\(L i7.2.2.natAbs=L (x+y).natAbs))))))) (by kernel_rfl) ?_
 conv=>zeta
 delta ifB vB
 have hs:=JY x.natAbs y.natAbs
 have hs1:=Cl (Nat.sub_le x.natAbs y.natAbs)
 have hs2:=Cl (Nat.sub_le y.natAbs x.natAbs)
 refine ⟨λ c1=>?_,λ c1=>?_⟩
 ·try simp only [nrm] at c1
  refine ⟨(x.natAbs,y.natAbs),by
   rfl,by
   show nl x.natAbs<=1048576/\nl y.natAbs<=1048576
   exact ⟨by omega,by omega⟩,?_⟩
  refine ⟨(decide (x<0),x.natAbs+y.natAbs,x+y),by
   rfl,by
   show nl (x.natAbs+y.natAbs)<=60/\zOf (decide (x<0)) (x.natAbs+y.natAbs)=(x+y)
   exact ⟨by omega,Lq c1⟩,?_⟩
  exact ⟨rfl,rfl⟩
 try simp only [nrm] at c1
 refine ⟨(x.natAbs,y.natAbs),by
  rfl,by
  show nl x.natAbs<=1048576/\nl y.natAbs<=1048576
  exact ⟨by omega,by omega⟩,?_⟩
 refine ⟨λ c13=>?_,λ c13=>?_⟩
 ·try simp only [nrm] at c13
  refine ⟨(x.natAbs,y.natAbs),by
   rfl,by
   show nl x.natAbs<=1048576/\nl y.natAbs<=1048576/\y.natAbs<=x.natAbs
   exact ⟨by omega,by omega,Em.1 c13⟩,?_⟩
  refine ⟨(decide (x<0),x.natAbs-y.natAbs,x+y),by
   rfl,by
   show nl (x.natAbs-y.natAbs)<=60/\zOf (decide (x<0)) (x.natAbs-y.natAbs)=(x+y)
   exact ⟨by omega,Ik c1 (Em.1 c13)⟩,?_⟩
  exact ⟨rfl,rfl⟩
 try simp only [nrm] at c13
 refine ⟨(y.natAbs,x.natAbs),by
  rfl,by
  show nl y.natAbs<=1048576/\nl x.natAbs<=1048576/\x.natAbs<=y.natAbs
  exact ⟨by omega,by omega,Nat.le_of_lt (Db.1 c13)⟩,?_⟩
 refine ⟨(decide (y<0),y.natAbs-x.natAbs,x+y),by
  rfl,by
  show nl (y.natAbs-x.natAbs)<=60/\zOf (decide (y<0)) (y.natAbs-x.natAbs)=(x+y)
  exact ⟨by omega,Lr c1 (Nat.le_of_lt (Db.1 c13))⟩,?_⟩
 exact ⟨rfl,rfl⟩
def BI:Con:={ ι:=Nat,pre:=λ i=>True,args:=λ i=>[.one (cS (L i))],res:=λ i=>⟨false,[none],[rcB (decide (i=1))]⟩ }
theorem Ji:BI.Ok Tryz.prog 138:=by
 refine fok (X:=⟨tt,[],[],12,[]⟩) AG AH (CTok.nil _) Tryz.func138 (λ _=>[]) ?_
 intro (a:Nat) hpre
 have hpre:True:=hpre
 refine AF (q:=ifB (((nI ((L a).length)) == (1:Int))) ((0<=(0:Int)/\(0:Int)<((L a).length:Int))/\((0<(L a).length)/\((vB (((((L a).getD 0 []).getD 0 (.int 0))).n == (1:Int))=vB (decide (a=1)))))) ((vB false=vB (decide (a=1))))) (by kernel_rfl) ?_
 delta ifB vB nI
 have ha:=AL a
 refine And.symm ⟨λ c1=>?_,λ c1=>?_⟩
 ·try simp only [nrm] at c1
  exact congrArg Value.bool (decide_eq_false (λ e=>by subst e;rw [Q0] at ha;omega)).symm
 try simp only [nrm] at c1
 have h1:=G1 (b:=a) (by omega)
 refine ao (by omega) λ o2=>?_
 refine ao (by omega) λ o3=>?_
 rw [L_n,h1.1]
 exact congrArg Value.bool (by rw [Bool.eq_iff_iff,beq_iff_eq,decide_eq_true_iff];omega)
def BN:Con:={ ι:=Bool×Nat×Nat×Int,pre:=λ i=>nl i.2.1<=1000/\nl i.2.2.1<=1000/\zOf i.1 i.2.1=i.2.2.2,args:=λ i=>[.one (cB i.1),.one (cS (L i.2.1)),.one (cS (L i.2.2.1))],res:=λ i=>⟨false,[some 3],[rcB (decide ((FT i.2.2.2 i.2.2.1).z<0)),.own 3 [.int] (L (FT i.2.2.2 i.2.2.1).z.natAbs),.own 3 [.int] (L (FT i.2.2.2 i.2.2.1).d)]⟩ }
theorem NK:BN.Ok Tryz.prog 141:=by
 refine fok (X:=⟨tt,[(158,AT),(138,BI),(139,DE),(154,Bf),(142,AP)],[],55,[]⟩) AG AH (CTok.cons Dp (CTok.cons Ji (CTok.cons NJ (CTok.cons NI (CTok.cons GR (CTok.nil _)))))) Tryz.func141 (λ _=>[]) ?_
 rintro ⟨neg,m,d,z⟩ hpre
 have hpre:nl m<=1000/\nl d<=1000/\zOf neg m=z:=hpre
 refine AF (q:=let Z9:=List Dat;let Z1:=FT z d;let Z7:=decide (Z1.z<0);let Z6:=(eqN Z1);∃ i1:(List Nat)×Nat,let Z8:=cS (L i1.2);let Z2:=(!(decide ((nI ((L i1.2).length))>(24:Int))));[DA.one (cS (L m))]=AT.args i1/\AT.pre i1/\(∃ i2:(List Nat)×Nat,let Z4:=(([]:List Z9)++L i2.2)=L Z1.d;let Z3:=(decide ((nI ((L i2.2).length))>(24:Int)));[DA.one (cS (L d))]=AT.args i2/\AT.pre i2/\(ifB (((nI ((L i2.2).length)) == (0:Int))) Z6 (∃ i3:Nat,[DA.one (cS (L i2.2))]=BI.args i3/\BI.pre i3/\(ifB ((!(decide (i3=1)))) (∃ i4:Nat×Nat,let Z5:=cS (L (i4.1.gcd i4.2));[DA.one Z8,DA.one (cS (L i2.2))]=DE.args i4/\DE.pre i4/\(∃ i5:Nat,[DA.one Z5]=BI.args i5/\BI.pre i5/\(ifB ((!(decide (i5=1)))) (∃ i6:Nat×Nat,[DA.one Z8,DA.one Z5]=Bf.args i6/\Bf.pre i6/\(∃ i7:Nat×Nat,[DA.one (cS (L i2.2)),DA.one Z5]=Bf.args i7/\Bf.pre i7/\(ifB ((!(decide ((nI ((L (i6.1/i6.2)).length))>(24:Int))))) (ifB ((decide ((nI ((L (i7.1/i7.2)).length))>(24:Int)))) Z6 (∃ i8:Bool×Nat×Int,[DA.one (cB neg),DA.one (cS (L (i6.1/i6.2)))]=AP.args i8/\AP.pre i8/\((([]:List Z9).length+(L (i7.1/i7.2)).length<=2199023255552)/\((vB (decide (i8.2.2<0))=vB Z7)/\(L i8.2.2.natAbs=L Z1.z.natAbs)/\((([]:List Z9)++L (i7.1/i7.2))=L Z1.d))))) Z6))) (ifB Z2 (ifB Z3 Z6 (∃ i9:Bool×Nat×Int,[DA.one (cB neg),DA.one Z8]=AP.args i9/\AP.pre i9/\((([]:List Z9).length+(L i2.2).length<=2199023255552)/\((vB (decide (i9.2.2<0))=vB Z7)/\(L i9.2.2.natAbs=L Z1.z.natAbs)/\Z4)))) Z6)))) (ifB Z2 (ifB Z3 Z6 (∃ i10:Bool×Nat×Int,[DA.one (cB neg),DA.one Z8]=AP.args i10/\AP.pre i10/\((([]:List Z9).length+(L i2.2).length<=2199023255552)/\((vB (decide (i10.2.2<0))=vB Z7)/\(L i10.2.2.natAbs=L Z1.z.natAbs)/\Z4)))) Z6)))))) (by kernel_rfl) ?_
 conv=>zeta
 delta ifB vB nI
 refine ⟨(dig m,m),by
  rfl,by
  exact ⟨by show nl _<=_;omega,Lg _,Fj _⟩,?_⟩
 refine ⟨(dig d,d),by
  rfl,by
  exact ⟨by show nl _<=_;omega,Lg _,Fj _⟩,?_⟩
 refine ⟨λ c7=>?_,λ c7=>?_⟩
 ·try simp only [nrm] at c7
  have hE:FT z d=Fr.none:=VR (G3 (by omega))
  refine Ar ?_
  rw [hE];done
 try simp only [nrm] at c7
 have hd:d≠0:=λ e=>by subst e;rw [AL,CN] at c7;omega
 have hg:=SE (a:=m) hd
 refine ⟨d,by
  rfl,by
  trivial,?_⟩
 refine And.symm ⟨λ c14=>?_,λ c14=>?_⟩
 ·try simp only [nrm] at c14
  have e1:m.gcd d=1:=by rw [c14];exact Nat.gcd_one_right _
  have eM:m/m.gcd d=m:=by rw [e1,Nat.div_one]
  have eD:d/m.gcd d=d:=by rw [e1,Nat.div_one]
  have lm:=AL m
  have ld:=AL d
  refine And.symm ⟨λ c58=>?_,λ c58=>?_⟩
  ·try simp only [nrm] at c58
   refine Ar ?_
   rw [Ea hpre.2.2 hd eM eD (by omega)];done
  try simp only [nrm] at c58
  refine ⟨λ c59=>?_,λ c59=>?_⟩
  ·try simp only [nrm] at c59
   refine Ar ?_
   rw [Ea hpre.2.2 hd eM eD (by omega)];done
  try simp only [nrm] at c59
  refine ⟨(neg,m,(zOf neg m)),by
   rfl,by
   show nl m<=60/\zOf neg m=(zOf neg m)
   exact ⟨by omega,by omega⟩,?_⟩
  refine ao (a:=([]:List (List Dat)).length+(L d).length<=2199023255552) (by simp only [List.length_nil];omega) λ o66=>?_
  refine ⟨?_,?_,?_⟩
  ·rw [(ES hpre.2.2 hd eM eD (by omega) (by omega)).1];done
  ·rw [(ES hpre.2.2 hd eM eD (by omega) (by omega)).1];done
  rw [(ES hpre.2.2 hd eM eD (by omega) (by omega)).2];exact List.nil_append _
 try simp only [nrm] at c14
 refine ⟨(m,d),by
  rfl,by
  show nl m<=131072/\nl d<=131072
  exact ⟨by omega,by omega⟩,?_⟩
 refine ⟨(m.gcd d),by
  rfl,by
  trivial,?_⟩
 refine And.symm ⟨λ c21=>?_,λ c21=>?_⟩
 ·try simp only [nrm] at c21
  have e1:m.gcd d=1:=c21
  have eM:m/m.gcd d=m:=by rw [e1,Nat.div_one]
  have eD:d/m.gcd d=d:=by rw [e1,Nat.div_one]
  have lm:=AL m
  have ld:=AL d
  refine And.symm ⟨λ c43=>?_,λ c43=>?_⟩
  ·try simp only [nrm] at c43
   refine Ar ?_
   rw [Ea hpre.2.2 hd eM eD (by omega)];done
  try simp only [nrm] at c43
  refine ⟨λ c44=>?_,λ c44=>?_⟩
  ·try simp only [nrm] at c44
   refine Ar ?_
   rw [Ea hpre.2.2 hd eM eD (by omega)];done
  try simp only [nrm] at c44
  refine ⟨(neg,m,(zOf neg m)),by
   rfl,by
   show nl m<=60/\zOf neg m=(zOf neg m)
   exact ⟨by omega,by omega⟩,?_⟩
  refine ao (a:=([]:List (List Dat)).length+(L d).length<=2199023255552) (by simp only [List.length_nil];omega) λ o51=>?_
  refine ⟨?_,?_,?_⟩
  ·rw [(ES hpre.2.2 hd eM eD (by omega) (by omega)).1];done
  ·rw [(ES hpre.2.2 hd eM eD (by omega) (by omega)).1];done
  rw [(ES hpre.2.2 hd eM eD (by omega) (by omega)).2];exact List.nil_append _
 try simp only [nrm] at c21
 have eM:m/m.gcd d=m/m.gcd d:=rfl
 have eD:d/m.gcd d=d/m.gcd d:=rfl
 have lm:=AL (m/m.gcd d)
 have ld:=AL (d/m.gcd d)
 refine ⟨(m,(m.gcd d)),by
  rfl,by
  show (m.gcd d)≠0/\nl m<=131072/\nl (m.gcd d)<=131072
  exact ⟨by omega,by omega⟩,?_⟩
 refine ⟨(d,(m.gcd d)),by
  rfl,by
  show (m.gcd d)≠0/\nl d<=131072/\nl (m.gcd d)<=131072
  exact ⟨by omega,by omega⟩,?_⟩
 refine And.symm ⟨λ c28=>?_,λ c28=>?_⟩
 ·try simp only [nrm] at c28
  refine Ar ?_
  rw [Ea hpre.2.2 hd eM eD (by omega)];done
 try simp only [nrm] at c28
 refine ⟨λ c29=>?_,λ c29=>?_⟩
 ·try simp only [nrm] at c29
  refine Ar ?_
  rw [Ea hpre.2.2 hd eM eD (by omega)];done
 try simp only [nrm] at c29
 refine ⟨(neg,(m/(m.gcd d)),(zOf neg (m/(m.gcd d)))),by
  rfl,by
  show nl (m/(m.gcd d))<=60/\zOf neg (m/(m.gcd d))=(zOf neg (m/(m.gcd d)))
  exact ⟨by omega,by omega⟩,?_⟩
 refine ao (a:=([]:List (List Dat)).length+(L (d/(m.gcd d))).length<=2199023255552) (by simp only [List.length_nil];omega) λ o36=>?_
 refine ⟨?_,?_,?_⟩
 ·rw [(ES hpre.2.2 hd eM eD (by omega) (by omega)).1];done
 ·rw [(ES hpre.2.2 hd eM eD (by omega) (by omega)).1];done
 rw [(ES hpre.2.2 hd eM eD (by omega) (by omega)).2];exact List.nil_append _
def Ch:Con:={ ι:=Bool×(List (List Dat))×(List (List Dat))×Bool,pre:=λ i=>Dat.has (.sl 3 [.int]) (.sl i.2.1)/\Dat.has (.sl 3 [.int]) (.sl i.2.2.1)/\i.2.1.length<=9223372036854775807/\i.2.2.1.length<=9223372036854775807/\AZ i.1 i.2.1 i.2.2.1=i.2.2.2,args:=λ i=>[DA.agg [cB i.1,cS i.2.1,cS i.2.2.1]],res:=λ i=>⟨false,[none],[rcB i.2.2.2]⟩ }
theorem Ta:Ch.Ok Tryz.prog 105:=by
 refine fok (X:=⟨tt,[(136,BO),(137,B8),(139,DE),(138,BI)],[],39,[]⟩) AG AH (CTok.cons Io (CTok.cons Jg (CTok.cons NJ (CTok.cons Ji (CTok.nil _))))) Tryz.func105 (λ _=>[]) ?_
 rintro ⟨neg,m,d,b⟩ hpre
 have hpre:Dat.has (.sl 3 [.int]) (.sl m)/\Dat.has (.sl 3 [.int]) (.sl d)/\m.length<=9223372036854775807/\d.length<=9223372036854775807/\AZ neg m d=b:=hpre
 refine AF (q:=let Z1:=(vB false=vB b);∃ i1:Bool×(List (List Dat)),[DA.agg [cB neg,cS m]]=BO.args i1/\BO.pre i1/\(ifB ((!(!(Ai i1.1 i1.2)))) (∃ i2:(List (List Dat)),[DA.one (cS d)]=B8.args i2/\B8.pre i2/\(ifB ((!(!(A5 i2)))) (ifB ((!((nI d.length) == (0:Int)))) (ifB ((!(decide ((nI d.length)>(24:Int))))) (ifB ((decide ((nI m.length)>(24:Int)))) Z1 (∃ i3:Nat×Nat,[DA.one (cS m),DA.one (cS d)]=DE.args i3/\DE.pre i3/\(∃ i4:Nat,[DA.one (cS (L (i3.1.gcd i3.2)))]=BI.args i4/\BI.pre i4/\((vB (decide (i4=1))=vB b))))) Z1) Z1) Z1)) Z1)) (by kernel_rfl) ?_
 conv=>zeta
 delta ifB vB nI
 refine ⟨(neg,m),by
  rfl,by
  show m.length<=9223372036854775807
  omega,?_⟩
 refine And.symm ⟨λ c4=>?_,λ c4=>?_⟩
 ·try simp only [nrm] at c4
  have hE:false=b:=by rw [← hpre.2.2.2.2];exact (CV (.inl c4)).symm
  rw [hE]
 try simp only [nrm] at c4
 refine ⟨d,by
  rfl,by
  show d.length<=9223372036854775807
  omega,?_⟩
 refine And.symm ⟨λ c8=>?_,λ c8=>?_⟩
 ·try simp only [nrm] at c8
  have hE:false=b:=by rw [← hpre.2.2.2.2];exact (CV (.inr (.inl c8))).symm
  rw [hE]
 try simp only [nrm] at c8
 refine And.symm ⟨λ c9=>?_,λ c9=>?_⟩
 ·try simp only [nrm] at c9
  have hE:false=b:=by rw [← hpre.2.2.2.2];exact (CV (.inr (.inr (.inl (by omega))))).symm
  rw [hE]
 try simp only [nrm] at c9
 refine And.symm ⟨λ c10=>?_,λ c10=>?_⟩
 ·try simp only [nrm] at c10
  have hE:false=b:=by rw [← hpre.2.2.2.2];exact (CV (.inr (.inr (.inr (.inr (by omega)))))).symm
  rw [hE]
 try simp only [nrm] at c10
 refine ⟨λ c11=>?_,λ c11=>?_⟩
 ·try simp only [nrm] at c11
  have hE:false=b:=by rw [← hpre.2.2.2.2];exact (CV (.inr (.inr (.inr (.inl (by omega)))))).symm
  rw [hE]
 try simp only [nrm] at c11
 obtain ⟨x,ea,na⟩:=Dk hpre.1 (Lw c4)
 obtain ⟨y,eb,nb⟩:=Dk hpre.2.1 c8
 have hR:=Lx c4 c8 (by omega) (by omega) (by omega)
 refine ⟨(x,y),by
  rw [ea,eb];rfl,by
  show nl x<=131072/\nl y<=131072
  exact ⟨by omega,by omega⟩,?_⟩
 refine ⟨(x.gcd y),by
  rfl,by
  trivial,?_⟩
 rw [← hpre.2.2.2.2,hR,ea,eb,BJ,BJ]
def Bo:Con:={ ι:=Int,pre:=λ i=>-9223372036854775808<=i/\i<=9223372036854775807,args:=λ i=>[.one (cI i)],res:=λ i=>⟨false,[some 3],[rcB (decide ((Fr.ofInt i).z<0)),.own 3 [.int] (L (Fr.ofInt i).z.natAbs),.own 3 [.int] (L (Fr.ofInt i).d)]⟩ }
theorem Lz:Bo.Ok Tryz.prog 104:=by
 refine fok (X:=⟨tt,[(108,BP)],[],7,[]⟩) AG AH (CTok.cons Ip (CTok.nil _)) Tryz.func104 (λ _=>[]) ?_
 intro (n:Int) hpre
 have hpre:-9223372036854775808<=n/\n<=9223372036854775807:=hpre
 refine AF (q:=∃ i1:Int,[DA.one (cI n)]=BP.args i1/\BP.pre i1/\((vB (decide (i1<0))=vB (decide ((Fr.ofInt n).z<0)))/\(L i1.natAbs=L (Fr.ofInt n).z.natAbs)/\(([[Dat.int (1:Int)]]:List (List Dat))=L (Fr.ofInt n).d))) (by kernel_rfl) ?_
 delta vB
 refine ⟨n,by
  rfl,by
  exact hpre,?_⟩
 refine ⟨?_,?_,?_⟩
 ·rw [(Ft (Bk hpre)).1];done
 ·rw [(Ft (Bk hpre)).1];done
 rw [(Ft (Bk hpre)).2];exact XU
def GS:Con:={ ι:=Fr×Fr,pre:=λ i=>i.1.d≠0/\i.2.d≠0,args:=λ i=>[dF i.1,dF i.2],res:=λ i=>⟨false,[some 3],[rcB (decide ((Fr.add i.1 i.2).z<0)),.own 3 [.int] (L (Fr.add i.1 i.2).z.natAbs),.own 3 [.int] (L (Fr.add i.1 i.2).d)]⟩ }
set_option maxHeartbeats 4000000 in
theorem Tb:GS.Ok Tryz.prog 106:=by
 refine fok (X:=⟨tt,[(138,BI),(140,Cg),(141,BN),(143,Al),(142,AP)],[],61,[]⟩) AG AH (CTok.cons Ji (CTok.cons TZ (CTok.cons NK (CTok.cons Jh (CTok.cons GR (CTok.nil _)))))) Tryz.func106 (λ _=>[]) ?_
 rintro ⟨r,s⟩ hpre
 have hpre:r.d≠0/\s.d≠0:=hpre
 refine AF (q:=let Z2:=cS (L s.d);let Z1:=cS (L r.d);∃ i1:Nat,[DA.one Z1]=BI.args i1/\BI.pre i1/\(ifB ((decide (i1=1))) (∃ i2:Nat,[DA.one Z2]=BI.args i2/\BI.pre i2/\(ifB ((decide (i2=1))) (∃ i3:Int×Int,[dB r.z,dB s.z]=Cg.args i3/\Cg.pre i3/\(∃ i4:Bool×Nat×Nat×Int,[DA.one (cB (decide ((i3.1+i3.2)<0))),DA.one (cS (L (i3.1+i3.2).natAbs)),DA.one (cS ([[Dat.int (1:Int)]]:List (List Dat)))]=BN.args i4/\BN.pre i4/\((eqC (FT i4.2.2.2 i4.2.2.1) (Fr.add r s))))) (∃ i5:Nat×Nat,[DA.one (cS (L r.z.natAbs)),DA.one Z2]=Al.args i5/\Al.pre i5/\(∃ i6:Bool×Nat×Int,[DA.one (cB (decide (r.z<0))),DA.one (cS (L (i5.1*i5.2)))]=AP.args i6/\AP.pre i6/\(∃ i7:Nat×Nat,[DA.one (cS (L s.z.natAbs)),DA.one Z1]=Al.args i7/\Al.pre i7/\(∃ i8:Bool×Nat×Int,[DA.one (cB (decide (s.z<0))),DA.one (cS (L (i7.1*i7.2)))]=AP.args i8/\AP.pre i8/\(∃ i9:Int×Int,[dB i6.2.2,dB i8.2.2]=Cg.args i9/\Cg.pre i9/\(∃ i10:Nat×Nat,[DA.one Z1,DA.one Z2]=Al.args i10/\Al.pre i10/\(∃ i11:Bool×Nat×Nat×Int,[DA.one (cB (decide ((i9.1+i9.2)<0))),DA.one (cS (L (i9.1+i9.2).natAbs)),DA.one (cS (L (i10.1*i10.2)))]=BN.args i11/\BN.pre i11/\((eqC (FT i11.2.2.2 i11.2.2.1) (Fr.add r s)))))))))))) (∃ i12:Nat×Nat,[DA.one (cS (L r.z.natAbs)),DA.one Z2]=Al.args i12/\Al.pre i12/\(∃ i13:Bool×Nat×Int,[DA.one (cB (decide (r.z<0))),DA.one (cS (L (i12.1*i12.2)))]=AP.args i13/\AP.pre i13/\(∃ i14:Nat×Nat,[DA.one (cS (L s.z.natAbs)),DA.one Z1]=Al.args i14/\Al.pre i14/\(∃ i15:Bool×Nat×Int,[DA.one (cB (decide (s.z<0))),DA.one (cS (L (i14.1*i14.2)))]=AP.args i15/\AP.pre i15/\(∃ i16:Int×Int,[dB i13.2.2,dB i15.2.2]=Cg.args i16/\Cg.pre i16/\(∃ i17:Nat×Nat,[DA.one Z1,DA.one Z2]=Al.args i17/\Al.pre i17/\(∃ i18:Bool×Nat×Nat×Int,[DA.one (cB (decide ((i16.1+i16.2)<0))),DA.one (cS (L (i16.1+i16.2).natAbs)),DA.one (cS (L (i17.1*i17.2)))]=BN.args i18/\BN.pre i18/\((eqC (FT i18.2.2.2 i18.2.2.1) (Fr.add r s)))))))))))) (by kernel_rfl) ?_
 conv=>zeta
 delta ifB
 have h1:=r.nlz
 have h2:=r.nld
 have lr:=AL r.d
 have lz:=AL r.z.natAbs
 have h3:=s.nlz
 have h4:=s.nld
 have ls:=AL s.d
 have lw:=AL s.z.natAbs
 have m0:=BR r.z.natAbs s.d
 have m00:=BR s.z.natAbs r.d
 have m1:=CP r.z ((s.d:Nat):Int)
 have m2:=CP s.z ((r.d:Nat):Int)
 rw [EN] at m1 m2
 have m3:=IC (r.z*((s.d:Nat):Int)) (s.z*((r.d:Nat):Int))
 have m4:=BR r.d s.d
 have m6:=BR r.d s.z.natAbs
 refine ⟨r.d,by
  rfl,by
  trivial,?_⟩
 refine And.symm ⟨λ c4=>?_,λ c4=>?_⟩
 ·try simp only [nrm] at c4
  have hE:=SF hpre.1 hpre.2
  refine ⟨(r.z.natAbs,s.d),by
   rfl,by
   show nl r.z.natAbs<=524288/\nl s.d<=524288
   exact ⟨by omega,by omega⟩,?_⟩
  refine ⟨(decide (r.z<0),r.z.natAbs*s.d,r.z*((s.d:Nat):Int)),by
   rfl,by
   show nl (r.z.natAbs*s.d)<=60/\zOf (decide (r.z<0)) (r.z.natAbs*s.d)=(r.z*((s.d:Nat):Int))
   exact ⟨by omega,Hn _ _⟩,?_⟩
  refine ⟨(s.z.natAbs,r.d),by
   rfl,by
   show nl s.z.natAbs<=524288/\nl r.d<=524288
   exact ⟨by omega,by omega⟩,?_⟩
  refine ⟨(decide (s.z<0),s.z.natAbs*r.d,s.z*((r.d:Nat):Int)),by
   rfl,by
   show nl (s.z.natAbs*r.d)<=60/\zOf (decide (s.z<0)) (s.z.natAbs*r.d)=(s.z*((r.d:Nat):Int))
   exact ⟨by omega,Hn _ _⟩,?_⟩
  refine ⟨((r.z*((s.d:Nat):Int)),(s.z*((r.d:Nat):Int))),by
   rfl,by
   show nl (r.z*((s.d:Nat):Int)).natAbs<=59/\nl (s.z*((r.d:Nat):Int)).natAbs<=59
   exact ⟨by omega,by omega⟩,?_⟩
  refine ⟨(r.d,s.d),by
   rfl,by
   show nl r.d<=524288/\nl s.d<=524288
   exact ⟨by omega,by omega⟩,?_⟩
  refine ⟨(decide (r.z*((s.d:Nat):Int)+s.z*((r.d:Nat):Int)<0),(r.z*((s.d:Nat):Int)+s.z*((r.d:Nat):Int)).natAbs,r.d*s.d,r.z*((s.d:Nat):Int)+s.z*((r.d:Nat):Int)),by
   rfl,by
   try dsimp only [BN]
   exact ⟨by omega,by omega,Bd _⟩,?_⟩
  refine A6 ?_
  rw [hE]
 try simp only [nrm] at c4
 refine ⟨s.d,by
  rfl,by
  trivial,?_⟩
 refine ⟨λ c8=>?_,λ c8=>?_⟩
 ·try simp only [nrm] at c8
  have hE:=VS c4 c8
  refine ⟨(r.z,s.z),by
   rfl,by
   show nl r.z.natAbs<=59/\nl s.z.natAbs<=59
   exact ⟨by omega,by omega⟩,?_⟩
  refine ⟨(decide (r.z+s.z<0),(r.z+s.z).natAbs,1,r.z+s.z),by
   rw [XU];rfl,by
   show nl ((r.z+s.z).natAbs)<=1000/\nl 1<=1000/\zOf (decide (r.z+s.z<0)) ((r.z+s.z).natAbs)=(r.z+s.z)
   have:=IC r.z s.z
   exact ⟨by omega,by rw [Q0];decide,Bd _⟩,?_⟩
  refine A6 ?_
  rw [hE]
 try simp only [nrm] at c8
 have hE:=SF hpre.1 hpre.2
 refine ⟨(r.z.natAbs,s.d),by
  rfl,by
  show nl r.z.natAbs<=524288/\nl s.d<=524288
  exact ⟨by omega,by omega⟩,?_⟩
 refine ⟨(decide (r.z<0),r.z.natAbs*s.d,r.z*((s.d:Nat):Int)),by
  rfl,by
  show nl (r.z.natAbs*s.d)<=60/\zOf (decide (r.z<0)) (r.z.natAbs*s.d)=(r.z*((s.d:Nat):Int))
  exact ⟨by omega,Hn _ _⟩,?_⟩
 refine ⟨(s.z.natAbs,r.d),by
  rfl,by
  show nl s.z.natAbs<=524288/\nl r.d<=524288
  exact ⟨by omega,by omega⟩,?_⟩
 refine ⟨(decide (s.z<0),s.z.natAbs*r.d,s.z*((r.d:Nat):Int)),by
  rfl,by
  show nl (s.z.natAbs*r.d)<=60/\zOf (decide (s.z<0)) (s.z.natAbs*r.d)=(s.z*((r.d:Nat):Int))
  exact ⟨by omega,Hn _ _⟩,?_⟩
 refine ⟨((r.z*((s.d:Nat):Int)),(s.z*((r.d:Nat):Int))),by
  rfl,by
  show nl (r.z*((s.d:Nat):Int)).natAbs<=59/\nl (s.z*((r.d:Nat):Int)).natAbs<=59
  exact ⟨by omega,by omega⟩,?_⟩
 refine ⟨(r.d,s.d),by
  rfl,by
  show nl r.d<=524288/\nl s.d<=524288
  exact ⟨by omega,by omega⟩,?_⟩
 refine ⟨(decide (r.z*((s.d:Nat):Int)+s.z*((r.d:Nat):Int)<0),(r.z*((s.d:Nat):Int)+s.z*((r.d:Nat):Int)).natAbs,r.d*s.d,r.z*((s.d:Nat):Int)+s.z*((r.d:Nat):Int)),by
  rfl,by
  try dsimp only [BN]
  exact ⟨by omega,by omega,Bd _⟩,?_⟩
 refine A6 ?_
 rw [hE]
def E9:Con:={ ι:=Fr×Fr,pre:=λ i=>True,args:=λ i=>[dF i.1,dF i.2],res:=λ i=>⟨false,[some 3],[rcB (decide ((Fr.add i.1 i.2).z<0)),.own 3 [.int] (L (Fr.add i.1 i.2).z.natAbs),.own 3 [.int] (L (Fr.add i.1 i.2).d)]⟩ }
theorem Q6:E9.Ok Tryz.prog 66:=by
 refine fok (X:=⟨tt,[(105,Ch),(106,GS)],[],17,[]⟩) AG AH (CTok.cons Ta (CTok.cons Tb (CTok.nil _))) Tryz.func66 (λ _=>[]) ?_
 rintro ⟨r,s⟩ hpre
 have hpre:True:=hpre
 refine AF (q:=let Z1:=List (List Dat);∃ i1:Bool×Z1×Z1×Bool,[dF r]=Ch.args i1/\Ch.pre i1/\(ifB ((!(!i1.2.2.2))) (∃ i2:Bool×Z1×Z1×Bool,[dF s]=Ch.args i2/\Ch.pre i2/\(ifB ((!i2.2.2.2)) ((eqN (Fr.add r s))) (∃ i3:Fr×Fr,[dF r,dF s]=GS.args i3/\GS.pre i3/\((eqC (Fr.add i3.1 i3.2) (Fr.add r s)))))) ((eqN (Fr.add r s))))) (by kernel_rfl) ?_
 conv=>zeta
 delta ifB
 have h1:=r.nlz
 have h2:=r.nld
 have lr:=AL r.d
 have lz:=AL r.z.natAbs
 have h3:=s.nlz
 have h4:=s.nld
 have ls:=AL s.d
 have lw:=AL s.z.natAbs
 refine ⟨(decide (r.z<0),(L r.z.natAbs),(L r.d),r.good),by
  rfl,by
  try dsimp only [Ch]
  exact ⟨Dg _ (by omega),Dg _ (by omega),by omega,by omega,CF _⟩,?_⟩
 refine And.symm ⟨λ c4=>?_,λ c4=>?_⟩
 ·try simp only [nrm] at c4
  have hE:Fr.add r s=Fr.none:=Fr.bin_bad _ (.inl (Ep c4))
  refine Ar ?_
  rw [hE];done
 try simp only [nrm] at c4
 refine ⟨(decide (s.z<0),(L s.z.natAbs),(L s.d),s.good),by
  rfl,by
  try dsimp only [Ch]
  exact ⟨Dg _ (by omega),Dg _ (by omega),by omega,by omega,CF _⟩,?_⟩
 refine ⟨λ c8=>?_,λ c8=>?_⟩
 ·try simp only [nrm] at c8
  have hE:Fr.add r s=Fr.none:=Fr.bin_bad _ (.inr (Ep c8))
  refine Ar ?_
  rw [hE];done
 try simp only [nrm] at c8
 refine ⟨(r,s),by
  rfl,by
  exact ⟨Be c4,Be c8⟩,?_⟩
 exact A6 rfl
end Go.Proofs.YtndnhlhnjiopfaaGreat
