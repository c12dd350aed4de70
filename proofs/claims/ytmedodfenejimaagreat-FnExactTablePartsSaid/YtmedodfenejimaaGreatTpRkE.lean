import Derived.Test.YtmedodfenejimaaGreatTpRkD
namespace Go.Proofs.YtmedodfenejimaaGreat
set_option maxRecDepth 100000
set_option linter.unusedVariables false
set_option linter.unusedSimpArgs false
open Go.RowKit
theorem FR (z:Int) (d:Nat):zOf (decide (z<0)) (z.natAbs*d)=z*((d:Nat):Int):=by
 have h:=MK z ((d:Nat):Int)
 rw [XS,Int.natAbs_natCast] at h
 rw [← h]
 cases decide (z<0) <;> rfl
theorem Vg {z:Int} {d:Nat} (hd:d≠0):decide (z*((d:Nat):Int)<0)=decide (z<0):=by
 congr 1
 apply propext
 have hp:(0:Int)<((d:Nat):Int):=by omega
 constructor
 ·intro h
  apply Int.lt_of_not_ge
  intro h2
  have:=Int.mul_nonneg h2 (Int.le_of_lt hp)
  omega
 ·intro h;exact Int.mul_neg_of_neg_of_pos h hp
theorem Yb {neg:Bool} {m k:Nat} (h:m=0->k=0):zOf (decide (zOf neg m<0)) k=zOf neg k:=by
 cases neg
 ·have:decide (zOf false m<0)=false:=decide_eq_false (by unfold zOf;simp)
  rw [this]
 ·by_cases hm:m=0
  ·rw [h hm];unfold zOf;simp
  ·have:decide (zOf true m<0)=true:=decide_eq_true (by unfold zOf;simp;omega)
   rw [this]
def Gh (z:Int) (d:Nat):Fr:=if d=0 then Fr.none else Fr.mk' z d
theorem JP {z:Int} {d:Nat} (h:d≠0):Gh z d=Fr.mk' z d:=by unfold Gh;rw [if_neg h]
theorem XW {z:Int} {d:Nat} (h:d=0):Gh z d=Fr.none:=by unfold Gh;rw [if_pos h]
theorem FE {neg:Bool} {m d M D:Nat} {z:Int} (hz:zOf neg m=z) (hd:d≠0) (eM:m/m.gcd d=M) (eD:d/m.gcd d=D) (h1:nl M<=24) (h2:nl D<=24):(Gh z d).z=zOf neg M/\(Gh z d).d=D:=by
 have ha:z.natAbs=m:=by rw [← hz,Ea]
 have hf:=Eb (z:=z) hd (by rw [ha,eM];exact h1) (by rw [ha,eD];exact h2)
 rw [JP hd]
 rw [ha,eM,eD] at hf
 refine ⟨?_,hf.2.2⟩
 rw [← Fg (Fr.mk' z d).z,hf.1,hf.2.1,← hz]
 exact Yb λ e=>by rw [← eM,e,Nat.zero_div]
theorem FS {neg:Bool} {m d M D:Nat} {z:Int} (hz:zOf neg m=z) (hd:d≠0) (eM:m/m.gcd d=M) (eD:d/m.gcd d=D) (h:¬ (nl M<=24/\nl D<=24)):Gh z d=Fr.none:=by
 have ha:z.natAbs=m:=by rw [← hz,Ea]
 rw [JP hd,Fi hd (by rw [ha,eM,eD];exact h)]
theorem ZA:[[Dat.int (1:Int)]]=L 1:=XM (by decide) (by decide)
theorem Be (e:Nat) {n:Nat} (h:nl n<=9223372036854775807):Dat.has (.sl e [.int]) (.sl (L n)):=by
 refine ⟨by rw [AQ];exact h,λ k hk=>?_⟩
 unfold L
 rw [NP (by rw [AQ] at hk;exact hk)]
 simp [hasRow,Dat.has]
theorem BN (r:Fr):Ap (decide (r.z<0)) (L r.z.natAbs) (L r.d)=r.good:=by
 rw [← Fr.neg_z,← Fr.num_z,← Fr.den_d];exact VW r
theorem S0 {m:List (List Dat)} (h:BO m=true):CK true m=decide (((m.length:Nat):Int)>(0:Int)):=by
 rw [Nb h]
 by_cases hv:m.length=0
 ·rw [hv];rfl
 ·rw [decide_eq_true (by omega)]
  have:((((m.length:Nat):Int)) == (0:Int))=false:=by rw [beq_eq_false_iff_ne];omega
  rw [this];rfl
theorem XX (r s:Fr):Fr.sub r s=Fr.add r s.opp:=(Fr.sub_opp r s).symm
theorem XY {r s:Fr} (hr:r.d=1) (hs:s.d=1):Fr.add r s=Gh (r.z+s.z) 1:=by
 rw [Fr.add_zd (by omega) (by omega),JP (by decide),hr,hs]
 show Fr.mk' (r.z*1+s.z*1) (1*1)=_
 rw [Int.mul_one,Int.mul_one]
theorem Ub {r s:Fr} (hr:r.d≠0) (hs:s.d≠0):Fr.add r s=Gh (r.z*((s.d:Nat):Int)+s.z*((r.d:Nat):Int)) (r.d*s.d):=by
 rw [Fr.add_zd hr hs,JP (Nat.mul_ne_zero hr hs)]
theorem Yc {r s:Fr} (hr:r.d≠0) (hs:s.d≠0):Fr.mul r s=Gh (r.z*s.z) (r.d*s.d):=by
 rw [Fr.mul_zd hr hs,JP (Nat.mul_ne_zero hr hs)]
theorem Yd {r s:Fr} (hr:r.d≠0) (hs:s.d≠0):Fr.div r s=Gh (zOf (decide (r.z<0) != decide (s.z<0)) (r.z.natAbs*s.d)) (r.d*s.z.natAbs):=by
 by_cases hz:s.z=0
 ·rw [Fr.div_bad (.inr (.inr hz)),XW (by rw [hz];exact Nat.mul_zero _)]
 ·rw [Fr.div_zd hr hs hz,JP (Nat.mul_ne_zero hr (by omega)),Vg hs,Int.natAbs_mul,Int.natAbs_natCast]
def Ec:Con:={ ι:=Bool×(List (List Dat)),pre:=λ i=>i.2.length<=9223372036854775807,args:=λ i=>[DA.agg [cB i.1,cS i.2]],res:=λ i=>⟨false,[none],[rcB (CK i.1 i.2)]⟩ }
theorem Pj:Ec.Ok Tryz.prog 207:=by
 refine fok (X:=⟨tt,[(208,CL)],[],17,[]⟩) AI AF (CTok.cons LB (CTok.nil _)) Tryz.func207 (λ _=>[]) ?_
 rintro ⟨neg,m⟩ hpre
 have hpre:m.length<=9223372036854775807:=hpre
 refine AH (q:=let Z1:=CK neg m;∃ i1:(List (List Dat)),[DA.one (cS m)]=CL.args i1/\CL.pre i1/\(ifB ((BO i1)) (ifB ((!(!neg))) ((vB (decide ((nI m.length)>(0:Int)))=vB Z1)) ((vB true=vB Z1))) ((vB false=vB Z1)))) (by kernel_rfl) ?_
 conv=>zeta
 delta ifB vB nI
 refine ⟨m,by
  rfl,by
  trivial,?_⟩
 refine And.symm ⟨λ c4=>?_,λ c4=>?_⟩
 ·try simp only [nrm] at c4
  unfold CK;rw [c4];rfl
 try simp only [nrm] at c4
 refine ⟨λ c5=>?_,λ c5=>?_⟩
 ·try simp only [nrm] at c5
  rw [c5,S0 c4];done
 try simp only [nrm] at c5
 unfold CK;rw [c4,c5];rfl
def AO:Con:={ ι:=Bool×Nat×Int,pre:=λ i=>nl i.2.1<=60/\zOf i.1 i.2.1=i.2.2,args:=λ i=>[.one (cB i.1),.one (cS (L i.2.1))],res:=λ i=>⟨false,[some 2],[rcB (decide (i.2.2<0)),.own 3 [.int] (L i.2.2.natAbs)]⟩ }
theorem EV:AO.Ok Tryz.prog 199:=by
 refine fok (X:=⟨tt,[(254,Hq)],[],18,[]⟩) AI AF (CTok.cons Ve (CTok.nil _)) Tryz.func199 (λ _=>[]) ?_
 rintro ⟨neg,m,z⟩ hpre
 have hpre:nl m<=60/\zOf neg m=z:=hpre
 refine AH (q:=∃ i1:Nat,let Z1:=(([]:List (List Dat))++L i1)=L z.natAbs;[DA.one (cS (L m))]=Hq.args i1/\Hq.pre i1/\(ifB (neg) ((([]:List (List Dat)).length+(L i1).length<=1073741824)/\((vB (decide ((nI ((L i1).length))>(0:Int)))=vB (decide (z<0)))/\Z1)) ((([]:List (List Dat)).length+(L i1).length<=1073741824)/\((vB false=vB (decide (z<0)))/\Z1)))) (by kernel_rfl) ?_
 conv=>zeta
 delta ifB vB nI
 refine ⟨m,by
  rfl,by
  exact hpre.1,?_⟩
 refine ⟨λ c4=>?_,λ c4=>?_⟩
 ·try simp only [nrm] at c4
  refine ao (by first|(rw [AQ];simp only [List.length_nil];omega)) λ o5=>?_
  refine ⟨?_,?_⟩
  ·rw [← hpre.2]
   rw [ML,c4];rfl
  rw [← hpre.2]
  rw [Ea];exact List.nil_append _
 try simp only [nrm] at c4
 refine ao (by first|(rw [AQ];simp only [List.length_nil];omega)) λ o8=>?_
 refine ⟨?_,?_⟩
 ·rw [← hpre.2]
  rw [ML,c4];rfl
 rw [← hpre.2]
 rw [Ea];exact List.nil_append _
def Ed:Con:={ ι:=Int,pre:=λ i=>-9223372036854775808<=i/\i<=9223372036854775807,args:=λ i=>[.one (cI i)],res:=λ i=>⟨false,[some 2],[rcB (decide (i<0)),.own 3 [.int] (L i.natAbs)]⟩ }
theorem Pk:Ed.Ok Tryz.prog 137:=by
 refine fok (X:=⟨tt,[(199,AO),(200,BH)],[],16,[]⟩) AI AF (CTok.cons EV (CTok.cons JO (CTok.nil _))) Tryz.func137 (λ _=>[]) ?_
 intro (n:Int) hpre
 have hpre:-9223372036854775808<=n/\n<=9223372036854775807:=hpre
 refine AH (q:=let Z1:=decide (n<0);ifB ((n == (-9223372036854775808:Int))) (∃ i1:Bool×Nat×Int,[DA.one (cB true),DA.one (cS ([[Dat.int (854775808:Int)],[Dat.int (223372036:Int)],[Dat.int (9:Int)]]:List (List Dat)))]=AO.args i1/\AO.pre i1/\((vB (decide (i1.2.2<0))=vB Z1)/\(L i1.2.2.natAbs=L n.natAbs))) (ifB ((decide (n<(0:Int)))) (∃ i2:Nat,[DA.one (cI (wR (0-n)))]=BH.args i2/\BH.pre i2/\(∃ i3:Bool×Nat×Int,[DA.one (cB true),DA.one (cS (L i2))]=AO.args i3/\AO.pre i3/\((vB (decide (i3.2.2<0))=vB Z1)/\(L i3.2.2.natAbs=L n.natAbs)))) (∃ i4:Nat,[DA.one (cI n)]=BH.args i4/\BH.pre i4/\(∃ i5:Bool×Nat×Int,[DA.one (cB false),DA.one (cS (L i4))]=AO.args i5/\AO.pre i5/\((vB (decide (i5.2.2<0))=vB Z1)/\(L i5.2.2.natAbs=L n.natAbs)))))) (by kernel_rfl) ?_
 conv=>zeta
 delta ifB vB wR
 refine ⟨λ c1=>?_,λ c1=>?_⟩
 ·try simp only [nrm] at c1
  refine ⟨(true,9223372036854775808,n),by
   rw [ABT];rfl,by
   show nl 9223372036854775808<=60/\zOf true 9223372036854775808=n
   exact ⟨Nat.le_trans ((EO 3 _).2 (by decide)) (by decide),by unfold zOf;rw [if_pos rfl];omega⟩,?_⟩
  exact ⟨rfl,rfl⟩
 try simp only [nrm] at c1
 refine ⟨λ c7=>?_,λ c7=>?_⟩
 ·try simp only [nrm] at c7
  have en:IntKind.i64.wrap (0-n)=(((-n).toNat:Nat):Int):=by rw [AD (by omega) (by omega)];omega
  have ea:n.natAbs=(-n).toNat:=by omega
  refine ⟨(-n).toNat,by
   rw [en];rfl,by
   show ((-n).toNat)<=9223372036854775807
   omega,?_⟩
  refine ⟨(true,(-n).toNat,n),by
   rfl,by
   show nl ((-n).toNat)<=60/\zOf true ((-n).toNat)=n
   exact ⟨Nat.le_trans (by rw [← ea];exact E3 hpre) (by decide),by unfold zOf;rw [if_pos rfl];omega⟩,?_⟩
  exact ⟨rfl,rfl⟩
 try simp only [nrm] at c7
 have en:n=((n.toNat:Nat):Int):=by omega
 have ea:n.natAbs=n.toNat:=by omega
 refine ⟨n.toNat,by
  show [DA.one (DC.im (Value.int .i64 n))]=[DA.one (DC.im (Value.int .i64 ((n.toNat:Nat):Int)))]
  rw [← en],by
  show n.toNat<=9223372036854775807
  omega,?_⟩
 refine ⟨(false,n.toNat,n),by
  rfl,by
  show nl n.toNat<=60/\zOf false n.toNat=n
  exact ⟨Nat.le_trans (by rw [← ea];exact E3 hpre) (by decide),by unfold zOf;rw [if_neg (by decide)];omega⟩,?_⟩
 exact ⟨rfl,rfl⟩
def C3:Con:={ ι:=Int×Int,pre:=λ i=>nl i.1.natAbs<=59/\nl i.2.natAbs<=59,args:=λ i=>[dB i.1,dB i.2],res:=λ i=>⟨false,[some 2],[rcB (decide ((i.1+i.2)<0)),.own 3 [.int] (L (i.1+i.2).natAbs)]⟩ }
theorem Vh:C3.Ok Tryz.prog 257:=by
 refine fok (X:=⟨tt,[(303,Hr),(199,AO),(261,Ac),(302,CM)],[],40,[]⟩) AI AF (CTok.cons Vf (CTok.cons EV (CTok.cons G5 (CTok.cons Ot (CTok.nil _))))) Tryz.func257 (λ _=>[]) ?_
 rintro ⟨x,y⟩ hpre
 have hpre:nl x.natAbs<=59/\nl y.natAbs<=59:=hpre
 refine AH (q:=let Z4:=decide (x<0);let Z3:=decide ((x+y)<0);let Z2:=cS (L y.natAbs);let Z1:=cS (L x.natAbs);ifB ((Z4 == (decide (y<0)))) (∃ i1:Nat×Nat,[DA.one Z1,DA.one Z2]=Hr.args i1/\Hr.pre i1/\(∃ i2:Bool×Nat×Int,[DA.one (cB Z4),DA.one (cS (L (i1.1+i1.2)))]=AO.args i2/\AO.pre i2/\((vB (decide (i2.2.2<0))=vB Z3)/\(L i2.2.2.natAbs=L (x+y).natAbs)))) (∃ i3:Nat×Nat,[DA.one Z1,DA.one Z2]=Ac.args i3/\Ac.pre i3/\(ifB ((decide ((CA i3.1 i3.2)≥(0:Int)))) (∃ i4:Nat×Nat,[DA.one Z1,DA.one Z2]=CM.args i4/\CM.pre i4/\(∃ i5:Bool×Nat×Int,[DA.one (cB Z4),DA.one (cS (L (i4.1-i4.2)))]=AO.args i5/\AO.pre i5/\((vB (decide (i5.2.2<0))=vB Z3)/\(L i5.2.2.natAbs=L (x+y).natAbs)))) (∃ i6:Nat×Nat,[DA.one Z2,DA.one Z1]=CM.args i6/\CM.pre i6/\(∃ i7:Bool×Nat×Int,[DA.one (cB (decide (y<0))),DA.one (cS (L (i6.1-i6.2)))]=AO.args i7/\AO.pre i7/\((vB (decide (i7.2.2<0))=vB Z3)/\(L i7.2.2.natAbs=L (x+y).natAbs))))))) (by kernel_rfl) ?_
 conv=>zeta
 delta ifB vB
 have hs:=K4 x.natAbs y.natAbs
 have hs1:=D9 (Nat.sub_le x.natAbs y.natAbs)
 have hs2:=D9 (Nat.sub_le y.natAbs x.natAbs)
 refine ⟨λ c1=>?_,λ c1=>?_⟩
 ·try simp only [nrm] at c1
  refine ⟨(x.natAbs,y.natAbs),by
   rfl,by
   show nl x.natAbs<=1048576/\nl y.natAbs<=1048576
   exact ⟨by omega,by omega⟩,?_⟩
  refine ⟨(decide (x<0),x.natAbs+y.natAbs,x+y),by
   rfl,by
   show nl (x.natAbs+y.natAbs)<=60/\zOf (decide (x<0)) (x.natAbs+y.natAbs)=(x+y)
   exact ⟨by omega,NW c1⟩,?_⟩
  exact ⟨rfl,rfl⟩
 try simp only [nrm] at c1
 refine ⟨(x.natAbs,y.natAbs),by
  rfl,by
  show nl x.natAbs<=1048576/\nl y.natAbs<=1048576
  exact ⟨by omega,by omega⟩,?_⟩
 refine ⟨λ c13=>?_,λ c13=>?_⟩
 ·try simp only [nrm] at c13
  refine ⟨(x.natAbs,y.natAbs),by
   rfl,by
   show nl x.natAbs<=1048576/\nl y.natAbs<=1048576/\y.natAbs<=x.natAbs
   exact ⟨by omega,by omega,Ff.1 c13⟩,?_⟩
  refine ⟨(decide (x<0),x.natAbs-y.natAbs,x+y),by
   rfl,by
   show nl (x.natAbs-y.natAbs)<=60/\zOf (decide (x<0)) (x.natAbs-y.natAbs)=(x+y)
   exact ⟨by omega,KW c1 (Ff.1 c13)⟩,?_⟩
  exact ⟨rfl,rfl⟩
 try simp only [nrm] at c13
 refine ⟨(y.natAbs,x.natAbs),by
  rfl,by
  show nl y.natAbs<=1048576/\nl x.natAbs<=1048576/\x.natAbs<=y.natAbs
  exact ⟨by omega,by omega,Nat.le_of_lt (EA.1 c13)⟩,?_⟩
 refine ⟨(decide (y<0),y.natAbs-x.natAbs,x+y),by
  rfl,by
  show nl (y.natAbs-x.natAbs)<=60/\zOf (decide (y<0)) (y.natAbs-x.natAbs)=(x+y)
  exact ⟨by omega,NX c1 (Nat.le_of_lt (EA.1 c13))⟩,?_⟩
 exact ⟨rfl,rfl⟩
def Hs:Con:={ ι:=Int×Int,pre:=λ i=>nl i.1.natAbs<=59/\nl i.2.natAbs<=59,args:=λ i=>[dB i.1,dB i.2],res:=λ i=>⟨false,[none],[rcI (CQ i.1 i.2)]⟩ }
theorem Vi:Hs.Ok Tryz.prog 211:=by
 refine fok (X:=⟨tt,[(261,Ac)],[],34,[]⟩) AI AF (CTok.cons G5 (CTok.nil _)) Tryz.func211 (λ _=>[]) ?_
 rintro ⟨x,y⟩ hpre
 have hpre:nl x.natAbs<=59/\nl y.natAbs<=59:=hpre
 refine AH (q:=let Z5:=decide (y<0);let Z4:=CQ x y;let Z6:=(vI (1:Int)=vI Z4);let Z3:=decide (x<0);let Z2:=cS (L x.natAbs);let Z1:=cS (L y.natAbs);ifB Z3 (ifB ((!Z5)) ((vI (-1:Int)=vI Z4)) (ifB ((!Z3)) (ifB Z5 Z6 (ifB Z3 (∃ i1:Nat×Nat,[DA.one Z1,DA.one Z2]=Ac.args i1/\Ac.pre i1/\((vI (CA i1.1 i1.2)=vI Z4))) (∃ i2:Nat×Nat,[DA.one Z2,DA.one Z1]=Ac.args i2/\Ac.pre i2/\((vI (CA i2.1 i2.2)=vI Z4))))) (ifB Z3 (∃ i3:Nat×Nat,[DA.one Z1,DA.one Z2]=Ac.args i3/\Ac.pre i3/\((vI (CA i3.1 i3.2)=vI Z4))) (∃ i4:Nat×Nat,[DA.one Z2,DA.one Z1]=Ac.args i4/\Ac.pre i4/\((vI (CA i4.1 i4.2)=vI Z4)))))) (ifB ((!Z3)) (ifB Z5 Z6 (ifB Z3 (∃ i5:Nat×Nat,[DA.one Z1,DA.one Z2]=Ac.args i5/\Ac.pre i5/\((vI (CA i5.1 i5.2)=vI Z4))) (∃ i6:Nat×Nat,[DA.one Z2,DA.one Z1]=Ac.args i6/\Ac.pre i6/\((vI (CA i6.1 i6.2)=vI Z4))))) (ifB Z3 (∃ i7:Nat×Nat,[DA.one Z1,DA.one Z2]=Ac.args i7/\Ac.pre i7/\((vI (CA i7.1 i7.2)=vI Z4))) (∃ i8:Nat×Nat,[DA.one Z2,DA.one Z1]=Ac.args i8/\Ac.pre i8/\((vI (CA i8.1 i8.2)=vI Z4)))))) (by kernel_rfl) ?_
 conv=>zeta
 delta ifB vI
 refine And.symm ⟨λ c1=>?_,λ c1=>?_⟩
 ·try simp only [nrm] at c1
  refine And.symm ⟨λ c25=>?_,λ c25=>?_⟩
  ·try simp only [nrm] at c25
   refine ⟨λ c37=>?_,λ c37=>?_⟩
   ·try simp only [nrm] at c37
    refine ⟨(y.natAbs,x.natAbs),by
     rfl,by
     exact ⟨by omega,by omega⟩,?_⟩
    exfalso;omega
   try simp only [nrm] at c37
   refine ⟨(x.natAbs,y.natAbs),by
    rfl,by
    exact ⟨by omega,by omega⟩,?_⟩
   exfalso;omega
  try simp only [nrm] at c25
  refine ⟨λ c26=>?_,λ c26=>?_⟩
  ·try simp only [nrm] at c26
   rw [← UY (by omega) (by omega)]
  try simp only [nrm] at c26
  refine ⟨λ c28=>?_,λ c28=>?_⟩
  ·try simp only [nrm] at c28
   refine ⟨(y.natAbs,x.natAbs),by
    rfl,by
    exact ⟨by omega,by omega⟩,?_⟩
   exfalso;omega
  try simp only [nrm] at c28
  refine ⟨(x.natAbs,y.natAbs),by
   rfl,by
   show nl x.natAbs<=1048576/\nl y.natAbs<=1048576
   exact ⟨by omega,by omega⟩,?_⟩
  rw [UW (by omega) (by omega)]
 try simp only [nrm] at c1
 refine ⟨λ c2=>?_,λ c2=>?_⟩
 ·try simp only [nrm] at c2
  rw [← UX (by omega) (by omega)]
 try simp only [nrm] at c2
 refine And.symm ⟨λ c4=>?_,λ c4=>?_⟩
 ·try simp only [nrm] at c4
  refine And.symm ⟨λ c16=>?_,λ c16=>?_⟩
  ·try simp only [nrm] at c16
   refine ⟨(x.natAbs,y.natAbs),by
    rfl,by
    exact ⟨by omega,by omega⟩,?_⟩
   exfalso;omega
  try simp only [nrm] at c16
  refine ⟨(y.natAbs,x.natAbs),by
   rfl,by
   show nl y.natAbs<=1048576/\nl x.natAbs<=1048576
   exact ⟨by omega,by omega⟩,?_⟩
  rw [UV (by omega) (by omega)]
 try simp only [nrm] at c4
 refine ⟨λ c5=>?_,λ c5=>?_⟩
 ·try simp only [nrm] at c5
  exfalso;omega
 try simp only [nrm] at c5
 refine ⟨λ c7=>?_,λ c7=>?_⟩
 ·try simp only [nrm] at c7
  refine ⟨(y.natAbs,x.natAbs),by
   rfl,by
   exact ⟨by omega,by omega⟩,?_⟩
  exfalso;omega
 try simp only [nrm] at c7
 refine ⟨(x.natAbs,y.natAbs),by
  rfl,by
  exact ⟨by omega,by omega⟩,?_⟩
 exfalso;omega
def BX:Con:={ ι:=Nat,pre:=λ i=>True,args:=λ i=>[.one (cS (L i))],res:=λ i=>⟨false,[none],[rcB (decide (i=1))]⟩ }
theorem LD:BX.Ok Tryz.prog 209:=by
 refine fok (X:=⟨tt,[],[],12,[]⟩) AI AF (CTok.nil _) Tryz.func209 (λ _=>[]) ?_
 intro (a:Nat) hpre
 have hpre:True:=hpre
 refine AH (q:=ifB (((nI ((L a).length)) == (1:Int))) ((0<=(0:Int)/\(0:Int)<((L a).length:Int))/\((0<(L a).length)/\((vB (((((L a).getD 0 []).getD 0 (.int 0))).n == (1:Int))=vB (decide (a=1)))))) ((vB false=vB (decide (a=1))))) (by kernel_rfl) ?_
 delta ifB vB nI
 have ha:=AQ a
 refine And.symm ⟨λ c1=>?_,λ c1=>?_⟩
 ·try simp only [nrm] at c1
  exact congrArg Value.bool (decide_eq_false (λ e=>by subst e;rw [Sw] at ha;omega)).symm
 try simp only [nrm] at c1
 have h1:=Il (b:=a) (by omega)
 refine ao (by omega) λ o2=>?_
 refine ao (by omega) λ o3=>?_
 rw [L_n,h1.1]
 exact congrArg Value.bool (by rw [Bool.eq_iff_iff,beq_iff_eq,decide_eq_true_iff];omega)
def BI:Con:={ ι:=Bool×Nat×Nat×Int,pre:=λ i=>nl i.2.1<=1000/\nl i.2.2.1<=1000/\zOf i.1 i.2.1=i.2.2.2,args:=λ i=>[.one (cB i.1),.one (cS (L i.2.1)),.one (cS (L i.2.2.1))],res:=λ i=>⟨false,[some 3],[rcB (decide ((Gh i.2.2.2 i.2.2.1).z<0)),.own 3 [.int] (L (Gh i.2.2.2 i.2.2.1).z.natAbs),.own 3 [.int] (L (Gh i.2.2.2 i.2.2.1).d)]⟩ }
theorem LF:BI.Ok Tryz.prog 202:=by
 refine fok (X:=⟨tt,[(255,Ag),(209,BX),(210,Di),(256,B5),(199,AO)],[],55,[]⟩) AI AF (CTok.cons EU (CTok.cons LD (CTok.cons Ov (CTok.cons Ou (CTok.cons EV (CTok.nil _)))))) Tryz.func202 (λ _=>[]) ?_
 rintro ⟨neg,m,d,z⟩ hpre
 have hpre:nl m<=1000/\nl d<=1000/\zOf neg m=z:=hpre
 refine AH (q:=let Z9:=List Dat;let Z1:=Gh z d;let Z7:=decide (Z1.z<0);let Z6:=(eqN Z1);∃ i1:(List Nat)×Nat,let Z8:=cS (L i1.2);let Z2:=(!(decide ((nI ((L i1.2).length))>(24:Int))));[DA.one (cS (L m))]=Ag.args i1/\Ag.pre i1/\(∃ i2:(List Nat)×Nat,let Z4:=(([]:List Z9)++L i2.2)=L Z1.d;let Z3:=(decide ((nI ((L i2.2).length))>(24:Int)));[DA.one (cS (L d))]=Ag.args i2/\Ag.pre i2/\(ifB (((nI ((L i2.2).length)) == (0:Int))) Z6 (∃ i3:Nat,[DA.one (cS (L i2.2))]=BX.args i3/\BX.pre i3/\(ifB ((!(decide (i3=1)))) (∃ i4:Nat×Nat,let Z5:=cS (L (i4.1.gcd i4.2));[DA.one Z8,DA.one (cS (L i2.2))]=Di.args i4/\Di.pre i4/\(∃ i5:Nat,[DA.one Z5]=BX.args i5/\BX.pre i5/\(ifB ((!(decide (i5=1)))) (∃ i6:Nat×Nat,[DA.one Z8,DA.one Z5]=B5.args i6/\B5.pre i6/\(∃ i7:Nat×Nat,[DA.one (cS (L i2.2)),DA.one Z5]=B5.args i7/\B5.pre i7/\(ifB ((!(decide ((nI ((L (i6.1/i6.2)).length))>(24:Int))))) (ifB ((decide ((nI ((L (i7.1/i7.2)).length))>(24:Int)))) Z6 (∃ i8:Bool×Nat×Int,[DA.one (cB neg),DA.one (cS (L (i6.1/i6.2)))]=AO.args i8/\AO.pre i8/\((([]:List Z9).length+(L (i7.1/i7.2)).length<=1073741824)/\((vB (decide (i8.2.2<0))=vB Z7)/\(L i8.2.2.natAbs=L Z1.z.natAbs)/\((([]:List Z9)++L (i7.1/i7.2))=L Z1.d))))) Z6))) (ifB Z2 (ifB Z3 Z6 (∃ i9:Bool×Nat×Int,[DA.one (cB neg),DA.one Z8]=AO.args i9/\AO.pre i9/\((([]:List Z9).length+(L i2.2).length<=1073741824)/\((vB (decide (i9.2.2<0))=vB Z7)/\(L i9.2.2.natAbs=L Z1.z.natAbs)/\Z4)))) Z6)))) (ifB Z2 (ifB Z3 Z6 (∃ i10:Bool×Nat×Int,[DA.one (cB neg),DA.one Z8]=AO.args i10/\AO.pre i10/\((([]:List Z9).length+(L i2.2).length<=1073741824)/\((vB (decide (i10.2.2<0))=vB Z7)/\(L i10.2.2.natAbs=L Z1.z.natAbs)/\Z4)))) Z6)))))) (by kernel_rfl) ?_
 conv=>zeta
 delta ifB vB nI
 refine ⟨(dig m,m),by
  rfl,by
  exact ⟨by show nl _<=_;omega,NL _,Gt _⟩,?_⟩
 refine ⟨(dig d,d),by
  rfl,by
  exact ⟨by show nl _<=_;omega,NL _,Gt _⟩,?_⟩
 refine ⟨λ c7=>?_,λ c7=>?_⟩
 ·try simp only [nrm] at c7
  have hE:Gh z d=Fr.none:=XW (Io (by omega))
  refine A4 ?_
  rw [hE];done
 try simp only [nrm] at c7
 have hd:d≠0:=λ e=>by subst e;rw [AQ,Cc] at c7;omega
 have hg:=Ua (a:=m) hd
 refine ⟨d,by
  rfl,by
  trivial,?_⟩
 refine And.symm ⟨λ c14=>?_,λ c14=>?_⟩
 ·try simp only [nrm] at c14
  have e1:m.gcd d=1:=by rw [c14];exact Nat.gcd_one_right _
  have eM:m/m.gcd d=m:=by rw [e1,Nat.div_one]
  have eD:d/m.gcd d=d:=by rw [e1,Nat.div_one]
  have lm:=AQ m
  have ld:=AQ d
  refine And.symm ⟨λ c58=>?_,λ c58=>?_⟩
  ·try simp only [nrm] at c58
   refine A4 ?_
   rw [FS hpre.2.2 hd eM eD (by omega)];done
  try simp only [nrm] at c58
  refine ⟨λ c59=>?_,λ c59=>?_⟩
  ·try simp only [nrm] at c59
   refine A4 ?_
   rw [FS hpre.2.2 hd eM eD (by omega)];done
  try simp only [nrm] at c59
  refine ⟨(neg,m,(zOf neg m)),by
   rfl,by
   show nl m<=60/\zOf neg m=(zOf neg m)
   exact ⟨by omega,by omega⟩,?_⟩
  refine ao (a:=([]:List (List Dat)).length+(L d).length<=1073741824) (by simp only [List.length_nil];omega) λ o66=>?_
  refine ⟨?_,?_,?_⟩
  ·rw [(FE hpre.2.2 hd eM eD (by omega) (by omega)).1];done
  ·rw [(FE hpre.2.2 hd eM eD (by omega) (by omega)).1];done
  rw [(FE hpre.2.2 hd eM eD (by omega) (by omega)).2];exact List.nil_append _
 try simp only [nrm] at c14
 refine ⟨(m,d),by
  rfl,by
  show nl m<=131072/\nl d<=131072
  exact ⟨by omega,by omega⟩,?_⟩
 refine ⟨(m.gcd d),by
  rfl,by
  trivial,?_⟩
 refine And.symm ⟨λ c21=>?_,λ c21=>?_⟩
 ·try simp only [nrm] at c21
  have e1:m.gcd d=1:=c21
  have eM:m/m.gcd d=m:=by rw [e1,Nat.div_one]
  have eD:d/m.gcd d=d:=by rw [e1,Nat.div_one]
  have lm:=AQ m
  have ld:=AQ d
  refine And.symm ⟨λ c43=>?_,λ c43=>?_⟩
  ·try simp only [nrm] at c43
   refine A4 ?_
   rw [FS hpre.2.2 hd eM eD (by omega)];done
  try simp only [nrm] at c43
  refine ⟨λ c44=>?_,λ c44=>?_⟩
  ·try simp only [nrm] at c44
   refine A4 ?_
   rw [FS hpre.2.2 hd eM eD (by omega)];done
  try simp only [nrm] at c44
  refine ⟨(neg,m,(zOf neg m)),by
   rfl,by
   show nl m<=60/\zOf neg m=(zOf neg m)
   exact ⟨by omega,by omega⟩,?_⟩
  refine ao (a:=([]:List (List Dat)).length+(L d).length<=1073741824) (by simp only [List.length_nil];omega) λ o51=>?_
  refine ⟨?_,?_,?_⟩
  ·rw [(FE hpre.2.2 hd eM eD (by omega) (by omega)).1];done
  ·rw [(FE hpre.2.2 hd eM eD (by omega) (by omega)).1];done
  rw [(FE hpre.2.2 hd eM eD (by omega) (by omega)).2];exact List.nil_append _
 try simp only [nrm] at c21
 have eM:m/m.gcd d=m/m.gcd d:=rfl
 have eD:d/m.gcd d=d/m.gcd d:=rfl
 have lm:=AQ (m/m.gcd d)
 have ld:=AQ (d/m.gcd d)
 refine ⟨(m,(m.gcd d)),by
  rfl,by
  show (m.gcd d)≠0/\nl m<=131072/\nl (m.gcd d)<=131072
  exact ⟨by omega,by omega⟩,?_⟩
 refine ⟨(d,(m.gcd d)),by
  rfl,by
  show (m.gcd d)≠0/\nl d<=131072/\nl (m.gcd d)<=131072
  exact ⟨by omega,by omega⟩,?_⟩
 refine And.symm ⟨λ c28=>?_,λ c28=>?_⟩
 ·try simp only [nrm] at c28
  refine A4 ?_
  rw [FS hpre.2.2 hd eM eD (by omega)];done
 try simp only [nrm] at c28
 refine ⟨λ c29=>?_,λ c29=>?_⟩
 ·try simp only [nrm] at c29
  refine A4 ?_
  rw [FS hpre.2.2 hd eM eD (by omega)];done
 try simp only [nrm] at c29
 refine ⟨(neg,(m/(m.gcd d)),(zOf neg (m/(m.gcd d)))),by
  rfl,by
  show nl (m/(m.gcd d))<=60/\zOf neg (m/(m.gcd d))=(zOf neg (m/(m.gcd d)))
  exact ⟨by omega,by omega⟩,?_⟩
 refine ao (a:=([]:List (List Dat)).length+(L (d/(m.gcd d))).length<=1073741824) (by simp only [List.length_nil];omega) λ o36=>?_
 refine ⟨?_,?_,?_⟩
 ·rw [(FE hpre.2.2 hd eM eD (by omega) (by omega)).1];done
 ·rw [(FE hpre.2.2 hd eM eD (by omega) (by omega)).1];done
 rw [(FE hpre.2.2 hd eM eD (by omega) (by omega)).2];exact List.nil_append _
def AB:Con:={ ι:=Bool×(List (List Dat))×(List (List Dat))×Bool,pre:=λ i=>Dat.has (.sl 3 [.int]) (.sl i.2.1)/\Dat.has (.sl 3 [.int]) (.sl i.2.2.1)/\i.2.1.length<=9223372036854775807/\i.2.2.1.length<=9223372036854775807/\Ap i.1 i.2.1 i.2.2.1=i.2.2.2,args:=λ i=>[DA.agg [cB i.1,cS i.2.1,cS i.2.2.1]],res:=λ i=>⟨false,[none],[rcB i.2.2.2]⟩ }
theorem CC:AB.Ok Tryz.prog 146:=by
 refine fok (X:=⟨tt,[(207,Ec),(208,CL),(210,Di),(209,BX)],[],39,[]⟩) AI AF (CTok.cons Pj (CTok.cons LB (CTok.cons Ov (CTok.cons LD (CTok.nil _))))) Tryz.func146 (λ _=>[]) ?_
 rintro ⟨neg,m,d,b⟩ hpre
 have hpre:Dat.has (.sl 3 [.int]) (.sl m)/\Dat.has (.sl 3 [.int]) (.sl d)/\m.length<=9223372036854775807/\d.length<=9223372036854775807/\Ap neg m d=b:=hpre
 refine AH (q:=let Z1:=(vB false=vB b);∃ i1:Bool×(List (List Dat)),[DA.agg [cB neg,cS m]]=Ec.args i1/\Ec.pre i1/\(ifB ((!(!(CK i1.1 i1.2)))) (∃ i2:(List (List Dat)),[DA.one (cS d)]=CL.args i2/\CL.pre i2/\(ifB ((!(!(BO i2)))) (ifB ((!((nI d.length) == (0:Int)))) (ifB ((!(decide ((nI d.length)>(24:Int))))) (ifB ((decide ((nI m.length)>(24:Int)))) Z1 (∃ i3:Nat×Nat,[DA.one (cS m),DA.one (cS d)]=Di.args i3/\Di.pre i3/\(∃ i4:Nat,[DA.one (cS (L (i3.1.gcd i3.2)))]=BX.args i4/\BX.pre i4/\((vB (decide (i4=1))=vB b))))) Z1) Z1) Z1)) Z1)) (by kernel_rfl) ?_
 conv=>zeta
 delta ifB vB nI
 refine ⟨(neg,m),by
  rfl,by
  show m.length<=9223372036854775807
  omega,?_⟩
 refine And.symm ⟨λ c4=>?_,λ c4=>?_⟩
 ·try simp only [nrm] at c4
  have hE:false=b:=by rw [← hpre.2.2.2.2];exact (Ck (.inl c4)).symm
  rw [hE]
 try simp only [nrm] at c4
 refine ⟨d,by
  rfl,by
  show d.length<=9223372036854775807
  omega,?_⟩
 refine And.symm ⟨λ c8=>?_,λ c8=>?_⟩
 ·try simp only [nrm] at c8
  have hE:false=b:=by rw [← hpre.2.2.2.2];exact (Ck (.inr (.inl c8))).symm
  rw [hE]
 try simp only [nrm] at c8
 refine And.symm ⟨λ c9=>?_,λ c9=>?_⟩
 ·try simp only [nrm] at c9
  have hE:false=b:=by rw [← hpre.2.2.2.2];exact (Ck (.inr (.inr (.inl (by omega))))).symm
  rw [hE]
 try simp only [nrm] at c9
 refine And.symm ⟨λ c10=>?_,λ c10=>?_⟩
 ·try simp only [nrm] at c10
  have hE:false=b:=by rw [← hpre.2.2.2.2];exact (Ck (.inr (.inr (.inr (.inr (by omega)))))).symm
  rw [hE]
 try simp only [nrm] at c10
 refine ⟨λ c11=>?_,λ c11=>?_⟩
 ·try simp only [nrm] at c11
  have hE:false=b:=by rw [← hpre.2.2.2.2];exact (Ck (.inr (.inr (.inr (.inl (by omega)))))).symm
  rw [hE]
 try simp only [nrm] at c11
 obtain ⟨x,ea,na⟩:=EP hpre.1 (Nc c4)
 obtain ⟨y,eb,nb⟩:=EP hpre.2.1 c8
 have hR:=Nd c4 c8 (by omega) (by omega) (by omega)
 refine ⟨(x,y),by
  rw [ea,eb];rfl,by
  show nl x<=131072/\nl y<=131072
  exact ⟨by omega,by omega⟩,?_⟩
 refine ⟨(x.gcd y),by
  rfl,by
  trivial,?_⟩
 rw [← hpre.2.2.2.2,hR,ea,eb,Ez,Ez]
def Af:Con:={ ι:=Int,pre:=λ i=>-9223372036854775808<=i/\i<=9223372036854775807,args:=λ i=>[.one (cI i)],res:=λ i=>⟨false,[some 3],[rcB (decide ((Fr.ofInt i).z<0)),.own 3 [.int] (L (Fr.ofInt i).z.natAbs),.own 3 [.int] (L (Fr.ofInt i).d)]⟩ }
theorem EC:Af.Ok Tryz.prog 90:=by
 refine fok (X:=⟨tt,[(137,Ed)],[],7,[]⟩) AI AF (CTok.cons Pk (CTok.nil _)) Tryz.func90 (λ _=>[]) ?_
 intro (n:Int) hpre
 have hpre:-9223372036854775808<=n/\n<=9223372036854775807:=hpre
 refine AH (q:=∃ i1:Int,[DA.one (cI n)]=Ed.args i1/\Ed.pre i1/\((vB (decide (i1<0))=vB (decide ((Fr.ofInt n).z<0)))/\(L i1.natAbs=L (Fr.ofInt n).z.natAbs)/\(([[Dat.int (1:Int)]]:List (List Dat))=L (Fr.ofInt n).d))) (by kernel_rfl) ?_
 delta vB
 refine ⟨n,by
  rfl,by
  exact hpre,?_⟩
 refine ⟨?_,?_,?_⟩
 ·rw [(G4 (E3 hpre)).1];done
 ·rw [(G4 (E3 hpre)).1];done
 rw [(G4 (E3 hpre)).2];exact ZA
def Ht:Con:={ ι:=Fr,pre:=λ i=>True,args:=λ i=>[dF i],res:=λ i=>⟨false,[some 3],[rcB (decide (i.opp.z<0)),.own 3 [.int] (L i.opp.z.natAbs),.own 3 [.int] (L i.opp.d)]⟩ }
theorem Vj:Ht.Ok Tryz.prog 205:=by
 refine fok (X:=⟨tt,[(199,AO)],[],16,[]⟩) AI AF (CTok.cons EV (CTok.nil _)) Tryz.func205 (λ _=>[]) ?_
 intro (r:Fr) hpre
 have hpre:True:=hpre
 refine AH (q:=∃ i1:Bool×Nat×Int,[DA.one (cB (!(decide (r.z<0)))),DA.one (cS (L r.z.natAbs))]=AO.args i1/\AO.pre i1/\((([]:List (List Dat)).length+(L r.d).length<=1073741824)/\((vB (decide (i1.2.2<0))=vB (decide (r.opp.z<0)))/\(L i1.2.2.natAbs=L r.opp.z.natAbs)/\((([]:List (List Dat))++(L r.d))=L r.opp.d)))) (by kernel_rfl) ?_
 delta vB
 have h1:=r.nlz
 have h2:=r.nld
 have lr:=AQ r.d
 have lz:=AQ r.z.natAbs
 refine ⟨(!(decide (r.z<0)),r.z.natAbs,-r.z),by
  rfl,by
  show nl r.z.natAbs<=60/\zOf (!(decide (r.z<0))) r.z.natAbs=(-r.z)
  exact ⟨by omega,Pi _⟩,?_⟩
 refine ao (by simp only [List.length_nil];omega) λ o4=>?_
 refine ⟨?_,?_,?_⟩
 ·rw [Fr.opp_z];done
 ·rw [Fr.opp_z];done
 rw [Fr.opp_d];exact List.nil_append _
def Bi:Con:={ ι:=Bool×(List (List Dat))×(List (List Dat)),pre:=λ i=>i.2.1.length<=1073741824/\i.2.2.length<=1073741824,args:=λ i=>[DA.agg [cB i.1,cS i.2.1,cS i.2.2]],res:=λ i=>⟨false,[some 3],[rcB i.1,.own 3 [.int] i.2.1,.own 3 [.int] i.2.2]⟩ }
theorem Ne:Bi.Ok Tryz.prog 148:=by
 refine fok (X:=⟨tt,[],[],17,[]⟩) AI AF (CTok.nil _) Tryz.func148 (λ _=>[]) ?_
 rintro ⟨neg,m,d⟩ hpre
 have hpre:m.length<=1073741824/\d.length<=1073741824:=hpre
 refine AH (q:=(([]:List (List Dat)).length+m.length<=1073741824)/\((([]:List (List Dat)).length+d.length<=1073741824)/\((vB neg=vB neg)/\((([]:List (List Dat))++m)=m)/\((([]:List (List Dat))++d)=d)))) (by kernel_rfl) ?_
 delta vB
 refine ao (by simp only [List.length_nil];omega) λ o1=>?_
 refine ao (by simp only [List.length_nil];omega) λ o2=>?_
 refine ⟨rfl,?_,?_⟩
 ·rfl
 rfl
def Dj:Con:={ ι:=Fr×Fr,pre:=λ i=>i.1.d≠0/\i.2.d≠0,args:=λ i=>[dF i.1,dF i.2],res:=λ i=>⟨false,[some 3],[rcB (decide ((Fr.add i.1 i.2).z<0)),.own 3 [.int] (L (Fr.add i.1 i.2).z.natAbs),.own 3 [.int] (L (Fr.add i.1 i.2).d)]⟩ }
set_option maxHeartbeats 4000000 in
theorem Ow:Dj.Ok Tryz.prog 204:=by
 refine fok (X:=⟨tt,[(209,BX),(257,C3),(202,BI),(203,AW),(199,AO)],[],61,[]⟩) AI AF (CTok.cons LD (CTok.cons Vh (CTok.cons LF (CTok.cons FQ (CTok.cons EV (CTok.nil _)))))) Tryz.func204 (λ _=>[]) ?_
 rintro ⟨r,s⟩ hpre
 have hpre:r.d≠0/\s.d≠0:=hpre
 refine AH (q:=let Z2:=cS (L s.d);let Z1:=cS (L r.d);∃ i1:Nat,[DA.one Z1]=BX.args i1/\BX.pre i1/\(ifB ((decide (i1=1))) (∃ i2:Nat,[DA.one Z2]=BX.args i2/\BX.pre i2/\(ifB ((decide (i2=1))) (∃ i3:Int×Int,[dB r.z,dB s.z]=C3.args i3/\C3.pre i3/\(∃ i4:Bool×Nat×Nat×Int,[DA.one (cB (decide ((i3.1+i3.2)<0))),DA.one (cS (L (i3.1+i3.2).natAbs)),DA.one (cS ([[Dat.int (1:Int)]]:List (List Dat)))]=BI.args i4/\BI.pre i4/\((eqC (Gh i4.2.2.2 i4.2.2.1) (Fr.add r s))))) (∃ i5:Nat×Nat,[DA.one (cS (L r.z.natAbs)),DA.one Z2]=AW.args i5/\AW.pre i5/\(∃ i6:Bool×Nat×Int,[DA.one (cB (decide (r.z<0))),DA.one (cS (L (i5.1*i5.2)))]=AO.args i6/\AO.pre i6/\(∃ i7:Nat×Nat,[DA.one (cS (L s.z.natAbs)),DA.one Z1]=AW.args i7/\AW.pre i7/\(∃ i8:Bool×Nat×Int,[DA.one (cB (decide (s.z<0))),DA.one (cS (L (i7.1*i7.2)))]=AO.args i8/\AO.pre i8/\(∃ i9:Int×Int,[dB i6.2.2,dB i8.2.2]=C3.args i9/\C3.pre i9/\(∃ i10:Nat×Nat,[DA.one Z1,DA.one Z2]=AW.args i10/\AW.pre i10/\(∃ i11:Bool×Nat×Nat×Int,[DA.one (cB (decide ((i9.1+i9.2)<0))),DA.one (cS (L (i9.1+i9.2).natAbs)),DA.one (cS (L (i10.1*i10.2)))]=BI.args i11/\BI.pre i11/\((eqC (Gh i11.2.2.2 i11.2.2.1) (Fr.add r s)))))))))))) (∃ i12:Nat×Nat,[DA.one (cS (L r.z.natAbs)),DA.one Z2]=AW.args i12/\AW.pre i12/\(∃ i13:Bool×Nat×Int,[DA.one (cB (decide (r.z<0))),DA.one (cS (L (i12.1*i12.2)))]=AO.args i13/\AO.pre i13/\(∃ i14:Nat×Nat,[DA.one (cS (L s.z.natAbs)),DA.one Z1]=AW.args i14/\AW.pre i14/\(∃ i15:Bool×Nat×Int,[DA.one (cB (decide (s.z<0))),DA.one (cS (L (i14.1*i14.2)))]=AO.args i15/\AO.pre i15/\(∃ i16:Int×Int,[dB i13.2.2,dB i15.2.2]=C3.args i16/\C3.pre i16/\(∃ i17:Nat×Nat,[DA.one Z1,DA.one Z2]=AW.args i17/\AW.pre i17/\(∃ i18:Bool×Nat×Nat×Int,[DA.one (cB (decide ((i16.1+i16.2)<0))),DA.one (cS (L (i16.1+i16.2).natAbs)),DA.one (cS (L (i17.1*i17.2)))]=BI.args i18/\BI.pre i18/\((eqC (Gh i18.2.2.2 i18.2.2.1) (Fr.add r s)))))))))))) (by kernel_rfl) ?_
 conv=>zeta
 delta ifB
 have h1:=r.nlz
 have h2:=r.nld
 have lr:=AQ r.d
 have lz:=AQ r.z.natAbs
 have h3:=s.nlz
 have h4:=s.nld
 have ls:=AQ s.d
 have lw:=AQ s.z.natAbs
 have m0:=Ay r.z.natAbs s.d
 have m00:=Ay s.z.natAbs r.d
 have m1:=Bd r.z ((s.d:Nat):Int)
 have m2:=Bd s.z ((r.d:Nat):Int)
 rw [EB] at m1 m2
 have m3:=Fh (r.z*((s.d:Nat):Int)) (s.z*((r.d:Nat):Int))
 have m4:=Ay r.d s.d
 have m6:=Ay r.d s.z.natAbs
 refine ⟨r.d,by
  rfl,by
  trivial,?_⟩
 refine And.symm ⟨λ c4=>?_,λ c4=>?_⟩
 ·try simp only [nrm] at c4
  have hE:=Ub hpre.1 hpre.2
  refine ⟨(r.z.natAbs,s.d),by
   rfl,by
   show nl r.z.natAbs<=524288/\nl s.d<=524288
   exact ⟨by omega,by omega⟩,?_⟩
  refine ⟨(decide (r.z<0),r.z.natAbs*s.d,r.z*((s.d:Nat):Int)),by
   rfl,by
   show nl (r.z.natAbs*s.d)<=60/\zOf (decide (r.z<0)) (r.z.natAbs*s.d)=(r.z*((s.d:Nat):Int))
   exact ⟨by omega,FR _ _⟩,?_⟩
  refine ⟨(s.z.natAbs,r.d),by
   rfl,by
   show nl s.z.natAbs<=524288/\nl r.d<=524288
   exact ⟨by omega,by omega⟩,?_⟩
  refine ⟨(decide (s.z<0),s.z.natAbs*r.d,s.z*((r.d:Nat):Int)),by
   rfl,by
   show nl (s.z.natAbs*r.d)<=60/\zOf (decide (s.z<0)) (s.z.natAbs*r.d)=(s.z*((r.d:Nat):Int))
   exact ⟨by omega,FR _ _⟩,?_⟩
  refine ⟨((r.z*((s.d:Nat):Int)),(s.z*((r.d:Nat):Int))),by
   rfl,by
   show nl (r.z*((s.d:Nat):Int)).natAbs<=59/\nl (s.z*((r.d:Nat):Int)).natAbs<=59
   exact ⟨by omega,by omega⟩,?_⟩
  refine ⟨(r.d,s.d),by
   rfl,by
   show nl r.d<=524288/\nl s.d<=524288
   exact ⟨by omega,by omega⟩,?_⟩
  refine ⟨(decide (r.z*((s.d:Nat):Int)+s.z*((r.d:Nat):Int)<0),(r.z*((s.d:Nat):Int)+s.z*((r.d:Nat):Int)).natAbs,r.d*s.d,r.z*((s.d:Nat):Int)+s.z*((r.d:Nat):Int)),by
   rfl,by
   try dsimp only [BI]
   exact ⟨by omega,by omega,Fg _⟩,?_⟩
  refine BT ?_
  rw [hE]
 try simp only [nrm] at c4
 refine ⟨s.d,by
  rfl,by
  trivial,?_⟩
 refine ⟨λ c8=>?_,λ c8=>?_⟩
 ·try simp only [nrm] at c8
  have hE:=XY c4 c8
  refine ⟨(r.z,s.z),by
   rfl,by
   show nl r.z.natAbs<=59/\nl s.z.natAbs<=59
   exact ⟨by omega,by omega⟩,?_⟩
  refine ⟨(decide (r.z+s.z<0),(r.z+s.z).natAbs,1,r.z+s.z),by
   rw [ZA];rfl,by
   show nl ((r.z+s.z).natAbs)<=1000/\nl 1<=1000/\zOf (decide (r.z+s.z<0)) ((r.z+s.z).natAbs)=(r.z+s.z)
   have:=Fh r.z s.z
   exact ⟨by omega,by rw [Sw];decide,Fg _⟩,?_⟩
  refine BT ?_
  rw [hE]
 try simp only [nrm] at c8
 have hE:=Ub hpre.1 hpre.2
 refine ⟨(r.z.natAbs,s.d),by
  rfl,by
  show nl r.z.natAbs<=524288/\nl s.d<=524288
  exact ⟨by omega,by omega⟩,?_⟩
 refine ⟨(decide (r.z<0),r.z.natAbs*s.d,r.z*((s.d:Nat):Int)),by
  rfl,by
  show nl (r.z.natAbs*s.d)<=60/\zOf (decide (r.z<0)) (r.z.natAbs*s.d)=(r.z*((s.d:Nat):Int))
  exact ⟨by omega,FR _ _⟩,?_⟩
 refine ⟨(s.z.natAbs,r.d),by
  rfl,by
  show nl s.z.natAbs<=524288/\nl r.d<=524288
  exact ⟨by omega,by omega⟩,?_⟩
 refine ⟨(decide (s.z<0),s.z.natAbs*r.d,s.z*((r.d:Nat):Int)),by
  rfl,by
  show nl (s.z.natAbs*r.d)<=60/\zOf (decide (s.z<0)) (s.z.natAbs*r.d)=(s.z*((r.d:Nat):Int))
  exact ⟨by omega,FR _ _⟩,?_⟩
 refine ⟨((r.z*((s.d:Nat):Int)),(s.z*((r.d:Nat):Int))),by
  rfl,by
  show nl (r.z*((s.d:Nat):Int)).natAbs<=59/\nl (s.z*((r.d:Nat):Int)).natAbs<=59
  exact ⟨by omega,by omega⟩,?_⟩
 refine ⟨(r.d,s.d),by
  rfl,by
  show nl r.d<=524288/\nl s.d<=524288
  exact ⟨by omega,by omega⟩,?_⟩
 refine ⟨(decide (r.z*((s.d:Nat):Int)+s.z*((r.d:Nat):Int)<0),(r.z*((s.d:Nat):Int)+s.z*((r.d:Nat):Int)).natAbs,r.d*s.d,r.z*((s.d:Nat):Int)+s.z*((r.d:Nat):Int)),by
  rfl,by
  try dsimp only [BI]
  exact ⟨by omega,by omega,Fg _⟩,?_⟩
 refine BT ?_
 rw [hE]
def Hu:Con:={ ι:=Fr×Fr,pre:=λ i=>i.1.d≠0/\i.2.d≠0,args:=λ i=>[dF i.1,dF i.2],res:=λ i=>⟨false,[some 3],[rcB (decide ((Fr.mul i.1 i.2).z<0)),.own 3 [.int] (L (Fr.mul i.1 i.2).z.natAbs),.own 3 [.int] (L (Fr.mul i.1 i.2).d)]⟩ }
set_option maxHeartbeats 4000000 in
theorem Vk:Hu.Ok Tryz.prog 258:=by
 refine fok (X:=⟨tt,[(203,AW),(202,BI)],[],25,[]⟩) AI AF (CTok.cons FQ (CTok.cons LF (CTok.nil _))) Tryz.func258 (λ _=>[]) ?_
 rintro ⟨r,s⟩ hpre
 have hpre:r.d≠0/\s.d≠0:=hpre
 refine AH (q:=∃ i1:Nat×Nat,[DA.one (cS (L r.z.natAbs)),DA.one (cS (L s.z.natAbs))]=AW.args i1/\AW.pre i1/\(∃ i2:Nat×Nat,[DA.one (cS (L r.d)),DA.one (cS (L s.d))]=AW.args i2/\AW.pre i2/\(∃ i3:Bool×Nat×Nat×Int,[DA.one (cB ((decide (r.z<0)) != (decide (s.z<0)))),DA.one (cS (L (i1.1*i1.2))),DA.one (cS (L (i2.1*i2.2)))]=BI.args i3/\BI.pre i3/\((eqC (Gh i3.2.2.2 i3.2.2.1) (Fr.mul r s)))))) (by kernel_rfl) ?_
 have h1:=r.nlz
 have h2:=r.nld
 have lr:=AQ r.d
 have lz:=AQ r.z.natAbs
 have h3:=s.nlz
 have h4:=s.nld
 have ls:=AQ s.d
 have lw:=AQ s.z.natAbs
 have m4:=Ay r.d s.d
 have m5:=Ay r.z.natAbs s.z.natAbs
 have hE:=Yc hpre.1 hpre.2
 refine ⟨(r.z.natAbs,s.z.natAbs),by
  rfl,by
  show nl r.z.natAbs<=524288/\nl s.z.natAbs<=524288
  exact ⟨by omega,by omega⟩,?_⟩
 refine ⟨(r.d,s.d),by
  rfl,by
  show nl r.d<=524288/\nl s.d<=524288
  exact ⟨by omega,by omega⟩,?_⟩
 refine ⟨((decide (r.z<0)) != (decide (s.z<0)),r.z.natAbs*s.z.natAbs,r.d*s.d,r.z*s.z),by
  rfl,by
  show nl (r.z.natAbs*s.z.natAbs)<=1000/\nl (r.d*s.d)<=1000/\zOf ((decide (r.z<0)) != (decide (s.z<0))) (r.z.natAbs*s.z.natAbs)=(r.z*s.z)
  exact ⟨by omega,by omega,MK _ _⟩,?_⟩
 refine BT ?_
 rw [hE]
def CN:Con:={ ι:=Fr×Fr,pre:=λ i=>i.1.d≠0/\i.2.d≠0,args:=λ i=>[dF i.1,dF i.2],res:=λ i=>⟨false,[none],[rcI (Fr.cmp i.1 i.2)]⟩ }
theorem LG:CN.Ok Tryz.prog 147:=by
 refine fok (X:=⟨tt,[(203,AW),(199,AO),(211,Hs)],[],26,[]⟩) AI AF (CTok.cons FQ (CTok.cons EV (CTok.cons Vi (CTok.nil _)))) Tryz.func147 (λ _=>[]) ?_
 rintro ⟨r,s⟩ hpre
 have hpre:r.d≠0/\s.d≠0:=hpre
 refine AH (q:=∃ i1:Nat×Nat,[DA.one (cS (L r.z.natAbs)),DA.one (cS (L s.d))]=AW.args i1/\AW.pre i1/\(∃ i2:Bool×Nat×Int,[DA.one (cB (decide (r.z<0))),DA.one (cS (L (i1.1*i1.2)))]=AO.args i2/\AO.pre i2/\(∃ i3:Nat×Nat,[DA.one (cS (L s.z.natAbs)),DA.one (cS (L r.d))]=AW.args i3/\AW.pre i3/\(∃ i4:Bool×Nat×Int,[DA.one (cB (decide (s.z<0))),DA.one (cS (L (i3.1*i3.2)))]=AO.args i4/\AO.pre i4/\(∃ i5:Int×Int,[dB i2.2.2,dB i4.2.2]=Hs.args i5/\Hs.pre i5/\((vI (CQ i5.1 i5.2)=vI (Fr.cmp r s)))))))) (by kernel_rfl) ?_
 delta vI
 have h1:=r.nlz
 have h2:=r.nld
 have lr:=AQ r.d
 have lz:=AQ r.z.natAbs
 have h3:=s.nlz
 have h4:=s.nld
 have ls:=AQ s.d
 have lw:=AQ s.z.natAbs
 have m0:=Ay r.z.natAbs s.d
 have m00:=Ay s.z.natAbs r.d
 have m1:=Bd r.z ((s.d:Nat):Int)
 have m2:=Bd s.z ((r.d:Nat):Int)
 rw [EB] at m1 m2
 have m3:=Fh (r.z*((s.d:Nat):Int)) (s.z*((r.d:Nat):Int))
 have m4:=Ay r.d s.d
 have m6:=Ay r.d s.z.natAbs
 refine ⟨(r.z.natAbs,s.d),by
  rfl,by
  show nl r.z.natAbs<=524288/\nl s.d<=524288
  exact ⟨by omega,by omega⟩,?_⟩
 refine ⟨(decide (r.z<0),r.z.natAbs*s.d,r.z*((s.d:Nat):Int)),by
  rfl,by
  show nl (r.z.natAbs*s.d)<=60/\zOf (decide (r.z<0)) (r.z.natAbs*s.d)=(r.z*((s.d:Nat):Int))
  exact ⟨by omega,FR _ _⟩,?_⟩
 refine ⟨(s.z.natAbs,r.d),by
  rfl,by
  show nl s.z.natAbs<=524288/\nl r.d<=524288
  exact ⟨by omega,by omega⟩,?_⟩
 refine ⟨(decide (s.z<0),s.z.natAbs*r.d,s.z*((r.d:Nat):Int)),by
  rfl,by
  show nl (s.z.natAbs*r.d)<=60/\zOf (decide (s.z<0)) (s.z.natAbs*r.d)=(s.z*((r.d:Nat):Int))
  exact ⟨by omega,FR _ _⟩,?_⟩
 refine ⟨((r.z*((s.d:Nat):Int)),(s.z*((r.d:Nat):Int))),by
  rfl,by
  show nl (r.z*((s.d:Nat):Int)).natAbs<=59/\nl (s.z*((r.d:Nat):Int)).natAbs<=59
  exact ⟨by omega,by omega⟩,?_⟩
 rw [Fr.cmp_zd hpre.1 hpre.2]
def BL:Con:={ ι:=Fr×Fr,pre:=λ i=>True,args:=λ i=>[dF i.1,dF i.2],res:=λ i=>⟨false,[some 3],[rcB (decide ((Fr.add i.1 i.2).z<0)),.own 3 [.int] (L (Fr.add i.1 i.2).z.natAbs),.own 3 [.int] (L (Fr.add i.1 i.2).d)]⟩ }
theorem Jz:BL.Ok Tryz.prog 145:=by
 refine fok (X:=⟨tt,[(146,AB),(204,Dj)],[],17,[]⟩) AI AF (CTok.cons CC (CTok.cons Ow (CTok.nil _))) Tryz.func145 (λ _=>[]) ?_
 rintro ⟨r,s⟩ hpre
 have hpre:True:=hpre
 refine AH (q:=let Z1:=List (List Dat);∃ i1:Bool×Z1×Z1×Bool,[dF r]=AB.args i1/\AB.pre i1/\(ifB ((!(!i1.2.2.2))) (∃ i2:Bool×Z1×Z1×Bool,[dF s]=AB.args i2/\AB.pre i2/\(ifB ((!i2.2.2.2)) ((eqN (Fr.add r s))) (∃ i3:Fr×Fr,[dF r,dF s]=Dj.args i3/\Dj.pre i3/\((eqC (Fr.add i3.1 i3.2) (Fr.add r s)))))) ((eqN (Fr.add r s))))) (by kernel_rfl) ?_
 conv=>zeta
 delta ifB
 have h1:=r.nlz
 have h2:=r.nld
 have lr:=AQ r.d
 have lz:=AQ r.z.natAbs
 have h3:=s.nlz
 have h4:=s.nld
 have ls:=AQ s.d
 have lw:=AQ s.z.natAbs
 refine ⟨(decide (r.z<0),(L r.z.natAbs),(L r.d),r.good),by
  rfl,by
  try dsimp only [AB]
  exact ⟨Be _ (by omega),Be _ (by omega),by omega,by omega,BN _⟩,?_⟩
 refine And.symm ⟨λ c4=>?_,λ c4=>?_⟩
 ·try simp only [nrm] at c4
  have hE:Fr.add r s=Fr.none:=Fr.bin_bad _ (.inl (CO c4))
  refine A4 ?_
  rw [hE];done
 try simp only [nrm] at c4
 refine ⟨(decide (s.z<0),(L s.z.natAbs),(L s.d),s.good),by
  rfl,by
  try dsimp only [AB]
  exact ⟨Be _ (by omega),Be _ (by omega),by omega,by omega,BN _⟩,?_⟩
 refine ⟨λ c8=>?_,λ c8=>?_⟩
 ·try simp only [nrm] at c8
  have hE:Fr.add r s=Fr.none:=Fr.bin_bad _ (.inr (CO c8))
  refine A4 ?_
  rw [hE];done
 try simp only [nrm] at c8
 refine ⟨(r,s),by
  rfl,by
  exact ⟨As c4,As c8⟩,?_⟩
 exact BT rfl
def AX:Con:={ ι:=Fr×Fr,pre:=λ i=>True,args:=λ i=>[dF i.1,dF i.2],res:=λ i=>⟨false,[some 3],[rcB (decide ((Fr.sub i.1 i.2).z<0)),.own 3 [.int] (L (Fr.sub i.1 i.2).z.natAbs),.own 3 [.int] (L (Fr.sub i.1 i.2).d)]⟩ }
theorem Hv:AX.Ok Tryz.prog 142:=by
 refine fok (X:=⟨tt,[(146,AB),(205,Ht),(204,Dj)],[],18,[]⟩) AI AF (CTok.cons CC (CTok.cons Vj (CTok.cons Ow (CTok.nil _)))) Tryz.func142 (λ _=>[]) ?_
 rintro ⟨r,s⟩ hpre
 have hpre:True:=hpre
 refine AH (q:=let Z1:=List (List Dat);∃ i1:Bool×Z1×Z1×Bool,[dF r]=AB.args i1/\AB.pre i1/\(ifB ((!(!i1.2.2.2))) (∃ i2:Bool×Z1×Z1×Bool,[dF s]=AB.args i2/\AB.pre i2/\(ifB ((!i2.2.2.2)) ((eqN (Fr.sub r s))) (∃ i3:Fr,[dF s]=Ht.args i3/\Ht.pre i3/\(∃ i4:Fr×Fr,[dF r,dF i3.opp]=Dj.args i4/\Dj.pre i4/\((eqC (Fr.add i4.1 i4.2) (Fr.sub r s))))))) ((eqN (Fr.sub r s))))) (by kernel_rfl) ?_
 conv=>zeta
 delta ifB
 have h1:=r.nlz
 have h2:=r.nld
 have lr:=AQ r.d
 have lz:=AQ r.z.natAbs
 have h3:=s.nlz
 have h4:=s.nld
 have ls:=AQ s.d
 have lw:=AQ s.z.natAbs
 refine ⟨(decide (r.z<0),(L r.z.natAbs),(L r.d),r.good),by
  rfl,by
  try dsimp only [AB]
  exact ⟨Be _ (by omega),Be _ (by omega),by omega,by omega,BN _⟩,?_⟩
 refine And.symm ⟨λ c4=>?_,λ c4=>?_⟩
 ·try simp only [nrm] at c4
  have hE:Fr.sub r s=Fr.none:=Fr.bin_bad _ (.inl (CO c4))
  refine A4 ?_
  rw [hE];done
 try simp only [nrm] at c4
 refine ⟨(decide (s.z<0),(L s.z.natAbs),(L s.d),s.good),by
  rfl,by
  try dsimp only [AB]
  exact ⟨Be _ (by omega),Be _ (by omega),by omega,by omega,BN _⟩,?_⟩
 refine ⟨λ c8=>?_,λ c8=>?_⟩
 ·try simp only [nrm] at c8
  have hE:Fr.sub r s=Fr.none:=Fr.bin_bad _ (.inr (CO c8))
  refine A4 ?_
  rw [hE];done
 try simp only [nrm] at c8
 have hE:=XX r s
 refine ⟨s,by
  rfl,by
  trivial,?_⟩
 refine ⟨(r,s.opp),by
  rfl,by
  exact ⟨As c4,by rw [Fr.opp_d];exact As c8⟩,?_⟩
 refine BT ?_
 rw [hE];done
def Al:Con:={ ι:=Fr×Fr,pre:=λ i=>True,args:=λ i=>[dF i.1,dF i.2],res:=λ i=>⟨false,[some 3],[rcB (decide ((Fr.mul i.1 i.2).z<0)),.own 3 [.int] (L (Fr.mul i.1 i.2).z.natAbs),.own 3 [.int] (L (Fr.mul i.1 i.2).d)]⟩ }
theorem Hw:Al.Ok Tryz.prog 206:=by
 refine fok (X:=⟨tt,[(146,AB),(258,Hu)],[],17,[]⟩) AI AF (CTok.cons CC (CTok.cons Vk (CTok.nil _))) Tryz.func206 (λ _=>[]) ?_
 rintro ⟨r,s⟩ hpre
 have hpre:True:=hpre
 refine AH (q:=let Z1:=List (List Dat);∃ i1:Bool×Z1×Z1×Bool,[dF r]=AB.args i1/\AB.pre i1/\(ifB ((!(!i1.2.2.2))) (∃ i2:Bool×Z1×Z1×Bool,[dF s]=AB.args i2/\AB.pre i2/\(ifB ((!i2.2.2.2)) ((eqN (Fr.mul r s))) (∃ i3:Fr×Fr,[dF r,dF s]=Hu.args i3/\Hu.pre i3/\((eqC (Fr.mul i3.1 i3.2) (Fr.mul r s)))))) ((eqN (Fr.mul r s))))) (by kernel_rfl) ?_
 conv=>zeta
 delta ifB
 have h1:=r.nlz
 have h2:=r.nld
 have lr:=AQ r.d
 have lz:=AQ r.z.natAbs
 have h3:=s.nlz
 have h4:=s.nld
 have ls:=AQ s.d
 have lw:=AQ s.z.natAbs
 refine ⟨(decide (r.z<0),(L r.z.natAbs),(L r.d),r.good),by
  rfl,by
  try dsimp only [AB]
  exact ⟨Be _ (by omega),Be _ (by omega),by omega,by omega,BN _⟩,?_⟩
 refine And.symm ⟨λ c4=>?_,λ c4=>?_⟩
 ·try simp only [nrm] at c4
  have hE:Fr.mul r s=Fr.none:=Fr.bin_bad _ (.inl (CO c4))
  refine A4 ?_
  rw [hE];done
 try simp only [nrm] at c4
 refine ⟨(decide (s.z<0),(L s.z.natAbs),(L s.d),s.good),by
  rfl,by
  try dsimp only [AB]
  exact ⟨Be _ (by omega),Be _ (by omega),by omega,by omega,BN _⟩,?_⟩
 refine ⟨λ c8=>?_,λ c8=>?_⟩
 ·try simp only [nrm] at c8
  have hE:Fr.mul r s=Fr.none:=Fr.bin_bad _ (.inr (CO c8))
  refine A4 ?_
  rw [hE];done
 try simp only [nrm] at c8
 refine ⟨(r,s),by
  rfl,by
  exact ⟨As c4,As c8⟩,?_⟩
 exact BT rfl
def F5:Con:={ ι:=Fr×Fr,pre:=λ i=>True,args:=λ i=>[dF i.1,dF i.2],res:=λ i=>⟨false,[some 3],[rcB (decide ((Fr.div i.1 i.2).z<0)),.own 3 [.int] (L (Fr.div i.1 i.2).z.natAbs),.own 3 [.int] (L (Fr.div i.1 i.2).d)]⟩ }
theorem S5:F5.Ok Tryz.prog 141:=by
 refine fok (X:=⟨tt,[(146,AB),(203,AW),(202,BI)],[],34,[]⟩) AI AF (CTok.cons CC (CTok.cons FQ (CTok.cons LF (CTok.nil _)))) Tryz.func141 (λ _=>[]) ?_
 rintro ⟨r,s⟩ hpre
 have hpre:True:=hpre
 refine AH (q:=let Z1:=List (List Dat);∃ i1:Bool×Z1×Z1×Bool,[dF r]=AB.args i1/\AB.pre i1/\(ifB ((!(!i1.2.2.2))) (∃ i2:Bool×Z1×Z1×Bool,[dF s]=AB.args i2/\AB.pre i2/\(ifB ((!i2.2.2.2)) ((eqN (Fr.div r s))) (∃ i3:Nat×Nat,[DA.one (cS (L r.z.natAbs)),DA.one (cS (L s.d))]=AW.args i3/\AW.pre i3/\(∃ i4:Nat×Nat,[DA.one (cS (L r.d)),DA.one (cS (L s.z.natAbs))]=AW.args i4/\AW.pre i4/\(∃ i5:Bool×Nat×Nat×Int,[DA.one (cB ((decide (r.z<0)) != (decide (s.z<0)))),DA.one (cS (L (i3.1*i3.2))),DA.one (cS (L (i4.1*i4.2)))]=BI.args i5/\BI.pre i5/\((eqC (Gh i5.2.2.2 i5.2.2.1) (Fr.div r s)))))))) ((eqN (Fr.div r s))))) (by kernel_rfl) ?_
 conv=>zeta
 delta ifB
 have h1:=r.nlz
 have h2:=r.nld
 have lr:=AQ r.d
 have lz:=AQ r.z.natAbs
 have h3:=s.nlz
 have h4:=s.nld
 have ls:=AQ s.d
 have lw:=AQ s.z.natAbs
 refine ⟨(decide (r.z<0),(L r.z.natAbs),(L r.d),r.good),by
  rfl,by
  try dsimp only [AB]
  exact ⟨Be _ (by omega),Be _ (by omega),by omega,by omega,BN _⟩,?_⟩
 refine And.symm ⟨λ c4=>?_,λ c4=>?_⟩
 ·try simp only [nrm] at c4
  have hE:Fr.div r s=Fr.none:=Fr.bin_bad _ (.inl (CO c4))
  refine A4 ?_
  rw [hE];done
 try simp only [nrm] at c4
 refine ⟨(decide (s.z<0),(L s.z.natAbs),(L s.d),s.good),by
  rfl,by
  try dsimp only [AB]
  exact ⟨Be _ (by omega),Be _ (by omega),by omega,by omega,BN _⟩,?_⟩
 refine ⟨λ c8=>?_,λ c8=>?_⟩
 ·try simp only [nrm] at c8
  have hE:Fr.div r s=Fr.none:=Fr.bin_bad _ (.inr (CO c8))
  refine A4 ?_
  rw [hE];done
 try simp only [nrm] at c8
 have m0:=Ay r.z.natAbs s.d
 have m00:=Ay s.z.natAbs r.d
 have m1:=Bd r.z ((s.d:Nat):Int)
 have m2:=Bd s.z ((r.d:Nat):Int)
 rw [EB] at m1 m2
 have m3:=Fh (r.z*((s.d:Nat):Int)) (s.z*((r.d:Nat):Int))
 have m4:=Ay r.d s.d
 have m6:=Ay r.d s.z.natAbs
 have hE:=Yd (As c4) (As c8)
 refine ⟨(r.z.natAbs,s.d),by
  rfl,by
  show nl r.z.natAbs<=524288/\nl s.d<=524288
  exact ⟨by omega,by omega⟩,?_⟩
 refine ⟨(r.d,s.z.natAbs),by
  rfl,by
  show nl r.d<=524288/\nl s.z.natAbs<=524288
  exact ⟨by omega,by omega⟩,?_⟩
 refine ⟨(((decide (r.z<0)) != (decide (s.z<0))),(r.z.natAbs*s.d),(r.d*s.z.natAbs),(zOf ((decide (r.z<0)) != (decide (s.z<0))) (r.z.natAbs*s.d))),by
  rfl,by
  try dsimp only [BI]
  exact ⟨by omega,by omega,rfl⟩,?_⟩
 refine BT ?_
 rw [hE];done
def Ad:Con:={ ι:=Fr×Fr,pre:=λ i=>True,args:=λ i=>[dF i.1,dF i.2],res:=λ i=>⟨false,[none],[rcI (Fr.cmp i.1 i.2)]⟩ }
theorem Fj:Ad.Ok Tryz.prog 94:=by
 refine fok (X:=⟨tt,[(146,AB),(147,CN)],[],16,[]⟩) AI AF (CTok.cons CC (CTok.cons LG (CTok.nil _))) Tryz.func94 (λ _=>[]) ?_
 rintro ⟨r,s⟩ hpre
 have hpre:True:=hpre
 refine AH (q:=let Z2:=(vI (0:Int)=vI (Fr.cmp r s));let Z1:=List (List Dat);∃ i1:Bool×Z1×Z1×Bool,[dF r]=AB.args i1/\AB.pre i1/\(ifB ((!(!i1.2.2.2))) (∃ i2:Bool×Z1×Z1×Bool,[dF s]=AB.args i2/\AB.pre i2/\(ifB ((!i2.2.2.2)) Z2 (∃ i3:Fr×Fr,[dF r,dF s]=CN.args i3/\CN.pre i3/\((vI (Fr.cmp i3.1 i3.2)=vI (Fr.cmp r s)))))) Z2)) (by kernel_rfl) ?_
 conv=>zeta
 delta ifB vI
 have h1:=r.nlz
 have h2:=r.nld
 have lr:=AQ r.d
 have lz:=AQ r.z.natAbs
 have h3:=s.nlz
 have h4:=s.nld
 have ls:=AQ s.d
 have lw:=AQ s.z.natAbs
 refine ⟨(decide (r.z<0),(L r.z.natAbs),(L r.d),r.good),by
  rfl,by
  try dsimp only [AB]
  exact ⟨Be _ (by omega),Be _ (by omega),by omega,by omega,BN _⟩,?_⟩
 refine And.symm ⟨λ c4=>?_,λ c4=>?_⟩
 ·try simp only [nrm] at c4
  have hE:Fr.cmp r s=0:=Fr.cmp_bad (.inl (CO c4))
  rw [hE]
 try simp only [nrm] at c4
 refine ⟨(decide (s.z<0),(L s.z.natAbs),(L s.d),s.good),by
  rfl,by
  try dsimp only [AB]
  exact ⟨Be _ (by omega),Be _ (by omega),by omega,by omega,BN _⟩,?_⟩
 refine ⟨λ c8=>?_,λ c8=>?_⟩
 ·try simp only [nrm] at c8
  have hE:Fr.cmp r s=0:=Fr.cmp_bad (.inr (CO c8))
  rw [hE]
 try simp only [nrm] at c8
 refine ⟨(r,s),by
  rfl,by
  exact ⟨As c4,As c8⟩,?_⟩
 exact rfl
def Ce:Con:={ ι:=Fr,pre:=λ i=>True,args:=λ i=>[dF i],res:=λ i=>⟨false,[none],[rcI i.sgn]⟩ }
theorem Lr:Ce.Ok Tryz.prog 277:=by
 refine fok (X:=⟨tt,[(146,AB)],[],18,[]⟩) AI AF (CTok.cons CC (CTok.nil _)) Tryz.func277 (λ _=>[]) ?_
 intro (r:Fr) hpre
 have hpre:True:=hpre
 refine AH (q:=let Z1:=(vI (0:Int)=vI r.sgn);∃ i1:Bool×(List (List Dat))×(List (List Dat))×Bool,[dF r]=AB.args i1/\AB.pre i1/\(ifB ((!(!i1.2.2.2))) (ifB (((nI ((L r.z.natAbs).length)) == (0:Int))) Z1 (ifB (decide (r.z<0)) ((vI (-1:Int)=vI r.sgn)) ((vI (1:Int)=vI r.sgn)))) Z1)) (by kernel_rfl) ?_
 conv=>zeta
 delta ifB vI nI
 have h1:=r.nlz
 have h2:=r.nld
 have lr:=AQ r.d
 have lz:=AQ r.z.natAbs
 refine ⟨(decide (r.z<0),(L r.z.natAbs),(L r.d),r.good),by
  rfl,by
  try dsimp only [AB]
  exact ⟨Be _ (by omega),Be _ (by omega),by omega,by omega,BN _⟩,?_⟩
 refine And.symm ⟨λ c4=>?_,λ c4=>?_⟩
 ·try simp only [nrm] at c4
  have hz:r.z=0:=by rw [Fr.bad_z (CO c4)];rfl
  rw [Fr.sgn_z,hz];rfl
 try simp only [nrm] at c4
 refine ⟨λ c5=>?_,λ c5=>?_⟩
 ·try simp only [nrm] at c5
  have hz:r.z=0:=Zc (by omega)
  rw [Fr.sgn_z,hz];rfl
 try simp only [nrm] at c5
 have hz:r.z≠0:=XT (by omega)
 refine ⟨λ c7=>?_,λ c7=>?_⟩
 ·try simp only [nrm] at c7
  rw [Fr.sgn_z];unfold CQ;rw [if_pos (by omega)];done
 try simp only [nrm] at c7
 rw [Fr.sgn_z];unfold CQ;rw [if_neg (by omega),if_neg (by omega)];done
def C4:Con:={ ι:=Fr×Fr,pre:=λ i=>True,args:=λ i=>[dF i.1,dF i.2],res:=λ i=>⟨false,[some 3],[rcB (decide ((Fr.min i.1 i.2).z<0)),.own 3 [.int] (L (Fr.min i.1 i.2).z.natAbs),.own 3 [.int] (L (Fr.min i.1 i.2).d)]⟩ }
theorem Nf:C4.Ok Tryz.prog 160:=by
 refine fok (X:=⟨tt,[(146,AB),(147,CN),(148,Bi)],[],22,[]⟩) AI AF (CTok.cons CC (CTok.cons LG (CTok.cons Ne (CTok.nil _)))) Tryz.func160 (λ _=>[]) ?_
 rintro ⟨r,s⟩ hpre
 have hpre:True:=hpre
 refine AH (q:=let Z2:=Fr.min r s;let Z1:=List (List Dat);∃ i1:Bool×Z1×Z1×Bool,[dF r]=AB.args i1/\AB.pre i1/\(ifB ((!(!i1.2.2.2))) (∃ i2:Bool×Z1×Z1×Bool,[dF s]=AB.args i2/\AB.pre i2/\(ifB ((!i2.2.2.2)) ((eqN Z2)) (∃ i3:Fr×Fr,[dF r,dF s]=CN.args i3/\CN.pre i3/\(ifB ((decide ((Fr.cmp i3.1 i3.2)<=(0:Int)))) (∃ i4:Bool×Z1×Z1,[dF r]=Bi.args i4/\Bi.pre i4/\((vB i4.1=vB (decide (Z2.z<0)))/\(i4.2.1=L Z2.z.natAbs)/\(i4.2.2=L Z2.d))) (∃ i5:Bool×Z1×Z1,[dF s]=Bi.args i5/\Bi.pre i5/\((vB i5.1=vB (decide (Z2.z<0)))/\(i5.2.1=L Z2.z.natAbs)/\(i5.2.2=L Z2.d))))))) ((eqN Z2)))) (by kernel_rfl) ?_
 conv=>zeta
 delta ifB vB
 have h1:=r.nlz
 have h2:=r.nld
 have lr:=AQ r.d
 have lz:=AQ r.z.natAbs
 have h3:=s.nlz
 have h4:=s.nld
 have ls:=AQ s.d
 have lw:=AQ s.z.natAbs
 refine ⟨(decide (r.z<0),(L r.z.natAbs),(L r.d),r.good),by
  rfl,by
  try dsimp only [AB]
  exact ⟨Be _ (by omega),Be _ (by omega),by omega,by omega,BN _⟩,?_⟩
 refine And.symm ⟨λ c4=>?_,λ c4=>?_⟩
 ·try simp only [nrm] at c4
  have hE:Fr.min r s=Fr.none:=Fr.bin_bad _ (.inl (CO c4))
  refine A4 ?_
  rw [hE];done
 try simp only [nrm] at c4
 refine ⟨(decide (s.z<0),(L s.z.natAbs),(L s.d),s.good),by
  rfl,by
  try dsimp only [AB]
  exact ⟨Be _ (by omega),Be _ (by omega),by omega,by omega,BN _⟩,?_⟩
 refine ⟨λ c8=>?_,λ c8=>?_⟩
 ·try simp only [nrm] at c8
  have hE:Fr.min r s=Fr.none:=Fr.bin_bad _ (.inr (CO c8))
  refine A4 ?_
  rw [hE];done
 try simp only [nrm] at c8
 refine ⟨(r,s),by
  rfl,by
  exact ⟨As c4,As c8⟩,?_⟩
 refine ⟨λ c15=>?_,λ c15=>?_⟩
 ·try simp only [nrm] at c15
  have hE:Fr.min r s=r:=by rw [Fr.min_pick,if_neg (λ h=>h.elim (As c4) (As c8)),if_pos (by omega)]
  refine ⟨(decide (r.z<0),(L r.z.natAbs),(L r.d)),by
   rfl,by
   show (L r.z.natAbs).length<=1073741824/\(L r.d).length<=1073741824
   exact ⟨by omega,by omega⟩,?_⟩
  refine ⟨?_,?_,?_⟩
  ·rw [hE];done
  ·rw [hE];done
  rw [hE];done
 try simp only [nrm] at c15
 have hE:Fr.min r s=s:=by rw [Fr.min_pick,if_neg (λ h=>h.elim (As c4) (As c8)),if_neg (by omega)]
 refine ⟨(decide (s.z<0),(L s.z.natAbs),(L s.d)),by
  rfl,by
  show (L s.z.natAbs).length<=1073741824/\(L s.d).length<=1073741824
  exact ⟨by omega,by omega⟩,?_⟩
 refine ⟨?_,?_,?_⟩
 ·rw [hE];done
 ·rw [hE];done
 rw [hE];done
def F6:Con:={ ι:=Fr×Fr,pre:=λ i=>True,args:=λ i=>[dF i.1,dF i.2],res:=λ i=>⟨false,[some 3],[rcB (decide ((Fr.max i.1 i.2).z<0)),.own 3 [.int] (L (Fr.max i.1 i.2).z.natAbs),.own 3 [.int] (L (Fr.max i.1 i.2).d)]⟩ }
theorem S6:F6.Ok Tryz.prog 161:=by
 refine fok (X:=⟨tt,[(146,AB),(147,CN),(148,Bi)],[],22,[]⟩) AI AF (CTok.cons CC (CTok.cons LG (CTok.cons Ne (CTok.nil _)))) Tryz.func161 (λ _=>[]) ?_
 rintro ⟨r,s⟩ hpre
 have hpre:True:=hpre
 refine AH (q:=let Z2:=Fr.max r s;let Z1:=List (List Dat);∃ i1:Bool×Z1×Z1×Bool,[dF r]=AB.args i1/\AB.pre i1/\(ifB ((!(!i1.2.2.2))) (∃ i2:Bool×Z1×Z1×Bool,[dF s]=AB.args i2/\AB.pre i2/\(ifB ((!i2.2.2.2)) ((eqN Z2)) (∃ i3:Fr×Fr,[dF r,dF s]=CN.args i3/\CN.pre i3/\(ifB ((decide ((Fr.cmp i3.1 i3.2)≥(0:Int)))) (∃ i4:Bool×Z1×Z1,[dF r]=Bi.args i4/\Bi.pre i4/\((vB i4.1=vB (decide (Z2.z<0)))/\(i4.2.1=L Z2.z.natAbs)/\(i4.2.2=L Z2.d))) (∃ i5:Bool×Z1×Z1,[dF s]=Bi.args i5/\Bi.pre i5/\((vB i5.1=vB (decide (Z2.z<0)))/\(i5.2.1=L Z2.z.natAbs)/\(i5.2.2=L Z2.d))))))) ((eqN Z2)))) (by kernel_rfl) ?_
 conv=>zeta
 delta ifB vB
 have h1:=r.nlz
 have h2:=r.nld
 have lr:=AQ r.d
 have lz:=AQ r.z.natAbs
 have h3:=s.nlz
 have h4:=s.nld
 have ls:=AQ s.d
 have lw:=AQ s.z.natAbs
 refine ⟨(decide (r.z<0),(L r.z.natAbs),(L r.d),r.good),by
  rfl,by
  try dsimp only [AB]
  exact ⟨Be _ (by omega),Be _ (by omega),by omega,by omega,BN _⟩,?_⟩
 refine And.symm ⟨λ c4=>?_,λ c4=>?_⟩
 ·try simp only [nrm] at c4
  have hE:Fr.max r s=Fr.none:=Fr.bin_bad _ (.inl (CO c4))
  refine A4 ?_
  rw [hE];done
 try simp only [nrm] at c4
 refine ⟨(decide (s.z<0),(L s.z.natAbs),(L s.d),s.good),by
  rfl,by
  try dsimp only [AB]
  exact ⟨Be _ (by omega),Be _ (by omega),by omega,by omega,BN _⟩,?_⟩
 refine ⟨λ c8=>?_,λ c8=>?_⟩
 ·try simp only [nrm] at c8
  have hE:Fr.max r s=Fr.none:=Fr.bin_bad _ (.inr (CO c8))
  refine A4 ?_
  rw [hE];done
 try simp only [nrm] at c8
 refine ⟨(r,s),by
  rfl,by
  exact ⟨As c4,As c8⟩,?_⟩
 refine ⟨λ c15=>?_,λ c15=>?_⟩
 ·try simp only [nrm] at c15
  have hE:Fr.max r s=r:=by rw [Fr.max_pick,if_neg (λ h=>h.elim (As c4) (As c8)),if_pos (by omega)]
  refine ⟨(decide (r.z<0),(L r.z.natAbs),(L r.d)),by
   rfl,by
   show (L r.z.natAbs).length<=1073741824/\(L r.d).length<=1073741824
   exact ⟨by omega,by omega⟩,?_⟩
  refine ⟨?_,?_,?_⟩
  ·rw [hE];done
  ·rw [hE];done
  rw [hE];done
 try simp only [nrm] at c15
 have hE:Fr.max r s=s:=by rw [Fr.max_pick,if_neg (λ h=>h.elim (As c4) (As c8)),if_neg (by omega)]
 refine ⟨(decide (s.z<0),(L s.z.natAbs),(L s.d)),by
  rfl,by
  show (L s.z.natAbs).length<=1073741824/\(L s.d).length<=1073741824
  exact ⟨by omega,by omega⟩,?_⟩
 refine ⟨?_,?_,?_⟩
 ·rw [hE];done
 ·rw [hE];done
 rw [hE];done
end Go.Proofs.YtmedodfenejimaaGreat
