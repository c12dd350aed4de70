import Derived.Test.YtmedodfenejimaaGreatLkRkD
namespace Go.Proofs.YtmedodfenejimaaGreat
set_option maxRecDepth 100000
set_option linter.unusedVariables false
set_option linter.unusedSimpArgs false
open Go.RowKit
theorem EE (z:Int) (d:Nat):zOf (decide (z<0)) (z.natAbs*d)=z*((d:Nat):Int):=by
 have h:=Jq z ((d:Nat):Int)
 rw [Tw,Int.natAbs_natCast] at h
 rw [← h]
 cases decide (z<0) <;> rfl
theorem Uu {neg:Bool} {m k:Nat} (h:m=0->k=0):zOf (decide (zOf neg m<0)) k=zOf neg k:=by
 cases neg
 ·have:decide (zOf false m<0)=false:=decide_eq_false (by unfold zOf;simp)
  rw [this]
 ·by_cases hm:m=0
  ·rw [h hm];unfold zOf;simp
  ·have:decide (zOf true m<0)=true:=decide_eq_true (by unfold zOf;simp;omega)
   rw [this]
def GO (z:Int) (d:Nat):Fr:=if d=0 then Fr.none else Fr.mk' z d
theorem IY {z:Int} {d:Nat} (h:d≠0):GO z d=Fr.mk' z d:=by unfold GO;rw [if_neg h]
theorem Vv {z:Int} {d:Nat} (h:d=0):GO z d=Fr.none:=by unfold GO;rw [if_pos h]
theorem D7 {neg:Bool} {m d M D:Nat} {z:Int} (hz:zOf neg m=z) (hd:d≠0) (eM:m/m.gcd d=M) (eD:d/m.gcd d=D) (h1:nl M<=24) (h2:nl D<=24):(GO z d).z=zOf neg M/\(GO z d).d=D:=by
 have ha:z.natAbs=m:=by rw [← hz,D2]
 have hf:=DX (z:=z) hd (by rw [ha,eM];exact h1) (by rw [ha,eD];exact h2)
 rw [IY hd]
 rw [ha,eM,eD] at hf
 refine ⟨?_,hf.2.2⟩
 rw [← EV (Fr.mk' z d).z,hf.1,hf.2.1,← hz]
 exact Uu λ e=>by rw [← eM,e,Nat.zero_div]
theorem EF {neg:Bool} {m d M D:Nat} {z:Int} (hz:zOf neg m=z) (hd:d≠0) (eM:m/m.gcd d=M) (eD:d/m.gcd d=D) (h:¬ (nl M<=24/\nl D<=24)):GO z d=Fr.none:=by
 have ha:z.natAbs=m:=by rw [← hz,D2]
 rw [IY hd,EW hd (by rw [ha,eM,eD];exact h)]
theorem VP:[[Dat.int (1:Int)]]=L 1:=Tp (by decide) (by decide)
theorem DD (e:Nat) {n:Nat} (h:nl n<=9223372036854775807):Dat.has (.sl e [.int]) (.sl (L n)):=by
 refine ⟨by rw [AN];exact h,λ k hk=>?_⟩
 unfold L
 rw [Kw (by rw [AN] at hk;exact hk)]
 simp [hasRow,Dat.has]
theorem CM (r:Fr):AZ (decide (r.z<0)) (L r.z.natAbs) (L r.d)=r.good:=by
 rw [← Fr.neg_z,← Fr.num_z,← Fr.den_d];exact Rw r
theorem Pd {m:List (List Dat)} (h:Ay m=true):BZ true m=decide (((m.length:Nat):Int)>(0:Int)):=by
 rw [K8 h]
 by_cases hv:m.length=0
 ·rw [hv];rfl
 ·rw [decide_eq_true (by omega)]
  have:((((m.length:Nat):Int)) == (0:Int))=false:=by rw [beq_eq_false_iff_ne];omega
  rw [this];rfl
theorem T3 (r s:Fr):Fr.sub r s=Fr.add r s.opp:=(Fr.sub_opp r s).symm
theorem T4 {r s:Fr} (hr:r.d=1) (hs:s.d=1):Fr.add r s=GO (r.z+s.z) 1:=by
 rw [Fr.add_zd (by omega) (by omega),IY (by decide),hr,hs]
 show Fr.mk' (r.z*1+s.z*1) (1*1)=_
 rw [Int.mul_one,Int.mul_one]
theorem Qz {r s:Fr} (hr:r.d≠0) (hs:s.d≠0):Fr.add r s=GO (r.z*((s.d:Nat):Int)+s.z*((r.d:Nat):Int)) (r.d*s.d):=by
 rw [Fr.add_zd hr hs,IY (Nat.mul_ne_zero hr hs)]
theorem Uv {r s:Fr} (hr:r.d≠0) (hs:s.d≠0):Fr.mul r s=GO (r.z*s.z) (r.d*s.d):=by
 rw [Fr.mul_zd hr hs,IY (Nat.mul_ne_zero hr hs)]
def DY:Con:={ ι:=Bool×(List (List Dat)),pre:=λ i=>i.2.length<=9223372036854775807,args:=λ i=>[DA.agg [cB i.1,cS i.2]],res:=λ i=>⟨false,[none],[rcB (BZ i.1 i.2)]⟩ }
theorem Mt:DY.Ok Tryz.prog 207:=by
 refine fok (X:=⟨tt,[(208,Bb)],[],17,[]⟩) mixed AH (CTok.cons I9 (CTok.nil _)) Tryz.func207 (λ _=>[]) ?_
 rintro ⟨neg,m⟩ hpre
 have hpre:m.length<=9223372036854775807:=hpre
 refine AI (q:=let Z1:=BZ neg m;∃ i1:(List (List Dat)),[DA.one (cS m)]=Bb.args i1/\Bb.pre i1/\(ifB ((Ay i1)) (ifB ((!(!neg))) ((vB (decide ((nI m.length)>(0:Int)))=vB Z1)) ((vB true=vB Z1))) ((vB false=vB Z1)))) (by kernel_rfl) ?_
 conv=>zeta
 delta ifB vB nI
 refine ⟨m,by
  rfl,by
  trivial,?_⟩
 refine And.symm ⟨λ c4=>?_,λ c4=>?_⟩
 ·try simp only [nrm] at c4
  unfold BZ;rw [c4];rfl
 try simp only [nrm] at c4
 refine ⟨λ c5=>?_,λ c5=>?_⟩
 ·try simp only [nrm] at c5
  rw [c5,Pd c4];done
 try simp only [nrm] at c5
 unfold BZ;rw [c4,c5];rfl
def AK:Con:={ ι:=Bool×Nat×Int,pre:=λ i=>nl i.2.1<=60/\zOf i.1 i.2.1=i.2.2,args:=λ i=>[.one (cB i.1),.one (cS (L i.2.1))],res:=λ i=>⟨false,[some 2],[rcB (decide (i.2.2<0)),.own 3 [.int] (L i.2.2.natAbs)]⟩ }
theorem DQ:AK.Ok Tryz.prog 199:=by
 refine fok (X:=⟨tt,[(254,GM)],[],18,[]⟩) mixed AH (CTok.cons R6 (CTok.nil _)) Tryz.func199 (λ _=>[]) ?_
 rintro ⟨neg,m,z⟩ hpre
 have hpre:nl m<=60/\zOf neg m=z:=hpre
 refine AI (q:=∃ i1:Nat,let Z1:=(([]:List (List Dat))++L i1)=L z.natAbs;[DA.one (cS (L m))]=GM.args i1/\GM.pre i1/\(ifB (neg) ((([]:List (List Dat)).length+(L i1).length<=1073741824)/\((vB (decide ((nI ((L i1).length))>(0:Int)))=vB (decide (z<0)))/\Z1)) ((([]:List (List Dat)).length+(L i1).length<=1073741824)/\((vB false=vB (decide (z<0)))/\Z1)))) (by kernel_rfl) ?_
 conv=>zeta
 delta ifB vB nI
 refine ⟨m,by
  rfl,by
  exact hpre.1,?_⟩
 refine ⟨λ c4=>?_,λ c4=>?_⟩
 ·try simp only [nrm] at c4
  refine ao (by first|(rw [AN];simp only [List.length_nil];omega)) λ o5=>?_
  refine ⟨?_,?_⟩
  ·rw [← hpre.2]
   rw [Jr,c4];rfl
  rw [← hpre.2]
  rw [D2];exact List.nil_append _
 try simp only [nrm] at c4
 refine ao (by first|(rw [AN];simp only [List.length_nil];omega)) λ o8=>?_
 refine ⟨?_,?_⟩
 ·rw [← hpre.2]
  rw [Jr,c4];rfl
 rw [← hpre.2]
 rw [D2];exact List.nil_append _
def DZ:Con:={ ι:=Int,pre:=λ i=>-9223372036854775808<=i/\i<=9223372036854775807,args:=λ i=>[.one (cI i)],res:=λ i=>⟨false,[some 2],[rcB (decide (i<0)),.own 3 [.int] (L i.natAbs)]⟩ }
theorem Mu:DZ.Ok Tryz.prog 137:=by
 refine fok (X:=⟨tt,[(199,AK),(200,At)],[],16,[]⟩) mixed AH (CTok.cons DQ (CTok.cons He (CTok.nil _))) Tryz.func137 (λ _=>[]) ?_
 intro (n:Int) hpre
 have hpre:-9223372036854775808<=n/\n<=9223372036854775807:=hpre
 refine AI (q:=let Z1:=decide (n<0);ifB ((n == (-9223372036854775808:Int))) (∃ i1:Bool×Nat×Int,[DA.one (cB true),DA.one (cS ([[Dat.int (854775808:Int)],[Dat.int (223372036:Int)],[Dat.int (9:Int)]]:List (List Dat)))]=AK.args i1/\AK.pre i1/\((vB (decide (i1.2.2<0))=vB Z1)/\(L i1.2.2.natAbs=L n.natAbs))) (ifB ((decide (n<(0:Int)))) (∃ i2:Nat,[DA.one (cI (wR (0-n)))]=At.args i2/\At.pre i2/\(∃ i3:Bool×Nat×Int,[DA.one (cB true),DA.one (cS (L i2))]=AK.args i3/\AK.pre i3/\((vB (decide (i3.2.2<0))=vB Z1)/\(L i3.2.2.natAbs=L n.natAbs)))) (∃ i4:Nat,[DA.one (cI n)]=At.args i4/\At.pre i4/\(∃ i5:Bool×Nat×Int,[DA.one (cB false),DA.one (cS (L i4))]=AK.args i5/\AK.pre i5/\((vB (decide (i5.2.2<0))=vB Z1)/\(L i5.2.2.natAbs=L n.natAbs)))))) (by kernel_rfl) ?_
 conv=>zeta
 delta ifB vB wR
 refine ⟨λ c1=>?_,λ c1=>?_⟩
 ·try simp only [nrm] at c1
  refine ⟨(true,9223372036854775808,n),by
   rw [Xq];rfl,by
   show nl 9223372036854775808<=60/\zOf true 9223372036854775808=n
   exact ⟨Nat.le_trans ((DI 3 _).2 (by decide)) (by decide),by unfold zOf;rw [if_pos rfl];omega⟩,?_⟩
  exact ⟨rfl,rfl⟩
 try simp only [nrm] at c1
 refine ⟨λ c7=>?_,λ c7=>?_⟩
 ·try simp only [nrm] at c7
  have en:IntKind.i64.wrap (0-n)=(((-n).toNat:Nat):Int):=by rw [AD (by omega) (by omega)];omega
  have ea:n.natAbs=(-n).toNat:=by omega
  refine ⟨(-n).toNat,by
   rw [en];rfl,by
   show ((-n).toNat)<=9223372036854775807
   omega,?_⟩
  refine ⟨(true,(-n).toNat,n),by
   rfl,by
   show nl ((-n).toNat)<=60/\zOf true ((-n).toNat)=n
   exact ⟨Nat.le_trans (by rw [← ea];exact FQ hpre) (by decide),by unfold zOf;rw [if_pos rfl];omega⟩,?_⟩
  exact ⟨rfl,rfl⟩
 try simp only [nrm] at c7
 have en:n=((n.toNat:Nat):Int):=by omega
 have ea:n.natAbs=n.toNat:=by omega
 refine ⟨n.toNat,by
  show [DA.one (DC.im (Value.int .i64 n))]=[DA.one (DC.im (Value.int .i64 ((n.toNat:Nat):Int)))]
  rw [← en],by
  show n.toNat<=9223372036854775807
  omega,?_⟩
 refine ⟨(false,n.toNat,n),by
  rfl,by
  show nl n.toNat<=60/\zOf false n.toNat=n
  exact ⟨Nat.le_trans (by rw [← ea];exact FQ hpre) (by decide),by unfold zOf;rw [if_neg (by decide)];omega⟩,?_⟩
 exact ⟨rfl,rfl⟩
def CD:Con:={ ι:=Int×Int,pre:=λ i=>nl i.1.natAbs<=59/\nl i.2.natAbs<=59,args:=λ i=>[dB i.1,dB i.2],res:=λ i=>⟨false,[some 2],[rcB (decide ((i.1+i.2)<0)),.own 3 [.int] (L (i.1+i.2).natAbs)]⟩ }
theorem R8:CD.Ok Tryz.prog 257:=by
 refine fok (X:=⟨tt,[(303,GN),(199,AK),(261,AO),(302,Bc)],[],40,[]⟩) mixed AH (CTok.cons R7 (CTok.cons DQ (CTok.cons Fm (CTok.cons MG (CTok.nil _))))) Tryz.func257 (λ _=>[]) ?_
 rintro ⟨x,y⟩ hpre
 have hpre:nl x.natAbs<=59/\nl y.natAbs<=59:=hpre
 refine AI (q:=let Z4:=decide (x<0);let Z3:=decide ((x+y)<0);let Z2:=cS (L y.natAbs);let Z1:=cS (L x.natAbs);ifB ((Z4 == (decide (y<0)))) (∃ i1:Nat×Nat,[DA.one Z1,DA.one Z2]=GN.args i1/\GN.pre i1/\(∃ i2:Bool×Nat×Int,[DA.one (cB Z4),DA.one (cS (L (i1.1+i1.2)))]=AK.args i2/\AK.pre i2/\((vB (decide (i2.2.2<0))=vB Z3)/\(L i2.2.2.natAbs=L (x+y).natAbs)))) (∃ i3:Nat×Nat,[DA.one Z1,DA.one Z2]=AO.args i3/\AO.pre i3/\(ifB ((decide ((BP i3.1 i3.2)≥(0:Int)))) (∃ i4:Nat×Nat,[DA.one Z1,DA.one Z2]=Bc.args i4/\Bc.pre i4/\(∃ i5:Bool×Nat×Int,[DA.one (cB Z4),DA.one (cS (L (i4.1-i4.2)))]=AK.args i5/\AK.pre i5/\((vB (decide (i5.2.2<0))=vB Z3)/\(L i5.2.2.natAbs=L (x+y).natAbs)))) (∃ i6:Nat×Nat,[DA.one Z2,DA.one Z1]=Bc.args i6/\Bc.pre i6/\(∃ i7:Bool×Nat×Int,[DA.one (cB (decide (y<0))),DA.one (cS (L (i6.1-i6.2)))]=AK.args i7/\AK.pre i7/\((vB (decide (i7.2.2<0))=vB Z3)/\(L i7.2.2.natAbs=L (x+y).natAbs))))))) (by kernel_rfl) ?_
 conv=>zeta
 delta ifB vB
 have hs:=I2 x.natAbs y.natAbs
 have hs1:=C5 (Nat.sub_le x.natAbs y.natAbs)
 have hs2:=C5 (Nat.sub_le y.natAbs x.natAbs)
 refine ⟨λ c1=>?_,λ c1=>?_⟩
 ·try simp only [nrm] at c1
  refine ⟨(x.natAbs,y.natAbs),by
   rfl,by
   show nl x.natAbs<=1048576/\nl y.natAbs<=1048576
   exact ⟨by omega,by omega⟩,?_⟩
  refine ⟨(decide (x<0),x.natAbs+y.natAbs,x+y),by
   rfl,by
   show nl (x.natAbs+y.natAbs)<=60/\zOf (decide (x<0)) (x.natAbs+y.natAbs)=(x+y)
   exact ⟨by omega,K3 c1⟩,?_⟩
  exact ⟨rfl,rfl⟩
 try simp only [nrm] at c1
 refine ⟨(x.natAbs,y.natAbs),by
  rfl,by
  show nl x.natAbs<=1048576/\nl y.natAbs<=1048576
  exact ⟨by omega,by omega⟩,?_⟩
 refine ⟨λ c13=>?_,λ c13=>?_⟩
 ·try simp only [nrm] at c13
  refine ⟨(x.natAbs,y.natAbs),by
   rfl,by
   show nl x.natAbs<=1048576/\nl y.natAbs<=1048576/\y.natAbs<=x.natAbs
   exact ⟨by omega,by omega,EU.1 c13⟩,?_⟩
  refine ⟨(decide (x<0),x.natAbs-y.natAbs,x+y),by
   rfl,by
   show nl (x.natAbs-y.natAbs)<=60/\zOf (decide (x<0)) (x.natAbs-y.natAbs)=(x+y)
   exact ⟨by omega,IX c1 (EU.1 c13)⟩,?_⟩
  exact ⟨rfl,rfl⟩
 try simp only [nrm] at c13
 refine ⟨(y.natAbs,x.natAbs),by
  rfl,by
  show nl y.natAbs<=1048576/\nl x.natAbs<=1048576/\x.natAbs<=y.natAbs
  exact ⟨by omega,by omega,Nat.le_of_lt (C6.1 c13)⟩,?_⟩
 refine ⟨(decide (y<0),y.natAbs-x.natAbs,x+y),by
  rfl,by
  show nl (y.natAbs-x.natAbs)<=60/\zOf (decide (y<0)) (y.natAbs-x.natAbs)=(x+y)
  exact ⟨by omega,K4 c1 (Nat.le_of_lt (C6.1 c13))⟩,?_⟩
 exact ⟨rfl,rfl⟩
def GP:Con:={ ι:=Int×Int,pre:=λ i=>nl i.1.natAbs<=59/\nl i.2.natAbs<=59,args:=λ i=>[dB i.1,dB i.2],res:=λ i=>⟨false,[none],[rcI (Bf i.1 i.2)]⟩ }
theorem R9:GP.Ok Tryz.prog 211:=by
 refine fok (X:=⟨tt,[(261,AO)],[],34,[]⟩) mixed AH (CTok.cons Fm (CTok.nil _)) Tryz.func211 (λ _=>[]) ?_
 rintro ⟨x,y⟩ hpre
 have hpre:nl x.natAbs<=59/\nl y.natAbs<=59:=hpre
 refine AI (q:=let Z5:=decide (y<0);let Z4:=Bf x y;let Z6:=(vI (1:Int)=vI Z4);let Z3:=decide (x<0);let Z2:=cS (L x.natAbs);let Z1:=cS (L y.natAbs);ifB Z3 (ifB ((!Z5)) ((vI (-1:Int)=vI Z4)) (ifB ((!Z3)) (ifB Z5 Z6 (ifB Z3 (∃ i1:Nat×Nat,[DA.one Z1,DA.one Z2]=AO.args i1/\AO.pre i1/\((vI (BP i1.1 i1.2)=vI Z4))) (∃ i2:Nat×Nat,[DA.one Z2,DA.one Z1]=AO.args i2/\AO.pre i2/\((vI (BP i2.1 i2.2)=vI Z4))))) (ifB Z3 (∃ i3:Nat×Nat,[DA.one Z1,DA.one Z2]=AO.args i3/\AO.pre i3/\((vI (BP i3.1 i3.2)=vI Z4))) (∃ i4:Nat×Nat,[DA.one Z2,DA.one Z1]=AO.args i4/\AO.pre i4/\((vI (BP i4.1 i4.2)=vI Z4)))))) (ifB ((!Z3)) (ifB Z5 Z6 (ifB Z3 (∃ i5:Nat×Nat,[DA.one Z1,DA.one Z2]=AO.args i5/\AO.pre i5/\((vI (BP i5.1 i5.2)=vI Z4))) (∃ i6:Nat×Nat,[DA.one Z2,DA.one Z1]=AO.args i6/\AO.pre i6/\((vI (BP i6.1 i6.2)=vI Z4))))) (ifB Z3 (∃ i7:Nat×Nat,[DA.one Z1,DA.one Z2]=AO.args i7/\AO.pre i7/\((vI (BP i7.1 i7.2)=vI Z4))) (∃ i8:Nat×Nat,[DA.one Z2,DA.one Z1]=AO.args i8/\AO.pre i8/\((vI (BP i8.1 i8.2)=vI Z4)))))) (by kernel_rfl) ?_
 conv=>zeta
 delta ifB vI
 refine And.symm ⟨λ c1=>?_,λ c1=>?_⟩
 ·try simp only [nrm] at c1
  refine And.symm ⟨λ c25=>?_,λ c25=>?_⟩
  ·try simp only [nrm] at c25
   refine ⟨λ c37=>?_,λ c37=>?_⟩
   ·try simp only [nrm] at c37
    refine ⟨(y.natAbs,x.natAbs),by
     rfl,by
     exact ⟨by omega,by omega⟩,?_⟩
    exfalso;omega
   try simp only [nrm] at c37
   refine ⟨(x.natAbs,y.natAbs),by
    rfl,by
    exact ⟨by omega,by omega⟩,?_⟩
   exfalso;omega
  try simp only [nrm] at c25
  refine ⟨λ c26=>?_,λ c26=>?_⟩
  ·try simp only [nrm] at c26
   rw [← Qw (by omega) (by omega)]
  try simp only [nrm] at c26
  refine ⟨λ c28=>?_,λ c28=>?_⟩
  ·try simp only [nrm] at c28
   refine ⟨(y.natAbs,x.natAbs),by
    rfl,by
    exact ⟨by omega,by omega⟩,?_⟩
   exfalso;omega
  try simp only [nrm] at c28
  refine ⟨(x.natAbs,y.natAbs),by
   rfl,by
   show nl x.natAbs<=1048576/\nl y.natAbs<=1048576
   exact ⟨by omega,by omega⟩,?_⟩
  rw [Qu (by omega) (by omega)]
 try simp only [nrm] at c1
 refine ⟨λ c2=>?_,λ c2=>?_⟩
 ·try simp only [nrm] at c2
  rw [← Qv (by omega) (by omega)]
 try simp only [nrm] at c2
 refine And.symm ⟨λ c4=>?_,λ c4=>?_⟩
 ·try simp only [nrm] at c4
  refine And.symm ⟨λ c16=>?_,λ c16=>?_⟩
  ·try simp only [nrm] at c16
   refine ⟨(x.natAbs,y.natAbs),by
    rfl,by
    exact ⟨by omega,by omega⟩,?_⟩
   exfalso;omega
  try simp only [nrm] at c16
  refine ⟨(y.natAbs,x.natAbs),by
   rfl,by
   show nl y.natAbs<=1048576/\nl x.natAbs<=1048576
   exact ⟨by omega,by omega⟩,?_⟩
  rw [Qt (by omega) (by omega)]
 try simp only [nrm] at c4
 refine ⟨λ c5=>?_,λ c5=>?_⟩
 ·try simp only [nrm] at c5
  exfalso;omega
 try simp only [nrm] at c5
 refine ⟨λ c7=>?_,λ c7=>?_⟩
 ·try simp only [nrm] at c7
  refine ⟨(y.natAbs,x.natAbs),by
   rfl,by
   exact ⟨by omega,by omega⟩,?_⟩
  exfalso;omega
 try simp only [nrm] at c7
 refine ⟨(x.natAbs,y.natAbs),by
  rfl,by
  exact ⟨by omega,by omega⟩,?_⟩
 exfalso;omega
def A3:Con:={ ι:=Nat,pre:=λ i=>True,args:=λ i=>[.one (cS (L i))],res:=λ i=>⟨false,[none],[rcB (decide (i=1))]⟩ }
theorem JA:A3.Ok Tryz.prog 209:=by
 refine fok (X:=⟨tt,[],[],12,[]⟩) mixed AH (CTok.nil _) Tryz.func209 (λ _=>[]) ?_
 intro (a:Nat) hpre
 have hpre:True:=hpre
 refine AI (q:=ifB (((nI ((L a).length)) == (1:Int))) ((0<=(0:Int)/\(0:Int)<((L a).length:Int))/\((0<(L a).length)/\((vB (((((L a).getD 0 []).getD 0 (.int 0))).n == (1:Int))=vB (decide (a=1)))))) ((vB false=vB (decide (a=1))))) (by kernel_rfl) ?_
 delta ifB vB nI
 have ha:=AN a
 refine And.symm ⟨λ c1=>?_,λ c1=>?_⟩
 ·try simp only [nrm] at c1
  exact congrArg Value.bool (decide_eq_false (λ e=>by subst e;rw [PZ] at ha;omega)).symm
 try simp only [nrm] at c1
 have h1:=G7 (b:=a) (by omega)
 refine ao (by omega) λ o2=>?_
 refine ao (by omega) λ o3=>?_
 rw [L_n,h1.1]
 exact congrArg Value.bool (by rw [Bool.eq_iff_iff,beq_iff_eq,decide_eq_true_iff];omega)
def A9:Con:={ ι:=Bool×Nat×Nat×Int,pre:=λ i=>nl i.2.1<=1000/\nl i.2.2.1<=1000/\zOf i.1 i.2.1=i.2.2.2,args:=λ i=>[.one (cB i.1),.one (cS (L i.2.1)),.one (cS (L i.2.2.1))],res:=λ i=>⟨false,[some 3],[rcB (decide ((GO i.2.2.2 i.2.2.1).z<0)),.own 3 [.int] (L (GO i.2.2.2 i.2.2.1).z.natAbs),.own 3 [.int] (L (GO i.2.2.2 i.2.2.1).d)]⟩ }
theorem MJ:A9.Ok Tryz.prog 202:=by
 refine fok (X:=⟨tt,[(255,AR),(209,A3),(210,Cd),(256,BO),(199,AK)],[],55,[]⟩) mixed AH (CTok.cons DP (CTok.cons JA (CTok.cons MI (CTok.cons MH (CTok.cons DQ (CTok.nil _)))))) Tryz.func202 (λ _=>[]) ?_
 rintro ⟨neg,m,d,z⟩ hpre
 have hpre:nl m<=1000/\nl d<=1000/\zOf neg m=z:=hpre
 refine AI (q:=let Z9:=List Dat;let Z1:=GO z d;let Z7:=decide (Z1.z<0);let Z6:=(eqN Z1);∃ i1:(List Nat)×Nat,let Z8:=cS (L i1.2);let Z2:=(!(decide ((nI ((L i1.2).length))>(24:Int))));[DA.one (cS (L m))]=AR.args i1/\AR.pre i1/\(∃ i2:(List Nat)×Nat,let Z4:=(([]:List Z9)++L i2.2)=L Z1.d;let Z3:=(decide ((nI ((L i2.2).length))>(24:Int)));[DA.one (cS (L d))]=AR.args i2/\AR.pre i2/\(ifB (((nI ((L i2.2).length)) == (0:Int))) Z6 (∃ i3:Nat,[DA.one (cS (L i2.2))]=A3.args i3/\A3.pre i3/\(ifB ((!(decide (i3=1)))) (∃ i4:Nat×Nat,let Z5:=cS (L (i4.1.gcd i4.2));[DA.one Z8,DA.one (cS (L i2.2))]=Cd.args i4/\Cd.pre i4/\(∃ i5:Nat,[DA.one Z5]=A3.args i5/\A3.pre i5/\(ifB ((!(decide (i5=1)))) (∃ i6:Nat×Nat,[DA.one Z8,DA.one Z5]=BO.args i6/\BO.pre i6/\(∃ i7:Nat×Nat,[DA.one (cS (L i2.2)),DA.one Z5]=BO.args i7/\BO.pre i7/\(ifB ((!(decide ((nI ((L (i6.1/i6.2)).length))>(24:Int))))) (ifB ((decide ((nI ((L (i7.1/i7.2)).length))>(24:Int)))) Z6 (∃ i8:Bool×Nat×Int,[DA.one (cB neg),DA.one (cS (L (i6.1/i6.2)))]=AK.args i8/\AK.pre i8/\((([]:List Z9).length+(L (i7.1/i7.2)).length<=1073741824)/\((vB (decide (i8.2.2<0))=vB Z7)/\(L i8.2.2.natAbs=L Z1.z.natAbs)/\((([]:List Z9)++L (i7.1/i7.2))=L Z1.d))))) Z6))) (ifB Z2 (ifB Z3 Z6 (∃ i9:Bool×Nat×Int,[DA.one (cB neg),DA.one Z8]=AK.args i9/\AK.pre i9/\((([]:List Z9).length+(L i2.2).length<=1073741824)/\((vB (decide (i9.2.2<0))=vB Z7)/\(L i9.2.2.natAbs=L Z1.z.natAbs)/\Z4)))) Z6)))) (ifB Z2 (ifB Z3 Z6 (∃ i10:Bool×Nat×Int,[DA.one (cB neg),DA.one Z8]=AK.args i10/\AK.pre i10/\((([]:List Z9).length+(L i2.2).length<=1073741824)/\((vB (decide (i10.2.2<0))=vB Z7)/\(L i10.2.2.natAbs=L Z1.z.natAbs)/\Z4)))) Z6)))))) (by kernel_rfl) ?_
 conv=>zeta
 delta ifB vB nI
 refine ⟨(dig m,m),by
  rfl,by
  exact ⟨by show nl _<=_;omega,Ks _,Fc _⟩,?_⟩
 refine ⟨(dig d,d),by
  rfl,by
  exact ⟨by show nl _<=_;omega,Ks _,Fc _⟩,?_⟩
 refine ⟨λ c7=>?_,λ c7=>?_⟩
 ·try simp only [nrm] at c7
  have hE:GO z d=Fr.none:=Vv (G9 (by omega))
  refine Ba ?_
  rw [hE];done
 try simp only [nrm] at c7
 have hd:d≠0:=λ e=>by subst e;rw [AN,B0] at c7;omega
 have hg:=Qy (a:=m) hd
 refine ⟨d,by
  rfl,by
  trivial,?_⟩
 refine And.symm ⟨λ c14=>?_,λ c14=>?_⟩
 ·try simp only [nrm] at c14
  have e1:m.gcd d=1:=by rw [c14];exact Nat.gcd_one_right _
  have eM:m/m.gcd d=m:=by rw [e1,Nat.div_one]
  have eD:d/m.gcd d=d:=by rw [e1,Nat.div_one]
  have lm:=AN m
  have ld:=AN d
  refine And.symm ⟨λ c58=>?_,λ c58=>?_⟩
  ·try simp only [nrm] at c58
   refine Ba ?_
   rw [EF hpre.2.2 hd eM eD (by omega)];done
  try simp only [nrm] at c58
  refine ⟨λ c59=>?_,λ c59=>?_⟩
  ·try simp only [nrm] at c59
   refine Ba ?_
   rw [EF hpre.2.2 hd eM eD (by omega)];done
  try simp only [nrm] at c59
  refine ⟨(neg,m,(zOf neg m)),by
   rfl,by
   show nl m<=60/\zOf neg m=(zOf neg m)
   exact ⟨by omega,by omega⟩,?_⟩
  refine ao (a:=([]:List (List Dat)).length+(L d).length<=1073741824) (by simp only [List.length_nil];omega) λ o66=>?_
  refine ⟨?_,?_,?_⟩
  ·rw [(D7 hpre.2.2 hd eM eD (by omega) (by omega)).1];done
  ·rw [(D7 hpre.2.2 hd eM eD (by omega) (by omega)).1];done
  rw [(D7 hpre.2.2 hd eM eD (by omega) (by omega)).2];exact List.nil_append _
 try simp only [nrm] at c14
 refine ⟨(m,d),by
  rfl,by
  show nl m<=131072/\nl d<=131072
  exact ⟨by omega,by omega⟩,?_⟩
 refine ⟨(m.gcd d),by
  rfl,by
  trivial,?_⟩
 refine And.symm ⟨λ c21=>?_,λ c21=>?_⟩
 ·try simp only [nrm] at c21
  have e1:m.gcd d=1:=c21
  have eM:m/m.gcd d=m:=by rw [e1,Nat.div_one]
  have eD:d/m.gcd d=d:=by rw [e1,Nat.div_one]
  have lm:=AN m
  have ld:=AN d
  refine And.symm ⟨λ c43=>?_,λ c43=>?_⟩
  ·try simp only [nrm] at c43
   refine Ba ?_
   rw [EF hpre.2.2 hd eM eD (by omega)];done
  try simp only [nrm] at c43
  refine ⟨λ c44=>?_,λ c44=>?_⟩
  ·try simp only [nrm] at c44
   refine Ba ?_
   rw [EF hpre.2.2 hd eM eD (by omega)];done
  try simp only [nrm] at c44
  refine ⟨(neg,m,(zOf neg m)),by
   rfl,by
   show nl m<=60/\zOf neg m=(zOf neg m)
   exact ⟨by omega,by omega⟩,?_⟩
  refine ao (a:=([]:List (List Dat)).length+(L d).length<=1073741824) (by simp only [List.length_nil];omega) λ o51=>?_
  refine ⟨?_,?_,?_⟩
  ·rw [(D7 hpre.2.2 hd eM eD (by omega) (by omega)).1];done
  ·rw [(D7 hpre.2.2 hd eM eD (by omega) (by omega)).1];done
  rw [(D7 hpre.2.2 hd eM eD (by omega) (by omega)).2];exact List.nil_append _
 try simp only [nrm] at c21
 have eM:m/m.gcd d=m/m.gcd d:=rfl
 have eD:d/m.gcd d=d/m.gcd d:=rfl
 have lm:=AN (m/m.gcd d)
 have ld:=AN (d/m.gcd d)
 refine ⟨(m,(m.gcd d)),by
  rfl,by
  show (m.gcd d)≠0/\nl m<=131072/\nl (m.gcd d)<=131072
  exact ⟨by omega,by omega⟩,?_⟩
 refine ⟨(d,(m.gcd d)),by
  rfl,by
  show (m.gcd d)≠0/\nl d<=131072/\nl (m.gcd d)<=131072
  exact ⟨by omega,by omega⟩,?_⟩
 refine And.symm ⟨λ c28=>?_,λ c28=>?_⟩
 ·try simp only [nrm] at c28
  refine Ba ?_
  rw [EF hpre.2.2 hd eM eD (by omega)];done
 try simp only [nrm] at c28
 refine ⟨λ c29=>?_,λ c29=>?_⟩
 ·try simp only [nrm] at c29
  refine Ba ?_
  rw [EF hpre.2.2 hd eM eD (by omega)];done
 try simp only [nrm] at c29
 refine ⟨(neg,(m/(m.gcd d)),(zOf neg (m/(m.gcd d)))),by
  rfl,by
  show nl (m/(m.gcd d))<=60/\zOf neg (m/(m.gcd d))=(zOf neg (m/(m.gcd d)))
  exact ⟨by omega,by omega⟩,?_⟩
 refine ao (a:=([]:List (List Dat)).length+(L (d/(m.gcd d))).length<=1073741824) (by simp only [List.length_nil];omega) λ o36=>?_
 refine ⟨?_,?_,?_⟩
 ·rw [(D7 hpre.2.2 hd eM eD (by omega) (by omega)).1];done
 ·rw [(D7 hpre.2.2 hd eM eD (by omega) (by omega)).1];done
 rw [(D7 hpre.2.2 hd eM eD (by omega) (by omega)).2];exact List.nil_append _
def AG:Con:={ ι:=Bool×(List (List Dat))×(List (List Dat))×Bool,pre:=λ i=>Dat.has (.sl 3 [.int]) (.sl i.2.1)/\Dat.has (.sl 3 [.int]) (.sl i.2.2.1)/\i.2.1.length<=9223372036854775807/\i.2.2.1.length<=9223372036854775807/\AZ i.1 i.2.1 i.2.2.1=i.2.2.2,args:=λ i=>[DA.agg [cB i.1,cS i.2.1,cS i.2.2.1]],res:=λ i=>⟨false,[none],[rcB i.2.2.2]⟩ }
theorem DR:AG.Ok Tryz.prog 146:=by
 refine fok (X:=⟨tt,[(207,DY),(208,Bb),(210,Cd),(209,A3)],[],39,[]⟩) mixed AH (CTok.cons Mt (CTok.cons I9 (CTok.cons MI (CTok.cons JA (CTok.nil _))))) Tryz.func146 (λ _=>[]) ?_
 rintro ⟨neg,m,d,b⟩ hpre
 have hpre:Dat.has (.sl 3 [.int]) (.sl m)/\Dat.has (.sl 3 [.int]) (.sl d)/\m.length<=9223372036854775807/\d.length<=9223372036854775807/\AZ neg m d=b:=hpre
 refine AI (q:=let Z1:=(vB false=vB b);∃ i1:Bool×(List (List Dat)),[DA.agg [cB neg,cS m]]=DY.args i1/\DY.pre i1/\(ifB ((!(!(BZ i1.1 i1.2)))) (∃ i2:(List (List Dat)),[DA.one (cS d)]=Bb.args i2/\Bb.pre i2/\(ifB ((!(!(Ay i2)))) (ifB ((!((nI d.length) == (0:Int)))) (ifB ((!(decide ((nI d.length)>(24:Int))))) (ifB ((decide ((nI m.length)>(24:Int)))) Z1 (∃ i3:Nat×Nat,[DA.one (cS m),DA.one (cS d)]=Cd.args i3/\Cd.pre i3/\(∃ i4:Nat,[DA.one (cS (L (i3.1.gcd i3.2)))]=A3.args i4/\A3.pre i4/\((vB (decide (i4=1))=vB b))))) Z1) Z1) Z1)) Z1)) (by kernel_rfl) ?_
 conv=>zeta
 delta ifB vB nI
 refine ⟨(neg,m),by
  rfl,by
  show m.length<=9223372036854775807
  omega,?_⟩
 refine And.symm ⟨λ c4=>?_,λ c4=>?_⟩
 ·try simp only [nrm] at c4
  have hE:false=b:=by rw [← hpre.2.2.2.2];exact (Bv (.inl c4)).symm
  rw [hE]
 try simp only [nrm] at c4
 refine ⟨d,by
  rfl,by
  show d.length<=9223372036854775807
  omega,?_⟩
 refine And.symm ⟨λ c8=>?_,λ c8=>?_⟩
 ·try simp only [nrm] at c8
  have hE:false=b:=by rw [← hpre.2.2.2.2];exact (Bv (.inr (.inl c8))).symm
  rw [hE]
 try simp only [nrm] at c8
 refine And.symm ⟨λ c9=>?_,λ c9=>?_⟩
 ·try simp only [nrm] at c9
  have hE:false=b:=by rw [← hpre.2.2.2.2];exact (Bv (.inr (.inr (.inl (by omega))))).symm
  rw [hE]
 try simp only [nrm] at c9
 refine And.symm ⟨λ c10=>?_,λ c10=>?_⟩
 ·try simp only [nrm] at c10
  have hE:false=b:=by rw [← hpre.2.2.2.2];exact (Bv (.inr (.inr (.inr (.inr (by omega)))))).symm
  rw [hE]
 try simp only [nrm] at c10
 refine ⟨λ c11=>?_,λ c11=>?_⟩
 ·try simp only [nrm] at c11
  have hE:false=b:=by rw [← hpre.2.2.2.2];exact (Bv (.inr (.inr (.inr (.inl (by omega)))))).symm
  rw [hE]
 try simp only [nrm] at c11
 obtain ⟨x,ea,na⟩:=DJ hpre.1 (K9 c4)
 obtain ⟨y,eb,nb⟩:=DJ hpre.2.1 c8
 have hR:=LA c4 c8 (by omega) (by omega) (by omega)
 refine ⟨(x,y),by
  rw [ea,eb];rfl,by
  show nl x<=131072/\nl y<=131072
  exact ⟨by omega,by omega⟩,?_⟩
 refine ⟨(x.gcd y),by
  rfl,by
  trivial,?_⟩
 rw [← hpre.2.2.2.2,hR,ea,eb,Dx,Dx]
def BR:Con:={ ι:=Int,pre:=λ i=>-9223372036854775808<=i/\i<=9223372036854775807,args:=λ i=>[.one (cI i)],res:=λ i=>⟨false,[some 3],[rcB (decide ((Fr.ofInt i).z<0)),.own 3 [.int] (L (Fr.ofInt i).z.natAbs),.own 3 [.int] (L (Fr.ofInt i).d)]⟩ }
theorem LD:BR.Ok Tryz.prog 90:=by
 refine fok (X:=⟨tt,[(137,DZ)],[],7,[]⟩) mixed AH (CTok.cons Mu (CTok.nil _)) Tryz.func90 (λ _=>[]) ?_
 intro (n:Int) hpre
 have hpre:-9223372036854775808<=n/\n<=9223372036854775807:=hpre
 refine AI (q:=∃ i1:Int,[DA.one (cI n)]=DZ.args i1/\DZ.pre i1/\((vB (decide (i1<0))=vB (decide ((Fr.ofInt n).z<0)))/\(L i1.natAbs=L (Fr.ofInt n).z.natAbs)/\(([[Dat.int (1:Int)]]:List (List Dat))=L (Fr.ofInt n).d))) (by kernel_rfl) ?_
 delta vB
 refine ⟨n,by
  rfl,by
  exact hpre,?_⟩
 refine ⟨?_,?_,?_⟩
 ·rw [(Fl (FQ hpre)).1];done
 ·rw [(Fl (FQ hpre)).1];done
 rw [(Fl (FQ hpre)).2];exact VP
def GQ:Con:={ ι:=Fr,pre:=λ i=>True,args:=λ i=>[dF i],res:=λ i=>⟨false,[some 3],[rcB (decide (i.opp.z<0)),.own 3 [.int] (L i.opp.z.natAbs),.own 3 [.int] (L i.opp.d)]⟩ }
theorem SA:GQ.Ok Tryz.prog 205:=by
 refine fok (X:=⟨tt,[(199,AK)],[],16,[]⟩) mixed AH (CTok.cons DQ (CTok.nil _)) Tryz.func205 (λ _=>[]) ?_
 intro (r:Fr) hpre
 have hpre:True:=hpre
 refine AI (q:=∃ i1:Bool×Nat×Int,[DA.one (cB (!(decide (r.z<0)))),DA.one (cS (L r.z.natAbs))]=AK.args i1/\AK.pre i1/\((([]:List (List Dat)).length+(L r.d).length<=1073741824)/\((vB (decide (i1.2.2<0))=vB (decide (r.opp.z<0)))/\(L i1.2.2.natAbs=L r.opp.z.natAbs)/\((([]:List (List Dat))++(L r.d))=L r.opp.d)))) (by kernel_rfl) ?_
 delta vB
 have h1:=r.nlz
 have h2:=r.nld
 have lr:=AN r.d
 have lz:=AN r.z.natAbs
 refine ⟨(!(decide (r.z<0)),r.z.natAbs,-r.z),by
  rfl,by
  show nl r.z.natAbs<=60/\zOf (!(decide (r.z<0))) r.z.natAbs=(-r.z)
  exact ⟨by omega,Ms _⟩,?_⟩
 refine ao (by simp only [List.length_nil];omega) λ o4=>?_
 refine ⟨?_,?_,?_⟩
 ·rw [Fr.opp_z];done
 ·rw [Fr.opp_z];done
 rw [Fr.opp_d];exact List.nil_append _
def GR:Con:={ ι:=Fr×Fr,pre:=λ i=>i.1.d≠0/\i.2.d≠0,args:=λ i=>[dF i.1,dF i.2],res:=λ i=>⟨false,[some 3],[rcB (decide ((Fr.add i.1 i.2).z<0)),.own 3 [.int] (L (Fr.add i.1 i.2).z.natAbs),.own 3 [.int] (L (Fr.add i.1 i.2).d)]⟩ }
set_option maxHeartbeats 4000000 in
theorem SC:GR.Ok Tryz.prog 204:=by
 refine fok (X:=⟨tt,[(209,A3),(257,CD),(202,A9),(203,AP),(199,AK)],[],61,[]⟩) mixed AH (CTok.cons JA (CTok.cons R8 (CTok.cons MJ (CTok.cons Fo (CTok.cons DQ (CTok.nil _)))))) Tryz.func204 (λ _=>[]) ?_
 rintro ⟨r,s⟩ hpre
 have hpre:r.d≠0/\s.d≠0:=hpre
 refine AI (q:=let Z2:=cS (L s.d);let Z1:=cS (L r.d);∃ i1:Nat,[DA.one Z1]=A3.args i1/\A3.pre i1/\(ifB ((decide (i1=1))) (∃ i2:Nat,[DA.one Z2]=A3.args i2/\A3.pre i2/\(ifB ((decide (i2=1))) (∃ i3:Int×Int,[dB r.z,dB s.z]=CD.args i3/\CD.pre i3/\(∃ i4:Bool×Nat×Nat×Int,[DA.one (cB (decide ((i3.1+i3.2)<0))),DA.one (cS (L (i3.1+i3.2).natAbs)),DA.one (cS ([[Dat.int (1:Int)]]:List (List Dat)))]=A9.args i4/\A9.pre i4/\((eqC (GO i4.2.2.2 i4.2.2.1) (Fr.add r s))))) (∃ i5:Nat×Nat,[DA.one (cS (L r.z.natAbs)),DA.one Z2]=AP.args i5/\AP.pre i5/\(∃ i6:Bool×Nat×Int,[DA.one (cB (decide (r.z<0))),DA.one (cS (L (i5.1*i5.2)))]=AK.args i6/\AK.pre i6/\(∃ i7:Nat×Nat,[DA.one (cS (L s.z.natAbs)),DA.one Z1]=AP.args i7/\AP.pre i7/\(∃ i8:Bool×Nat×Int,[DA.one (cB (decide (s.z<0))),DA.one (cS (L (i7.1*i7.2)))]=AK.args i8/\AK.pre i8/\(∃ i9:Int×Int,[dB i6.2.2,dB i8.2.2]=CD.args i9/\CD.pre i9/\(∃ i10:Nat×Nat,[DA.one Z1,DA.one Z2]=AP.args i10/\AP.pre i10/\(∃ i11:Bool×Nat×Nat×Int,[DA.one (cB (decide ((i9.1+i9.2)<0))),DA.one (cS (L (i9.1+i9.2).natAbs)),DA.one (cS (L (i10.1*i10.2)))]=A9.args i11/\A9.pre i11/\((eqC (GO i11.2.2.2 i11.2.2.1) (Fr.add r s)))))))))))) (∃ i12:Nat×Nat,[DA.one (cS (L r.z.natAbs)),DA.one Z2]=AP.args i12/\AP.pre i12/\(∃ i13:Bool×Nat×Int,[DA.one (cB (decide (r.z<0))),DA.one (cS (L (i12.1*i12.2)))]=AK.args i13/\AK.pre i13/\(∃ i14:Nat×Nat,[DA.one (cS (L s.z.natAbs)),DA.one Z1]=AP.args i14/\AP.pre i14/\(∃ i15:Bool×Nat×Int,[DA.one (cB (decide (s.z<0))),DA.one (cS (L (i14.1*i14.2)))]=AK.args i15/\AK.pre i15/\(∃ i16:Int×Int,[dB i13.2.2,dB i15.2.2]=CD.args i16/\CD.pre i16/\(∃ i17:Nat×Nat,[DA.one Z1,DA.one Z2]=AP.args i17/\AP.pre i17/\(∃ i18:Bool×Nat×Nat×Int,[DA.one (cB (decide ((i16.1+i16.2)<0))),DA.one (cS (L (i16.1+i16.2).natAbs)),DA.one (cS (L (i17.1*i17.2)))]=A9.args i18/\A9.pre i18/\((eqC (GO i18.2.2.2 i18.2.2.1) (Fr.add r s)))))))))))) (by kernel_rfl) ?_
 conv=>zeta
 delta ifB
 have h1:=r.nlz
 have h2:=r.nld
 have lr:=AN r.d
 have lz:=AN r.z.natAbs
 have h3:=s.nlz
 have h4:=s.nld
 have ls:=AN s.d
 have lw:=AN s.z.natAbs
 have m0:=Av r.z.natAbs s.d
 have m00:=Av s.z.natAbs r.d
 have m1:=Bq r.z ((s.d:Nat):Int)
 have m2:=Bq s.z ((r.d:Nat):Int)
 rw [Em] at m1 m2
 have m3:=GF (r.z*((s.d:Nat):Int)) (s.z*((r.d:Nat):Int))
 have m4:=Av r.d s.d
 have m6:=Av r.d s.z.natAbs
 refine ⟨r.d,by
  rfl,by
  trivial,?_⟩
 refine And.symm ⟨λ c4=>?_,λ c4=>?_⟩
 ·try simp only [nrm] at c4
  have hE:=Qz hpre.1 hpre.2
  refine ⟨(r.z.natAbs,s.d),by
   rfl,by
   show nl r.z.natAbs<=524288/\nl s.d<=524288
   exact ⟨by omega,by omega⟩,?_⟩
  refine ⟨(decide (r.z<0),r.z.natAbs*s.d,r.z*((s.d:Nat):Int)),by
   rfl,by
   show nl (r.z.natAbs*s.d)<=60/\zOf (decide (r.z<0)) (r.z.natAbs*s.d)=(r.z*((s.d:Nat):Int))
   exact ⟨by omega,EE _ _⟩,?_⟩
  refine ⟨(s.z.natAbs,r.d),by
   rfl,by
   show nl s.z.natAbs<=524288/\nl r.d<=524288
   exact ⟨by omega,by omega⟩,?_⟩
  refine ⟨(decide (s.z<0),s.z.natAbs*r.d,s.z*((r.d:Nat):Int)),by
   rfl,by
   show nl (s.z.natAbs*r.d)<=60/\zOf (decide (s.z<0)) (s.z.natAbs*r.d)=(s.z*((r.d:Nat):Int))
   exact ⟨by omega,EE _ _⟩,?_⟩
  refine ⟨((r.z*((s.d:Nat):Int)),(s.z*((r.d:Nat):Int))),by
   rfl,by
   show nl (r.z*((s.d:Nat):Int)).natAbs<=59/\nl (s.z*((r.d:Nat):Int)).natAbs<=59
   exact ⟨by omega,by omega⟩,?_⟩
  refine ⟨(r.d,s.d),by
   rfl,by
   show nl r.d<=524288/\nl s.d<=524288
   exact ⟨by omega,by omega⟩,?_⟩
  refine ⟨(decide (r.z*((s.d:Nat):Int)+s.z*((r.d:Nat):Int)<0),(r.z*((s.d:Nat):Int)+s.z*((r.d:Nat):Int)).natAbs,r.d*s.d,r.z*((s.d:Nat):Int)+s.z*((r.d:Nat):Int)),by
   rfl,by
   try dsimp only [A9]
   exact ⟨by omega,by omega,EV _⟩,?_⟩
  refine EX ?_
  rw [hE]
 try simp only [nrm] at c4
 refine ⟨s.d,by
  rfl,by
  trivial,?_⟩
 refine ⟨λ c8=>?_,λ c8=>?_⟩
 ·try simp only [nrm] at c8
  have hE:=T4 c4 c8
  refine ⟨(r.z,s.z),by
   rfl,by
   show nl r.z.natAbs<=59/\nl s.z.natAbs<=59
   exact ⟨by omega,by omega⟩,?_⟩
  refine ⟨(decide (r.z+s.z<0),(r.z+s.z).natAbs,1,r.z+s.z),by
   rw [VP];rfl,by
   show nl ((r.z+s.z).natAbs)<=1000/\nl 1<=1000/\zOf (decide (r.z+s.z<0)) ((r.z+s.z).natAbs)=(r.z+s.z)
   have:=GF r.z s.z
   exact ⟨by omega,by rw [PZ];decide,EV _⟩,?_⟩
  refine EX ?_
  rw [hE]
 try simp only [nrm] at c8
 have hE:=Qz hpre.1 hpre.2
 refine ⟨(r.z.natAbs,s.d),by
  rfl,by
  show nl r.z.natAbs<=524288/\nl s.d<=524288
  exact ⟨by omega,by omega⟩,?_⟩
 refine ⟨(decide (r.z<0),r.z.natAbs*s.d,r.z*((s.d:Nat):Int)),by
  rfl,by
  show nl (r.z.natAbs*s.d)<=60/\zOf (decide (r.z<0)) (r.z.natAbs*s.d)=(r.z*((s.d:Nat):Int))
  exact ⟨by omega,EE _ _⟩,?_⟩
 refine ⟨(s.z.natAbs,r.d),by
  rfl,by
  show nl s.z.natAbs<=524288/\nl r.d<=524288
  exact ⟨by omega,by omega⟩,?_⟩
 refine ⟨(decide (s.z<0),s.z.natAbs*r.d,s.z*((r.d:Nat):Int)),by
  rfl,by
  show nl (s.z.natAbs*r.d)<=60/\zOf (decide (s.z<0)) (s.z.natAbs*r.d)=(s.z*((r.d:Nat):Int))
  exact ⟨by omega,EE _ _⟩,?_⟩
 refine ⟨((r.z*((s.d:Nat):Int)),(s.z*((r.d:Nat):Int))),by
  rfl,by
  show nl (r.z*((s.d:Nat):Int)).natAbs<=59/\nl (s.z*((r.d:Nat):Int)).natAbs<=59
  exact ⟨by omega,by omega⟩,?_⟩
 refine ⟨(r.d,s.d),by
  rfl,by
  show nl r.d<=524288/\nl s.d<=524288
  exact ⟨by omega,by omega⟩,?_⟩
 refine ⟨(decide (r.z*((s.d:Nat):Int)+s.z*((r.d:Nat):Int)<0),(r.z*((s.d:Nat):Int)+s.z*((r.d:Nat):Int)).natAbs,r.d*s.d,r.z*((s.d:Nat):Int)+s.z*((r.d:Nat):Int)),by
  rfl,by
  try dsimp only [A9]
  exact ⟨by omega,by omega,EV _⟩,?_⟩
 refine EX ?_
 rw [hE]
def GS:Con:={ ι:=Fr×Fr,pre:=λ i=>i.1.d≠0/\i.2.d≠0,args:=λ i=>[dF i.1,dF i.2],res:=λ i=>⟨false,[some 3],[rcB (decide ((Fr.mul i.1 i.2).z<0)),.own 3 [.int] (L (Fr.mul i.1 i.2).z.natAbs),.own 3 [.int] (L (Fr.mul i.1 i.2).d)]⟩ }
set_option maxHeartbeats 4000000 in
theorem SD:GS.Ok Tryz.prog 258:=by
 refine fok (X:=⟨tt,[(203,AP),(202,A9)],[],25,[]⟩) mixed AH (CTok.cons Fo (CTok.cons MJ (CTok.nil _))) Tryz.func258 (λ _=>[]) ?_
 rintro ⟨r,s⟩ hpre
 have hpre:r.d≠0/\s.d≠0:=hpre
 refine AI (q:=∃ i1:Nat×Nat,[DA.one (cS (L r.z.natAbs)),DA.one (cS (L s.z.natAbs))]=AP.args i1/\AP.pre i1/\(∃ i2:Nat×Nat,[DA.one (cS (L r.d)),DA.one (cS (L s.d))]=AP.args i2/\AP.pre i2/\(∃ i3:Bool×Nat×Nat×Int,[DA.one (cB ((decide (r.z<0)) != (decide (s.z<0)))),DA.one (cS (L (i1.1*i1.2))),DA.one (cS (L (i2.1*i2.2)))]=A9.args i3/\A9.pre i3/\((eqC (GO i3.2.2.2 i3.2.2.1) (Fr.mul r s)))))) (by kernel_rfl) ?_
 have h1:=r.nlz
 have h2:=r.nld
 have lr:=AN r.d
 have lz:=AN r.z.natAbs
 have h3:=s.nlz
 have h4:=s.nld
 have ls:=AN s.d
 have lw:=AN s.z.natAbs
 have m4:=Av r.d s.d
 have m5:=Av r.z.natAbs s.z.natAbs
 have hE:=Uv hpre.1 hpre.2
 refine ⟨(r.z.natAbs,s.z.natAbs),by
  rfl,by
  show nl r.z.natAbs<=524288/\nl s.z.natAbs<=524288
  exact ⟨by omega,by omega⟩,?_⟩
 refine ⟨(r.d,s.d),by
  rfl,by
  show nl r.d<=524288/\nl s.d<=524288
  exact ⟨by omega,by omega⟩,?_⟩
 refine ⟨((decide (r.z<0)) != (decide (s.z<0)),r.z.natAbs*s.z.natAbs,r.d*s.d,r.z*s.z),by
  rfl,by
  show nl (r.z.natAbs*s.z.natAbs)<=1000/\nl (r.d*s.d)<=1000/\zOf ((decide (r.z<0)) != (decide (s.z<0))) (r.z.natAbs*s.z.natAbs)=(r.z*s.z)
  exact ⟨by omega,by omega,Jq _ _⟩,?_⟩
 refine EX ?_
 rw [hE]
def GT:Con:={ ι:=Fr×Fr,pre:=λ i=>i.1.d≠0/\i.2.d≠0,args:=λ i=>[dF i.1,dF i.2],res:=λ i=>⟨false,[none],[rcI (Fr.cmp i.1 i.2)]⟩ }
theorem SE:GT.Ok Tryz.prog 147:=by
 refine fok (X:=⟨tt,[(203,AP),(199,AK),(211,GP)],[],26,[]⟩) mixed AH (CTok.cons Fo (CTok.cons DQ (CTok.cons R9 (CTok.nil _)))) Tryz.func147 (λ _=>[]) ?_
 rintro ⟨r,s⟩ hpre
 have hpre:r.d≠0/\s.d≠0:=hpre
 refine AI (q:=∃ i1:Nat×Nat,[DA.one (cS (L r.z.natAbs)),DA.one (cS (L s.d))]=AP.args i1/\AP.pre i1/\(∃ i2:Bool×Nat×Int,[DA.one (cB (decide (r.z<0))),DA.one (cS (L (i1.1*i1.2)))]=AK.args i2/\AK.pre i2/\(∃ i3:Nat×Nat,[DA.one (cS (L s.z.natAbs)),DA.one (cS (L r.d))]=AP.args i3/\AP.pre i3/\(∃ i4:Bool×Nat×Int,[DA.one (cB (decide (s.z<0))),DA.one (cS (L (i3.1*i3.2)))]=AK.args i4/\AK.pre i4/\(∃ i5:Int×Int,[dB i2.2.2,dB i4.2.2]=GP.args i5/\GP.pre i5/\((vI (Bf i5.1 i5.2)=vI (Fr.cmp r s)))))))) (by kernel_rfl) ?_
 delta vI
 have h1:=r.nlz
 have h2:=r.nld
 have lr:=AN r.d
 have lz:=AN r.z.natAbs
 have h3:=s.nlz
 have h4:=s.nld
 have ls:=AN s.d
 have lw:=AN s.z.natAbs
 have m0:=Av r.z.natAbs s.d
 have m00:=Av s.z.natAbs r.d
 have m1:=Bq r.z ((s.d:Nat):Int)
 have m2:=Bq s.z ((r.d:Nat):Int)
 rw [Em] at m1 m2
 have m3:=GF (r.z*((s.d:Nat):Int)) (s.z*((r.d:Nat):Int))
 have m4:=Av r.d s.d
 have m6:=Av r.d s.z.natAbs
 refine ⟨(r.z.natAbs,s.d),by
  rfl,by
  show nl r.z.natAbs<=524288/\nl s.d<=524288
  exact ⟨by omega,by omega⟩,?_⟩
 refine ⟨(decide (r.z<0),r.z.natAbs*s.d,r.z*((s.d:Nat):Int)),by
  rfl,by
  show nl (r.z.natAbs*s.d)<=60/\zOf (decide (r.z<0)) (r.z.natAbs*s.d)=(r.z*((s.d:Nat):Int))
  exact ⟨by omega,EE _ _⟩,?_⟩
 refine ⟨(s.z.natAbs,r.d),by
  rfl,by
  show nl s.z.natAbs<=524288/\nl r.d<=524288
  exact ⟨by omega,by omega⟩,?_⟩
 refine ⟨(decide (s.z<0),s.z.natAbs*r.d,s.z*((r.d:Nat):Int)),by
  rfl,by
  show nl (s.z.natAbs*r.d)<=60/\zOf (decide (s.z<0)) (s.z.natAbs*r.d)=(s.z*((r.d:Nat):Int))
  exact ⟨by omega,EE _ _⟩,?_⟩
 refine ⟨((r.z*((s.d:Nat):Int)),(s.z*((r.d:Nat):Int))),by
  rfl,by
  show nl (r.z*((s.d:Nat):Int)).natAbs<=59/\nl (s.z*((r.d:Nat):Int)).natAbs<=59
  exact ⟨by omega,by omega⟩,?_⟩
 rw [Fr.cmp_zd hpre.1 hpre.2]
def A4:Con:={ ι:=Fr×Fr,pre:=λ i=>True,args:=λ i=>[dF i.1,dF i.2],res:=λ i=>⟨false,[some 3],[rcB (decide ((Fr.sub i.1 i.2).z<0)),.own 3 [.int] (L (Fr.sub i.1 i.2).z.natAbs),.own 3 [.int] (L (Fr.sub i.1 i.2).d)]⟩ }
theorem Pe:A4.Ok Tryz.prog 142:=by
 refine fok (X:=⟨tt,[(146,AG),(205,GQ),(204,GR)],[],18,[]⟩) mixed AH (CTok.cons DR (CTok.cons SA (CTok.cons SC (CTok.nil _)))) Tryz.func142 (λ _=>[]) ?_
 rintro ⟨r,s⟩ hpre
 have hpre:True:=hpre
 refine AI (q:=let Z1:=List (List Dat);∃ i1:Bool×Z1×Z1×Bool,[dF r]=AG.args i1/\AG.pre i1/\(ifB ((!(!i1.2.2.2))) (∃ i2:Bool×Z1×Z1×Bool,[dF s]=AG.args i2/\AG.pre i2/\(ifB ((!i2.2.2.2)) ((eqN (Fr.sub r s))) (∃ i3:Fr,[dF s]=GQ.args i3/\GQ.pre i3/\(∃ i4:Fr×Fr,[dF r,dF i3.opp]=GR.args i4/\GR.pre i4/\((eqC (Fr.add i4.1 i4.2) (Fr.sub r s))))))) ((eqN (Fr.sub r s))))) (by kernel_rfl) ?_
 conv=>zeta
 delta ifB
 have h1:=r.nlz
 have h2:=r.nld
 have lr:=AN r.d
 have lz:=AN r.z.natAbs
 have h3:=s.nlz
 have h4:=s.nld
 have ls:=AN s.d
 have lw:=AN s.z.natAbs
 refine ⟨(decide (r.z<0),(L r.z.natAbs),(L r.d),r.good),by
  rfl,by
  try dsimp only [AG]
  exact ⟨DD _ (by omega),DD _ (by omega),by omega,by omega,CM _⟩,?_⟩
 refine And.symm ⟨λ c4=>?_,λ c4=>?_⟩
 ·try simp only [nrm] at c4
  have hE:Fr.sub r s=Fr.none:=Fr.bin_bad _ (.inl (Eo c4))
  refine Ba ?_
  rw [hE];done
 try simp only [nrm] at c4
 refine ⟨(decide (s.z<0),(L s.z.natAbs),(L s.d),s.good),by
  rfl,by
  try dsimp only [AG]
  exact ⟨DD _ (by omega),DD _ (by omega),by omega,by omega,CM _⟩,?_⟩
 refine ⟨λ c8=>?_,λ c8=>?_⟩
 ·try simp only [nrm] at c8
  have hE:Fr.sub r s=Fr.none:=Fr.bin_bad _ (.inr (Eo c8))
  refine Ba ?_
  rw [hE];done
 try simp only [nrm] at c8
 have hE:=T3 r s
 refine ⟨s,by
  rfl,by
  trivial,?_⟩
 refine ⟨(r,s.opp),by
  rfl,by
  exact ⟨Bx c4,by rw [Fr.opp_d];exact Bx c8⟩,?_⟩
 refine EX ?_
 rw [hE];done
def Co:Con:={ ι:=Fr×Fr,pre:=λ i=>True,args:=λ i=>[dF i.1,dF i.2],res:=λ i=>⟨false,[some 3],[rcB (decide ((Fr.mul i.1 i.2).z<0)),.own 3 [.int] (L (Fr.mul i.1 i.2).z.natAbs),.own 3 [.int] (L (Fr.mul i.1 i.2).d)]⟩ }
theorem Pf:Co.Ok Tryz.prog 206:=by
 refine fok (X:=⟨tt,[(146,AG),(258,GS)],[],17,[]⟩) mixed AH (CTok.cons DR (CTok.cons SD (CTok.nil _))) Tryz.func206 (λ _=>[]) ?_
 rintro ⟨r,s⟩ hpre
 have hpre:True:=hpre
 refine AI (q:=let Z1:=List (List Dat);∃ i1:Bool×Z1×Z1×Bool,[dF r]=AG.args i1/\AG.pre i1/\(ifB ((!(!i1.2.2.2))) (∃ i2:Bool×Z1×Z1×Bool,[dF s]=AG.args i2/\AG.pre i2/\(ifB ((!i2.2.2.2)) ((eqN (Fr.mul r s))) (∃ i3:Fr×Fr,[dF r,dF s]=GS.args i3/\GS.pre i3/\((eqC (Fr.mul i3.1 i3.2) (Fr.mul r s)))))) ((eqN (Fr.mul r s))))) (by kernel_rfl) ?_
 conv=>zeta
 delta ifB
 have h1:=r.nlz
 have h2:=r.nld
 have lr:=AN r.d
 have lz:=AN r.z.natAbs
 have h3:=s.nlz
 have h4:=s.nld
 have ls:=AN s.d
 have lw:=AN s.z.natAbs
 refine ⟨(decide (r.z<0),(L r.z.natAbs),(L r.d),r.good),by
  rfl,by
  try dsimp only [AG]
  exact ⟨DD _ (by omega),DD _ (by omega),by omega,by omega,CM _⟩,?_⟩
 refine And.symm ⟨λ c4=>?_,λ c4=>?_⟩
 ·try simp only [nrm] at c4
  have hE:Fr.mul r s=Fr.none:=Fr.bin_bad _ (.inl (Eo c4))
  refine Ba ?_
  rw [hE];done
 try simp only [nrm] at c4
 refine ⟨(decide (s.z<0),(L s.z.natAbs),(L s.d),s.good),by
  rfl,by
  try dsimp only [AG]
  exact ⟨DD _ (by omega),DD _ (by omega),by omega,by omega,CM _⟩,?_⟩
 refine ⟨λ c8=>?_,λ c8=>?_⟩
 ·try simp only [nrm] at c8
  have hE:Fr.mul r s=Fr.none:=Fr.bin_bad _ (.inr (Eo c8))
  refine Ba ?_
  rw [hE];done
 try simp only [nrm] at c8
 refine ⟨(r,s),by
  rfl,by
  exact ⟨Bx c4,Bx c8⟩,?_⟩
 exact EX rfl
def AV:Con:={ ι:=Fr×Fr,pre:=λ i=>True,args:=λ i=>[dF i.1,dF i.2],res:=λ i=>⟨false,[none],[rcI (Fr.cmp i.1 i.2)]⟩ }
theorem GU:AV.Ok Tryz.prog 94:=by
 refine fok (X:=⟨tt,[(146,AG),(147,GT)],[],16,[]⟩) mixed AH (CTok.cons DR (CTok.cons SE (CTok.nil _))) Tryz.func94 (λ _=>[]) ?_
 rintro ⟨r,s⟩ hpre
 have hpre:True:=hpre
 refine AI (q:=let Z2:=(vI (0:Int)=vI (Fr.cmp r s));let Z1:=List (List Dat);∃ i1:Bool×Z1×Z1×Bool,[dF r]=AG.args i1/\AG.pre i1/\(ifB ((!(!i1.2.2.2))) (∃ i2:Bool×Z1×Z1×Bool,[dF s]=AG.args i2/\AG.pre i2/\(ifB ((!i2.2.2.2)) Z2 (∃ i3:Fr×Fr,[dF r,dF s]=GT.args i3/\GT.pre i3/\((vI (Fr.cmp i3.1 i3.2)=vI (Fr.cmp r s)))))) Z2)) (by kernel_rfl) ?_
 conv=>zeta
 delta ifB vI
 have h1:=r.nlz
 have h2:=r.nld
 have lr:=AN r.d
 have lz:=AN r.z.natAbs
 have h3:=s.nlz
 have h4:=s.nld
 have ls:=AN s.d
 have lw:=AN s.z.natAbs
 refine ⟨(decide (r.z<0),(L r.z.natAbs),(L r.d),r.good),by
  rfl,by
  try dsimp only [AG]
  exact ⟨DD _ (by omega),DD _ (by omega),by omega,by omega,CM _⟩,?_⟩
 refine And.symm ⟨λ c4=>?_,λ c4=>?_⟩
 ·try simp only [nrm] at c4
  have hE:Fr.cmp r s=0:=Fr.cmp_bad (.inl (Eo c4))
  rw [hE]
 try simp only [nrm] at c4
 refine ⟨(decide (s.z<0),(L s.z.natAbs),(L s.d),s.good),by
  rfl,by
  try dsimp only [AG]
  exact ⟨DD _ (by omega),DD _ (by omega),by omega,by omega,CM _⟩,?_⟩
 refine ⟨λ c8=>?_,λ c8=>?_⟩
 ·try simp only [nrm] at c8
  have hE:Fr.cmp r s=0:=Fr.cmp_bad (.inr (Eo c8))
  rw [hE]
 try simp only [nrm] at c8
 refine ⟨(r,s),by
  rfl,by
  exact ⟨Bx c4,Bx c8⟩,?_⟩
 exact rfl
def D8:Con:={ ι:=Fr,pre:=λ i=>True,args:=λ i=>[dF i],res:=λ i=>⟨false,[none],[rcI i.sgn]⟩ }
theorem OG:D8.Ok Tryz.prog 277:=by
 refine fok (X:=⟨tt,[(146,AG)],[],18,[]⟩) mixed AH (CTok.cons DR (CTok.nil _)) Tryz.func277 (λ _=>[]) ?_
 intro (r:Fr) hpre
 have hpre:True:=hpre
 refine AI (q:=let Z1:=(vI (0:Int)=vI r.sgn);∃ i1:Bool×(List (List Dat))×(List (List Dat))×Bool,[dF r]=AG.args i1/\AG.pre i1/\(ifB ((!(!i1.2.2.2))) (ifB (((nI ((L r.z.natAbs).length)) == (0:Int))) Z1 (ifB (decide (r.z<0)) ((vI (-1:Int)=vI r.sgn)) ((vI (1:Int)=vI r.sgn)))) Z1)) (by kernel_rfl) ?_
 conv=>zeta
 delta ifB vI nI
 have h1:=r.nlz
 have h2:=r.nld
 have lr:=AN r.d
 have lz:=AN r.z.natAbs
 refine ⟨(decide (r.z<0),(L r.z.natAbs),(L r.d),r.good),by
  rfl,by
  try dsimp only [AG]
  exact ⟨DD _ (by omega),DD _ (by omega),by omega,by omega,CM _⟩,?_⟩
 refine And.symm ⟨λ c4=>?_,λ c4=>?_⟩
 ·try simp only [nrm] at c4
  have hz:r.z=0:=by rw [Fr.bad_z (Eo c4)];rfl
  rw [Fr.sgn_z,hz];rfl
 try simp only [nrm] at c4
 refine ⟨λ c5=>?_,λ c5=>?_⟩
 ·try simp only [nrm] at c5
  have hz:r.z=0:=Wt (by omega)
  rw [Fr.sgn_z,hz];rfl
 try simp only [nrm] at c5
 have hz:r.z≠0:=VO (by omega)
 refine ⟨λ c7=>?_,λ c7=>?_⟩
 ·try simp only [nrm] at c7
  rw [Fr.sgn_z];unfold Bf;rw [if_pos (by omega)];done
 try simp only [nrm] at c7
 rw [Fr.sgn_z];unfold Bf;rw [if_neg (by omega),if_neg (by omega)];done
end Go.Proofs.YtmedodfenejimaaGreat
