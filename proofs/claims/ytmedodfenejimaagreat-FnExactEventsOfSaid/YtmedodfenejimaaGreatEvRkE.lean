import Derived.Test.YtmedodfenejimaaGreatEvRkD
namespace Go.Proofs.YtmedodfenejimaaGreat
set_option maxRecDepth 100000
set_option linter.unusedVariables false
set_option linter.unusedSimpArgs false
open Go.RowKit
theorem EL (z:Int) (d:Nat):zOf (decide (z<0)) (z.natAbs*d)=z*((d:Nat):Int):=by
 have h:=J0 z ((d:Nat):Int)
 rw [Tx,Int.natAbs_natCast] at h
 rw [← h]
 cases decide (z<0) <;> rfl
theorem R5 {z:Int} {d:Nat} (hd:d≠0):decide (z*((d:Nat):Int)<0)=decide (z<0):=by
 congr 1
 apply propext
 have hp:(0:Int)<((d:Nat):Int):=by omega
 constructor
 ·intro h
  apply Int.lt_of_not_ge
  intro h2
  have:=Int.mul_nonneg h2 (Int.le_of_lt hp)
  omega
 ·intro h;exact Int.mul_neg_of_neg_of_pos h hp
theorem U5 {neg:Bool} {m k:Nat} (h:m=0->k=0):zOf (decide (zOf neg m<0)) k=zOf neg k:=by
 cases neg
 ·have:decide (zOf false m<0)=false:=decide_eq_false (by unfold zOf;simp)
  rw [this]
 ·by_cases hm:m=0
  ·rw [h hm];unfold zOf;simp
  ·have:decide (zOf true m<0)=true:=decide_eq_true (by unfold zOf;simp;omega)
   rw [this]
def D9 (z:Int) (d:Nat):Fr:=if d=0 then Fr.none else Fr.mk' z d
theorem Ft {z:Int} {d:Nat} (h:d≠0):D9 z d=Fr.mk' z d:=by unfold D9;rw [if_neg h]
theorem Ps {z:Int} {d:Nat} (h:d=0):D9 z d=Fr.none:=by unfold D9;rw [if_pos h]
theorem EA {neg:Bool} {m d M D:Nat} {z:Int} (hz:zOf neg m=z) (hd:d≠0) (eM:m/m.gcd d=M) (eD:d/m.gcd d=D) (h1:nl M<=24) (h2:nl D<=24):(D9 z d).z=zOf neg M/\(D9 z d).d=D:=by
 have ha:z.natAbs=m:=by rw [← hz,DT]
 have hf:=Dm (z:=z) hd (by rw [ha,eM];exact h1) (by rw [ha,eD];exact h2)
 rw [Ft hd]
 rw [ha,eM,eD] at hf
 refine ⟨?_,hf.2.2⟩
 rw [← FP (Fr.mk' z d).z,hf.1,hf.2.1,← hz]
 exact U5 λ e=>by rw [← eM,e,Nat.zero_div]
theorem EM {neg:Bool} {m d M D:Nat} {z:Int} (hz:zOf neg m=z) (hd:d≠0) (eM:m/m.gcd d=M) (eD:d/m.gcd d=D) (h:¬ (nl M<=24/\nl D<=24)):D9 z d=Fr.none:=by
 have ha:z.natAbs=m:=by rw [← hz,DT]
 rw [Ft hd,Ee hd (by rw [ha,eM,eD];exact h)]
theorem Vi:[[Dat.int (1:Int)]]=L 1:=Tu (by decide) (by decide)
theorem BK (e:Nat) {n:Nat} (h:nl n<=9223372036854775807):Dat.has (.sl e [.int]) (.sl (L n)):=by
 refine ⟨by rw [AK];exact h,λ k hk=>?_⟩
 unfold L
 rw [Kt (by rw [AK] at hk;exact hk)]
 simp [hasRow,Dat.has]
theorem BC (r:Fr):Ff (decide (r.z<0)) (L r.z.natAbs) (L r.d)=r.good:=by
 rw [← Fr.neg_z,← Fr.num_z,← Fr.den_d];exact Rs r
theorem Pt {m:List (List Dat)} (h:A7 m=true):BV true m=decide (((m.length:Nat):Int)>(0:Int)):=by
 rw [LG h]
 by_cases hv:m.length=0
 ·rw [hv];rfl
 ·rw [decide_eq_true (by omega)]
  have:((((m.length:Nat):Int)) == (0:Int))=false:=by rw [beq_eq_false_iff_ne];omega
  rw [this];rfl
theorem T6 (r s:Fr):Fr.sub r s=Fr.add r s.opp:=(Fr.sub_opp r s).symm
theorem T7 {r s:Fr} (hr:r.d=1) (hs:s.d=1):Fr.add r s=D9 (r.z+s.z) 1:=by
 rw [Fr.add_zd (by omega) (by omega),Ft (by decide),hr,hs]
 show Fr.mk' (r.z*1+s.z*1) (1*1)=_
 rw [Int.mul_one,Int.mul_one]
theorem Qx {r s:Fr} (hr:r.d≠0) (hs:s.d≠0):Fr.add r s=D9 (r.z*((s.d:Nat):Int)+s.z*((r.d:Nat):Int)) (r.d*s.d):=by
 rw [Fr.add_zd hr hs,Ft (Nat.mul_ne_zero hr hs)]
theorem U6 {r s:Fr} (hr:r.d≠0) (hs:s.d≠0):Fr.mul r s=D9 (r.z*s.z) (r.d*s.d):=by
 rw [Fr.mul_zd hr hs,Ft (Nat.mul_ne_zero hr hs)]
theorem U7 {r s:Fr} (hr:r.d≠0) (hs:s.d≠0):Fr.div r s=D9 (zOf (decide (r.z<0) != decide (s.z<0)) (r.z.natAbs*s.d)) (r.d*s.z.natAbs):=by
 by_cases hz:s.z=0
 ·rw [Fr.div_bad (.inr (.inr hz)),Ps (by rw [hz];exact Nat.mul_zero _)]
 ·rw [Fr.div_zd hr hs hz,Ft (Nat.mul_ne_zero hr (by omega)),R5 hs,Int.natAbs_mul,Int.natAbs_natCast]
def BO:Con:={ ι:=Bool×(List (List Dat)),pre:=λ i=>i.2.length<=9223372036854775807,args:=λ i=>[DA.agg [cB i.1,cS i.2]],res:=λ i=>⟨false,[none],[rcB (BV i.1 i.2)]⟩ }
theorem IS:BO.Ok Tryz.prog 207:=by
 refine fok (X:=⟨tt,[(208,By)],[],17,[]⟩) mixed AN (CTok.cons I7 (CTok.nil _)) Tryz.func207 (λ _=>[]) ?_
 rintro ⟨neg,m⟩ hpre
 have hpre:m.length<=9223372036854775807:=hpre
 refine AP (q:=let Z1:=BV neg m;∃ i1:(List (List Dat)),[DA.one (cS m)]=By.args i1/\By.pre i1/\(ifB ((A7 i1)) (ifB ((!(!neg))) ((vB (decide ((nI m.length)>(0:Int)))=vB Z1)) ((vB true=vB Z1))) ((vB false=vB Z1)))) (by kernel_rfl) ?_
 conv=>zeta
 delta ifB vB nI
 refine ⟨m,by
  rfl,by
  trivial,?_⟩
 refine And.symm ⟨λ c4=>?_,λ c4=>?_⟩
 ·try simp only [nrm] at c4
  unfold BV;rw [c4];rfl
 try simp only [nrm] at c4
 refine ⟨λ c5=>?_,λ c5=>?_⟩
 ·try simp only [nrm] at c5
  rw [c5,Pt c4];done
 try simp only [nrm] at c5
 unfold BV;rw [c4,c5];rfl
def AM:Con:={ ι:=Bool×Nat×Int,pre:=λ i=>nl i.2.1<=60/\zOf i.1 i.2.1=i.2.2,args:=λ i=>[.one (cB i.1),.one (cS (L i.2.1))],res:=λ i=>⟨false,[some 2],[rcB (decide (i.2.2<0)),.own 3 [.int] (L i.2.2.natAbs)]⟩ }
theorem Di:AM.Ok Tryz.prog 199:=by
 refine fok (X:=⟨tt,[(254,Fq)],[],18,[]⟩) mixed AN (CTok.cons R0 (CTok.nil _)) Tryz.func199 (λ _=>[]) ?_
 rintro ⟨neg,m,z⟩ hpre
 have hpre:nl m<=60/\zOf neg m=z:=hpre
 refine AP (q:=∃ i1:Nat,let Z1:=(([]:List (List Dat))++L i1)=L z.natAbs;[DA.one (cS (L m))]=Fq.args i1/\Fq.pre i1/\(ifB (neg) ((([]:List (List Dat)).length+(L i1).length<=2199023255552)/\((vB (decide ((nI ((L i1).length))>(0:Int)))=vB (decide (z<0)))/\Z1)) ((([]:List (List Dat)).length+(L i1).length<=2199023255552)/\((vB false=vB (decide (z<0)))/\Z1)))) (by kernel_rfl) ?_
 conv=>zeta
 delta ifB vB nI
 refine ⟨m,by
  rfl,by
  exact hpre.1,?_⟩
 refine ⟨λ c4=>?_,λ c4=>?_⟩
 ·try simp only [nrm] at c4
  refine ao (by first|(rw [AK];simp only [List.length_nil];omega)) λ o5=>?_
  refine ⟨?_,?_⟩
  ·rw [← hpre.2]
   rw [J1,c4];rfl
  rw [← hpre.2]
  rw [DT];exact List.nil_append _
 try simp only [nrm] at c4
 refine ao (by first|(rw [AK];simp only [List.length_nil];omega)) λ o8=>?_
 refine ⟨?_,?_⟩
 ·rw [← hpre.2]
  rw [J1,c4];rfl
 rw [← hpre.2]
 rw [DT];exact List.nil_append _
def BP:Con:={ ι:=Int,pre:=λ i=>-9223372036854775808<=i/\i<=9223372036854775807,args:=λ i=>[.one (cI i)],res:=λ i=>⟨false,[some 2],[rcB (decide (i<0)),.own 3 [.int] (L i.natAbs)]⟩ }
theorem IT:BP.Ok Tryz.prog 137:=by
 refine fok (X:=⟨tt,[(199,AM),(200,A4)],[],16,[]⟩) mixed AN (CTok.cons Di (CTok.cons G7 (CTok.nil _))) Tryz.func137 (λ _=>[]) ?_
 intro (n:Int) hpre
 have hpre:-9223372036854775808<=n/\n<=9223372036854775807:=hpre
 refine AP (q:=let Z1:=decide (n<0);ifB ((n == (-9223372036854775808:Int))) (∃ i1:Bool×Nat×Int,[DA.one (cB true),DA.one (cS ([[Dat.int (854775808:Int)],[Dat.int (223372036:Int)],[Dat.int (9:Int)]]:List (List Dat)))]=AM.args i1/\AM.pre i1/\((vB (decide (i1.2.2<0))=vB Z1)/\(L i1.2.2.natAbs=L n.natAbs))) (ifB ((decide (n<(0:Int)))) (∃ i2:Nat,[DA.one (cI (wR (0-n)))]=A4.args i2/\A4.pre i2/\(∃ i3:Bool×Nat×Int,[DA.one (cB true),DA.one (cS (L i2))]=AM.args i3/\AM.pre i3/\((vB (decide (i3.2.2<0))=vB Z1)/\(L i3.2.2.natAbs=L n.natAbs)))) (∃ i4:Nat,[DA.one (cI n)]=A4.args i4/\A4.pre i4/\(∃ i5:Bool×Nat×Int,[DA.one (cB false),DA.one (cS (L i4))]=AM.args i5/\AM.pre i5/\((vB (decide (i5.2.2<0))=vB Z1)/\(L i5.2.2.natAbs=L n.natAbs)))))) (by kernel_rfl) ?_
 conv=>zeta
 delta ifB vB wR
 refine ⟨λ c1=>?_,λ c1=>?_⟩
 ·try simp only [nrm] at c1
  refine ⟨(true,9223372036854775808,n),by
   rw [YC];rfl,by
   show nl 9223372036854775808<=60/\zOf true 9223372036854775808=n
   exact ⟨Nat.le_trans ((Dd 3 _).2 (by decide)) (by decide),by unfold zOf;rw [if_pos rfl];omega⟩,?_⟩
  exact ⟨rfl,rfl⟩
 try simp only [nrm] at c1
 refine ⟨λ c7=>?_,λ c7=>?_⟩
 ·try simp only [nrm] at c7
  have en:IntKind.i64.wrap (0-n)=(((-n).toNat:Nat):Int):=by rw [AB (by omega) (by omega)];omega
  have ea:n.natAbs=(-n).toNat:=by omega
  refine ⟨(-n).toNat,by
   rw [en];rfl,by
   show ((-n).toNat)<=9223372036854775807
   omega,?_⟩
  refine ⟨(true,(-n).toNat,n),by
   rfl,by
   show nl ((-n).toNat)<=60/\zOf true ((-n).toNat)=n
   exact ⟨Nat.le_trans (by rw [← ea];exact BR hpre) (by decide),by unfold zOf;rw [if_pos rfl];omega⟩,?_⟩
  exact ⟨rfl,rfl⟩
 try simp only [nrm] at c7
 have en:n=((n.toNat:Nat):Int):=by omega
 have ea:n.natAbs=n.toNat:=by omega
 refine ⟨n.toNat,by
  show [DA.one (DC.im (Value.int .i64 n))]=[DA.one (DC.im (Value.int .i64 ((n.toNat:Nat):Int)))]
  rw [← en],by
  show n.toNat<=9223372036854775807
  omega,?_⟩
 refine ⟨(false,n.toNat,n),by
  rfl,by
  show nl n.toNat<=60/\zOf false n.toNat=n
  exact ⟨Nat.le_trans (by rw [← ea];exact BR hpre) (by decide),by unfold zOf;rw [if_neg (by decide)];omega⟩,?_⟩
 exact ⟨rfl,rfl⟩
def CX:Con:={ ι:=Int×Int,pre:=λ i=>nl i.1.natAbs<=59/\nl i.2.natAbs<=59,args:=λ i=>[dB i.1,dB i.2],res:=λ i=>⟨false,[some 2],[rcB (decide ((i.1+i.2)<0)),.own 3 [.int] (L (i.1+i.2).natAbs)]⟩ }
theorem R6:CX.Ok Tryz.prog 257:=by
 refine fok (X:=⟨tt,[(303,Fs),(199,AM),(261,AX),(302,Bz)],[],40,[]⟩) mixed AN (CTok.cons R4 (CTok.cons Di (CTok.cons FS (CTok.cons MO (CTok.nil _))))) Tryz.func257 (λ _=>[]) ?_
 rintro ⟨x,y⟩ hpre
 have hpre:nl x.natAbs<=59/\nl y.natAbs<=59:=hpre
 refine AP (q:=let Z4:=decide (x<0);let Z3:=decide ((x+y)<0);let Z2:=cS (L y.natAbs);let Z1:=cS (L x.natAbs);ifB ((Z4 == (decide (y<0)))) (∃ i1:Nat×Nat,[DA.one Z1,DA.one Z2]=Fs.args i1/\Fs.pre i1/\(∃ i2:Bool×Nat×Int,[DA.one (cB Z4),DA.one (cS (L (i1.1+i1.2)))]=AM.args i2/\AM.pre i2/\((vB (decide (i2.2.2<0))=vB Z3)/\(L i2.2.2.natAbs=L (x+y).natAbs)))) (∃ i3:Nat×Nat,[DA.one Z1,DA.one Z2]=AX.args i3/\AX.pre i3/\(ifB ((decide ((Bn i3.1 i3.2)≥(0:Int)))) (∃ i4:Nat×Nat,[DA.one Z1,DA.one Z2]=Bz.args i4/\Bz.pre i4/\(∃ i5:Bool×Nat×Int,[DA.one (cB Z4),DA.one (cS (L (i4.1-i4.2)))]=AM.args i5/\AM.pre i5/\((vB (decide (i5.2.2<0))=vB Z3)/\(L i5.2.2.natAbs=L (x+y).natAbs)))) (∃ i6:Nat×Nat,[DA.one Z2,DA.one Z1]=Bz.args i6/\Bz.pre i6/\(∃ i7:Bool×Nat×Int,[DA.one (cB (decide (y<0))),DA.one (cS (L (i6.1-i6.2)))]=AM.args i7/\AM.pre i7/\((vB (decide (i7.2.2<0))=vB Z3)/\(L i7.2.2.natAbs=L (x+y).natAbs))))))) (by kernel_rfl) ?_
 conv=>zeta
 delta ifB vB
 have hs:=Iy x.natAbs y.natAbs
 have hs1:=Ci (Nat.sub_le x.natAbs y.natAbs)
 have hs2:=Ci (Nat.sub_le y.natAbs x.natAbs)
 refine ⟨λ c1=>?_,λ c1=>?_⟩
 ·try simp only [nrm] at c1
  refine ⟨(x.natAbs,y.natAbs),by
   rfl,by
   show nl x.natAbs<=1048576/\nl y.natAbs<=1048576
   exact ⟨by omega,by omega⟩,?_⟩
  refine ⟨(decide (x<0),x.natAbs+y.natAbs,x+y),by
   rfl,by
   show nl (x.natAbs+y.natAbs)<=60/\zOf (decide (x<0)) (x.natAbs+y.natAbs)=(x+y)
   exact ⟨by omega,K9 c1⟩,?_⟩
  exact ⟨rfl,rfl⟩
 try simp only [nrm] at c1
 refine ⟨(x.natAbs,y.natAbs),by
  rfl,by
  show nl x.natAbs<=1048576/\nl y.natAbs<=1048576
  exact ⟨by omega,by omega⟩,?_⟩
 refine ⟨λ c13=>?_,λ c13=>?_⟩
 ·try simp only [nrm] at c13
  refine ⟨(x.natAbs,y.natAbs),by
   rfl,by
   show nl x.natAbs<=1048576/\nl y.natAbs<=1048576/\y.natAbs<=x.natAbs
   exact ⟨by omega,by omega,Ec.1 c13⟩,?_⟩
  refine ⟨(decide (x<0),x.natAbs-y.natAbs,x+y),by
   rfl,by
   show nl (x.natAbs-y.natAbs)<=60/\zOf (decide (x<0)) (x.natAbs-y.natAbs)=(x+y)
   exact ⟨by omega,IR c1 (Ec.1 c13)⟩,?_⟩
  exact ⟨rfl,rfl⟩
 try simp only [nrm] at c13
 refine ⟨(y.natAbs,x.natAbs),by
  rfl,by
  show nl y.natAbs<=1048576/\nl x.natAbs<=1048576/\x.natAbs<=y.natAbs
  exact ⟨by omega,by omega,Nat.le_of_lt (DS.1 c13)⟩,?_⟩
 refine ⟨(decide (y<0),y.natAbs-x.natAbs,x+y),by
  rfl,by
  show nl (y.natAbs-x.natAbs)<=60/\zOf (decide (y<0)) (y.natAbs-x.natAbs)=(x+y)
  exact ⟨by omega,LA c1 (Nat.le_of_lt (DS.1 c13))⟩,?_⟩
 exact ⟨rfl,rfl⟩
def Fu:Con:={ ι:=Int×Int,pre:=λ i=>nl i.1.natAbs<=59/\nl i.2.natAbs<=59,args:=λ i=>[dB i.1,dB i.2],res:=λ i=>⟨false,[none],[rcI (C6 i.1 i.2)]⟩ }
theorem R7:Fu.Ok Tryz.prog 211:=by
 refine fok (X:=⟨tt,[(261,AX)],[],34,[]⟩) mixed AN (CTok.cons FS (CTok.nil _)) Tryz.func211 (λ _=>[]) ?_
 rintro ⟨x,y⟩ hpre
 have hpre:nl x.natAbs<=59/\nl y.natAbs<=59:=hpre
 refine AP (q:=let Z5:=decide (y<0);let Z4:=C6 x y;let Z6:=(vI (1:Int)=vI Z4);let Z3:=decide (x<0);let Z2:=cS (L x.natAbs);let Z1:=cS (L y.natAbs);ifB Z3 (ifB ((!Z5)) ((vI (-1:Int)=vI Z4)) (ifB ((!Z3)) (ifB Z5 Z6 (ifB Z3 (∃ i1:Nat×Nat,[DA.one Z1,DA.one Z2]=AX.args i1/\AX.pre i1/\((vI (Bn i1.1 i1.2)=vI Z4))) (∃ i2:Nat×Nat,[DA.one Z2,DA.one Z1]=AX.args i2/\AX.pre i2/\((vI (Bn i2.1 i2.2)=vI Z4))))) (ifB Z3 (∃ i3:Nat×Nat,[DA.one Z1,DA.one Z2]=AX.args i3/\AX.pre i3/\((vI (Bn i3.1 i3.2)=vI Z4))) (∃ i4:Nat×Nat,[DA.one Z2,DA.one Z1]=AX.args i4/\AX.pre i4/\((vI (Bn i4.1 i4.2)=vI Z4)))))) (ifB ((!Z3)) (ifB Z5 Z6 (ifB Z3 (∃ i5:Nat×Nat,[DA.one Z1,DA.one Z2]=AX.args i5/\AX.pre i5/\((vI (Bn i5.1 i5.2)=vI Z4))) (∃ i6:Nat×Nat,[DA.one Z2,DA.one Z1]=AX.args i6/\AX.pre i6/\((vI (Bn i6.1 i6.2)=vI Z4))))) (ifB Z3 (∃ i7:Nat×Nat,[DA.one Z1,DA.one Z2]=AX.args i7/\AX.pre i7/\((vI (Bn i7.1 i7.2)=vI Z4))) (∃ i8:Nat×Nat,[DA.one Z2,DA.one Z1]=AX.args i8/\AX.pre i8/\((vI (Bn i8.1 i8.2)=vI Z4)))))) (by kernel_rfl) ?_
 conv=>zeta
 delta ifB vI
 refine And.symm ⟨λ c1=>?_,λ c1=>?_⟩
 ·try simp only [nrm] at c1
  refine And.symm ⟨λ c25=>?_,λ c25=>?_⟩
  ·try simp only [nrm] at c25
   refine ⟨λ c37=>?_,λ c37=>?_⟩
   ·try simp only [nrm] at c37
    refine ⟨(y.natAbs,x.natAbs),by
     rfl,by
     exact ⟨by omega,by omega⟩,?_⟩
    exfalso;omega
   try simp only [nrm] at c37
   refine ⟨(x.natAbs,y.natAbs),by
    rfl,by
    exact ⟨by omega,by omega⟩,?_⟩
   exfalso;omega
  try simp only [nrm] at c25
  refine ⟨λ c26=>?_,λ c26=>?_⟩
  ·try simp only [nrm] at c26
   rw [← Qu (by omega) (by omega)]
  try simp only [nrm] at c26
  refine ⟨λ c28=>?_,λ c28=>?_⟩
  ·try simp only [nrm] at c28
   refine ⟨(y.natAbs,x.natAbs),by
    rfl,by
    exact ⟨by omega,by omega⟩,?_⟩
   exfalso;omega
  try simp only [nrm] at c28
  refine ⟨(x.natAbs,y.natAbs),by
   rfl,by
   show nl x.natAbs<=1048576/\nl y.natAbs<=1048576
   exact ⟨by omega,by omega⟩,?_⟩
  rw [Qs (by omega) (by omega)]
 try simp only [nrm] at c1
 refine ⟨λ c2=>?_,λ c2=>?_⟩
 ·try simp only [nrm] at c2
  rw [← Qt (by omega) (by omega)]
 try simp only [nrm] at c2
 refine And.symm ⟨λ c4=>?_,λ c4=>?_⟩
 ·try simp only [nrm] at c4
  refine And.symm ⟨λ c16=>?_,λ c16=>?_⟩
  ·try simp only [nrm] at c16
   refine ⟨(x.natAbs,y.natAbs),by
    rfl,by
    exact ⟨by omega,by omega⟩,?_⟩
   exfalso;omega
  try simp only [nrm] at c16
  refine ⟨(y.natAbs,x.natAbs),by
   rfl,by
   show nl y.natAbs<=1048576/\nl x.natAbs<=1048576
   exact ⟨by omega,by omega⟩,?_⟩
  rw [Qr (by omega) (by omega)]
 try simp only [nrm] at c4
 refine ⟨λ c5=>?_,λ c5=>?_⟩
 ·try simp only [nrm] at c5
  exfalso;omega
 try simp only [nrm] at c5
 refine ⟨λ c7=>?_,λ c7=>?_⟩
 ·try simp only [nrm] at c7
  refine ⟨(y.natAbs,x.natAbs),by
   rfl,by
   exact ⟨by omega,by omega⟩,?_⟩
  exfalso;omega
 try simp only [nrm] at c7
 refine ⟨(x.natAbs,y.natAbs),by
  rfl,by
  exact ⟨by omega,by omega⟩,?_⟩
 exfalso;omega
def BJ:Con:={ ι:=Nat,pre:=λ i=>True,args:=λ i=>[.one (cS (L i))],res:=λ i=>⟨false,[none],[rcB (decide (i=1))]⟩ }
theorem I8:BJ.Ok Tryz.prog 209:=by
 refine fok (X:=⟨tt,[],[],12,[]⟩) mixed AN (CTok.nil _) Tryz.func209 (λ _=>[]) ?_
 intro (a:Nat) hpre
 have hpre:True:=hpre
 refine AP (q:=ifB (((nI ((L a).length)) == (1:Int))) ((0<=(0:Int)/\(0:Int)<((L a).length:Int))/\((0<(L a).length)/\((vB (((((L a).getD 0 []).getD 0 (.int 0))).n == (1:Int))=vB (decide (a=1)))))) ((vB false=vB (decide (a=1))))) (by kernel_rfl) ?_
 delta ifB vB nI
 have ha:=AK a
 refine And.symm ⟨λ c1=>?_,λ c1=>?_⟩
 ·try simp only [nrm] at c1
  exact congrArg Value.bool (decide_eq_false (λ e=>by subst e;rw [NF] at ha;omega)).symm
 try simp only [nrm] at c1
 have h1:=GZ (b:=a) (by omega)
 refine ao (by omega) λ o2=>?_
 refine ao (by omega) λ o3=>?_
 rw [L_n,h1.1]
 exact congrArg Value.bool (by rw [Bool.eq_iff_iff,beq_iff_eq,decide_eq_true_iff];omega)
def Ax:Con:={ ι:=Bool×Nat×Nat×Int,pre:=λ i=>nl i.2.1<=1000/\nl i.2.2.1<=1000/\zOf i.1 i.2.1=i.2.2.2,args:=λ i=>[.one (cB i.1),.one (cS (L i.2.1)),.one (cS (L i.2.2.1))],res:=λ i=>⟨false,[some 3],[rcB (decide ((D9 i.2.2.2 i.2.2.1).z<0)),.own 3 [.int] (L (D9 i.2.2.2 i.2.2.1).z.natAbs),.own 3 [.int] (L (D9 i.2.2.2 i.2.2.1).d)]⟩ }
theorem G8:Ax.Ok Tryz.prog 202:=by
 refine fok (X:=⟨tt,[(255,Ac),(209,BJ),(210,C9),(256,Bl),(199,AM)],[],55,[]⟩) mixed AN (CTok.cons Dh (CTok.cons I8 (CTok.cons MQ (CTok.cons MP (CTok.cons Di (CTok.nil _)))))) Tryz.func202 (λ _=>[]) ?_
 rintro ⟨neg,m,d,z⟩ hpre
 have hpre:nl m<=1000/\nl d<=1000/\zOf neg m=z:=hpre
 refine AP (q:=let Z9:=List Dat;let Z1:=D9 z d;let Z7:=decide (Z1.z<0);let Z6:=(eqN Z1);∃ i1:(List Nat)×Nat,let Z8:=cS (L i1.2);let Z2:=(!(decide ((nI ((L i1.2).length))>(24:Int))));[DA.one (cS (L m))]=Ac.args i1/\Ac.pre i1/\(∃ i2:(List Nat)×Nat,let Z4:=(([]:List Z9)++L i2.2)=L Z1.d;let Z3:=(decide ((nI ((L i2.2).length))>(24:Int)));[DA.one (cS (L d))]=Ac.args i2/\Ac.pre i2/\(ifB (((nI ((L i2.2).length)) == (0:Int))) Z6 (∃ i3:Nat,[DA.one (cS (L i2.2))]=BJ.args i3/\BJ.pre i3/\(ifB ((!(decide (i3=1)))) (∃ i4:Nat×Nat,let Z5:=cS (L (i4.1.gcd i4.2));[DA.one Z8,DA.one (cS (L i2.2))]=C9.args i4/\C9.pre i4/\(∃ i5:Nat,[DA.one Z5]=BJ.args i5/\BJ.pre i5/\(ifB ((!(decide (i5=1)))) (∃ i6:Nat×Nat,[DA.one Z8,DA.one Z5]=Bl.args i6/\Bl.pre i6/\(∃ i7:Nat×Nat,[DA.one (cS (L i2.2)),DA.one Z5]=Bl.args i7/\Bl.pre i7/\(ifB ((!(decide ((nI ((L (i6.1/i6.2)).length))>(24:Int))))) (ifB ((decide ((nI ((L (i7.1/i7.2)).length))>(24:Int)))) Z6 (∃ i8:Bool×Nat×Int,[DA.one (cB neg),DA.one (cS (L (i6.1/i6.2)))]=AM.args i8/\AM.pre i8/\((([]:List Z9).length+(L (i7.1/i7.2)).length<=2199023255552)/\((vB (decide (i8.2.2<0))=vB Z7)/\(L i8.2.2.natAbs=L Z1.z.natAbs)/\((([]:List Z9)++L (i7.1/i7.2))=L Z1.d))))) Z6))) (ifB Z2 (ifB Z3 Z6 (∃ i9:Bool×Nat×Int,[DA.one (cB neg),DA.one Z8]=AM.args i9/\AM.pre i9/\((([]:List Z9).length+(L i2.2).length<=2199023255552)/\((vB (decide (i9.2.2<0))=vB Z7)/\(L i9.2.2.natAbs=L Z1.z.natAbs)/\Z4)))) Z6)))) (ifB Z2 (ifB Z3 Z6 (∃ i10:Bool×Nat×Int,[DA.one (cB neg),DA.one Z8]=AM.args i10/\AM.pre i10/\((([]:List Z9).length+(L i2.2).length<=2199023255552)/\((vB (decide (i10.2.2<0))=vB Z7)/\(L i10.2.2.natAbs=L Z1.z.natAbs)/\Z4)))) Z6)))))) (by kernel_rfl) ?_
 conv=>zeta
 delta ifB vB nI
 refine ⟨(dig m,m),by
  rfl,by
  exact ⟨by show nl _<=_;omega,Kp _,FG _⟩,?_⟩
 refine ⟨(dig d,d),by
  rfl,by
  exact ⟨by show nl _<=_;omega,Kp _,FG _⟩,?_⟩
 refine ⟨λ c7=>?_,λ c7=>?_⟩
 ·try simp only [nrm] at c7
  have hE:D9 z d=Fr.none:=Ps (Gb (by omega))
  refine BE ?_
  rw [hE];done
 try simp only [nrm] at c7
 have hd:d≠0:=λ e=>by subst e;rw [AK,CC] at c7;omega
 have hg:=Qw (a:=m) hd
 refine ⟨d,by
  rfl,by
  trivial,?_⟩
 refine And.symm ⟨λ c14=>?_,λ c14=>?_⟩
 ·try simp only [nrm] at c14
  have e1:m.gcd d=1:=by rw [c14];exact Nat.gcd_one_right _
  have eM:m/m.gcd d=m:=by rw [e1,Nat.div_one]
  have eD:d/m.gcd d=d:=by rw [e1,Nat.div_one]
  have lm:=AK m
  have ld:=AK d
  refine And.symm ⟨λ c58=>?_,λ c58=>?_⟩
  ·try simp only [nrm] at c58
   refine BE ?_
   rw [EM hpre.2.2 hd eM eD (by omega)];done
  try simp only [nrm] at c58
  refine ⟨λ c59=>?_,λ c59=>?_⟩
  ·try simp only [nrm] at c59
   refine BE ?_
   rw [EM hpre.2.2 hd eM eD (by omega)];done
  try simp only [nrm] at c59
  refine ⟨(neg,m,(zOf neg m)),by
   rfl,by
   show nl m<=60/\zOf neg m=(zOf neg m)
   exact ⟨by omega,by omega⟩,?_⟩
  refine ao (a:=([]:List (List Dat)).length+(L d).length<=2199023255552) (by simp only [List.length_nil];omega) λ o66=>?_
  refine ⟨?_,?_,?_⟩
  ·rw [(EA hpre.2.2 hd eM eD (by omega) (by omega)).1];done
  ·rw [(EA hpre.2.2 hd eM eD (by omega) (by omega)).1];done
  rw [(EA hpre.2.2 hd eM eD (by omega) (by omega)).2];exact List.nil_append _
 try simp only [nrm] at c14
 refine ⟨(m,d),by
  rfl,by
  show nl m<=131072/\nl d<=131072
  exact ⟨by omega,by omega⟩,?_⟩
 refine ⟨(m.gcd d),by
  rfl,by
  trivial,?_⟩
 refine And.symm ⟨λ c21=>?_,λ c21=>?_⟩
 ·try simp only [nrm] at c21
  have e1:m.gcd d=1:=c21
  have eM:m/m.gcd d=m:=by rw [e1,Nat.div_one]
  have eD:d/m.gcd d=d:=by rw [e1,Nat.div_one]
  have lm:=AK m
  have ld:=AK d
  refine And.symm ⟨λ c43=>?_,λ c43=>?_⟩
  ·try simp only [nrm] at c43
   refine BE ?_
   rw [EM hpre.2.2 hd eM eD (by omega)];done
  try simp only [nrm] at c43
  refine ⟨λ c44=>?_,λ c44=>?_⟩
  ·try simp only [nrm] at c44
   refine BE ?_
   rw [EM hpre.2.2 hd eM eD (by omega)];done
  try simp only [nrm] at c44
  refine ⟨(neg,m,(zOf neg m)),by
   rfl,by
   show nl m<=60/\zOf neg m=(zOf neg m)
   exact ⟨by omega,by omega⟩,?_⟩
  refine ao (a:=([]:List (List Dat)).length+(L d).length<=2199023255552) (by simp only [List.length_nil];omega) λ o51=>?_
  refine ⟨?_,?_,?_⟩
  ·rw [(EA hpre.2.2 hd eM eD (by omega) (by omega)).1];done
  ·rw [(EA hpre.2.2 hd eM eD (by omega) (by omega)).1];done
  rw [(EA hpre.2.2 hd eM eD (by omega) (by omega)).2];exact List.nil_append _
 try simp only [nrm] at c21
 have eM:m/m.gcd d=m/m.gcd d:=rfl
 have eD:d/m.gcd d=d/m.gcd d:=rfl
 have lm:=AK (m/m.gcd d)
 have ld:=AK (d/m.gcd d)
 refine ⟨(m,(m.gcd d)),by
  rfl,by
  show (m.gcd d)≠0/\nl m<=131072/\nl (m.gcd d)<=131072
  exact ⟨by omega,by omega⟩,?_⟩
 refine ⟨(d,(m.gcd d)),by
  rfl,by
  show (m.gcd d)≠0/\nl d<=131072/\nl (m.gcd d)<=131072
  exact ⟨by omega,by omega⟩,?_⟩
 refine And.symm ⟨λ c28=>?_,λ c28=>?_⟩
 ·try simp only [nrm] at c28
  refine BE ?_
  rw [EM hpre.2.2 hd eM eD (by omega)];done
 try simp only [nrm] at c28
 refine ⟨λ c29=>?_,λ c29=>?_⟩
 ·try simp only [nrm] at c29
  refine BE ?_
  rw [EM hpre.2.2 hd eM eD (by omega)];done
 try simp only [nrm] at c29
 refine ⟨(neg,(m/(m.gcd d)),(zOf neg (m/(m.gcd d)))),by
  rfl,by
  show nl (m/(m.gcd d))<=60/\zOf neg (m/(m.gcd d))=(zOf neg (m/(m.gcd d)))
  exact ⟨by omega,by omega⟩,?_⟩
 refine ao (a:=([]:List (List Dat)).length+(L (d/(m.gcd d))).length<=2199023255552) (by simp only [List.length_nil];omega) λ o36=>?_
 refine ⟨?_,?_,?_⟩
 ·rw [(EA hpre.2.2 hd eM eD (by omega) (by omega)).1];done
 ·rw [(EA hpre.2.2 hd eM eD (by omega) (by omega)).1];done
 rw [(EA hpre.2.2 hd eM eD (by omega) (by omega)).2];exact List.nil_append _
def AO:Con:={ ι:=Bool×(List (List Dat))×(List (List Dat))×Bool,pre:=λ i=>Dat.has (.sl 3 [.int]) (.sl i.2.1)/\Dat.has (.sl 3 [.int]) (.sl i.2.2.1)/\i.2.1.length<=9223372036854775807/\i.2.2.1.length<=9223372036854775807/\Ff i.1 i.2.1 i.2.2.1=i.2.2.2,args:=λ i=>[DA.agg [cB i.1,cS i.2.1,cS i.2.2.1]],res:=λ i=>⟨false,[none],[rcB i.2.2.2]⟩ }
theorem EN:AO.Ok Tryz.prog 146:=by
 refine fok (X:=⟨tt,[(207,BO),(208,By),(210,C9),(209,BJ)],[],39,[]⟩) mixed AN (CTok.cons IS (CTok.cons I7 (CTok.cons MQ (CTok.cons I8 (CTok.nil _))))) Tryz.func146 (λ _=>[]) ?_
 rintro ⟨neg,m,d,b⟩ hpre
 have hpre:Dat.has (.sl 3 [.int]) (.sl m)/\Dat.has (.sl 3 [.int]) (.sl d)/\m.length<=9223372036854775807/\d.length<=9223372036854775807/\Ff neg m d=b:=hpre
 refine AP (q:=let Z1:=(vB false=vB b);∃ i1:Bool×(List (List Dat)),[DA.agg [cB neg,cS m]]=BO.args i1/\BO.pre i1/\(ifB ((!(!(BV i1.1 i1.2)))) (∃ i2:(List (List Dat)),[DA.one (cS d)]=By.args i2/\By.pre i2/\(ifB ((!(!(A7 i2)))) (ifB ((!((nI d.length) == (0:Int)))) (ifB ((!(decide ((nI d.length)>(24:Int))))) (ifB ((decide ((nI m.length)>(24:Int)))) Z1 (∃ i3:Nat×Nat,[DA.one (cS m),DA.one (cS d)]=C9.args i3/\C9.pre i3/\(∃ i4:Nat,[DA.one (cS (L (i3.1.gcd i3.2)))]=BJ.args i4/\BJ.pre i4/\((vB (decide (i4=1))=vB b))))) Z1) Z1) Z1)) Z1)) (by kernel_rfl) ?_
 conv=>zeta
 delta ifB vB nI
 refine ⟨(neg,m),by
  rfl,by
  show m.length<=9223372036854775807
  omega,?_⟩
 refine And.symm ⟨λ c4=>?_,λ c4=>?_⟩
 ·try simp only [nrm] at c4
  have hE:false=b:=by rw [← hpre.2.2.2.2];exact (FQ (.inl c4)).symm
  rw [hE]
 try simp only [nrm] at c4
 refine ⟨d,by
  rfl,by
  show d.length<=9223372036854775807
  omega,?_⟩
 refine And.symm ⟨λ c8=>?_,λ c8=>?_⟩
 ·try simp only [nrm] at c8
  have hE:false=b:=by rw [← hpre.2.2.2.2];exact (FQ (.inr (.inl c8))).symm
  rw [hE]
 try simp only [nrm] at c8
 refine And.symm ⟨λ c9=>?_,λ c9=>?_⟩
 ·try simp only [nrm] at c9
  have hE:false=b:=by rw [← hpre.2.2.2.2];exact (FQ (.inr (.inr (.inl (by omega))))).symm
  rw [hE]
 try simp only [nrm] at c9
 refine And.symm ⟨λ c10=>?_,λ c10=>?_⟩
 ·try simp only [nrm] at c10
  have hE:false=b:=by rw [← hpre.2.2.2.2];exact (FQ (.inr (.inr (.inr (.inr (by omega)))))).symm
  rw [hE]
 try simp only [nrm] at c10
 refine ⟨λ c11=>?_,λ c11=>?_⟩
 ·try simp only [nrm] at c11
  have hE:false=b:=by rw [← hpre.2.2.2.2];exact (FQ (.inr (.inr (.inr (.inl (by omega)))))).symm
  rw [hE]
 try simp only [nrm] at c11
 obtain ⟨x,ea,na⟩:=Kv hpre.1 (Pn c4)
 obtain ⟨y,eb,nb⟩:=Kv hpre.2.1 c8
 have hR:=Po c4 c8 (by omega) (by omega) (by omega)
 refine ⟨(x,y),by
  rw [ea,eb];rfl,by
  show nl x<=131072/\nl y<=131072
  exact ⟨by omega,by omega⟩,?_⟩
 refine ⟨(x.gcd y),by
  rfl,by
  trivial,?_⟩
 rw [← hpre.2.2.2.2,hR,ea,eb,ND,ND]
def AR:Con:={ ι:=Int,pre:=λ i=>-9223372036854775808<=i/\i<=9223372036854775807,args:=λ i=>[.one (cI i)],res:=λ i=>⟨false,[some 3],[rcB (decide ((Fr.ofInt i).z<0)),.own 3 [.int] (L (Fr.ofInt i).z.natAbs),.own 3 [.int] (L (Fr.ofInt i).d)]⟩ }
theorem CY:AR.Ok Tryz.prog 90:=by
 refine fok (X:=⟨tt,[(137,BP)],[],7,[]⟩) mixed AN (CTok.cons IT (CTok.nil _)) Tryz.func90 (λ _=>[]) ?_
 intro (n:Int) hpre
 have hpre:-9223372036854775808<=n/\n<=9223372036854775807:=hpre
 refine AP (q:=∃ i1:Int,[DA.one (cI n)]=BP.args i1/\BP.pre i1/\((vB (decide (i1<0))=vB (decide ((Fr.ofInt n).z<0)))/\(L i1.natAbs=L (Fr.ofInt n).z.natAbs)/\(([[Dat.int (1:Int)]]:List (List Dat))=L (Fr.ofInt n).d))) (by kernel_rfl) ?_
 delta vB
 refine ⟨n,by
  rfl,by
  exact hpre,?_⟩
 refine ⟨?_,?_,?_⟩
 ·rw [(Ef (BR hpre)).1];done
 ·rw [(Ef (BR hpre)).1];done
 rw [(Ef (BR hpre)).2];exact Vi
def Fw:Con:={ ι:=Fr,pre:=λ i=>True,args:=λ i=>[dF i],res:=λ i=>⟨false,[some 3],[rcB (decide (i.opp.z<0)),.own 3 [.int] (L i.opp.z.natAbs),.own 3 [.int] (L i.opp.d)]⟩ }
theorem R8:Fw.Ok Tryz.prog 205:=by
 refine fok (X:=⟨tt,[(199,AM)],[],16,[]⟩) mixed AN (CTok.cons Di (CTok.nil _)) Tryz.func205 (λ _=>[]) ?_
 intro (r:Fr) hpre
 have hpre:True:=hpre
 refine AP (q:=∃ i1:Bool×Nat×Int,[DA.one (cB (!(decide (r.z<0)))),DA.one (cS (L r.z.natAbs))]=AM.args i1/\AM.pre i1/\((([]:List (List Dat)).length+(L r.d).length<=2199023255552)/\((vB (decide (i1.2.2<0))=vB (decide (r.opp.z<0)))/\(L i1.2.2.natAbs=L r.opp.z.natAbs)/\((([]:List (List Dat))++(L r.d))=L r.opp.d)))) (by kernel_rfl) ?_
 delta vB
 have h1:=r.nlz
 have h2:=r.nld
 have lr:=AK r.d
 have lz:=AK r.z.natAbs
 refine ⟨(!(decide (r.z<0)),r.z.natAbs,-r.z),by
  rfl,by
  show nl r.z.natAbs<=60/\zOf (!(decide (r.z<0))) r.z.natAbs=(-r.z)
  exact ⟨by omega,NC _⟩,?_⟩
 refine ao (by simp only [List.length_nil];omega) λ o4=>?_
 refine ⟨?_,?_,?_⟩
 ·rw [Fr.opp_z];done
 ·rw [Fr.opp_z];done
 rw [Fr.opp_d];exact List.nil_append _
def Bc:Con:={ ι:=Bool×(List (List Dat))×(List (List Dat)),pre:=λ i=>i.2.1.length<=1073741824/\i.2.2.length<=1073741824,args:=λ i=>[DA.agg [cB i.1,cS i.2.1,cS i.2.2]],res:=λ i=>⟨false,[some 3],[rcB i.1,.own 3 [.int] i.2.1,.own 3 [.int] i.2.2]⟩ }
theorem Pu:Bc.Ok Tryz.prog 148:=by
 refine fok (X:=⟨tt,[],[],17,[]⟩) mixed AN (CTok.nil _) Tryz.func148 (λ _=>[]) ?_
 rintro ⟨neg,m,d⟩ hpre
 have hpre:m.length<=1073741824/\d.length<=1073741824:=hpre
 refine AP (q:=(([]:List (List Dat)).length+m.length<=2199023255552)/\((([]:List (List Dat)).length+d.length<=2199023255552)/\((vB neg=vB neg)/\((([]:List (List Dat))++m)=m)/\((([]:List (List Dat))++d)=d)))) (by kernel_rfl) ?_
 delta vB
 refine ao (by simp only [List.length_nil];omega) λ o1=>?_
 refine ao (by simp only [List.length_nil];omega) λ o2=>?_
 refine ⟨rfl,?_,?_⟩
 ·rfl
 rfl
def DB:Con:={ ι:=Fr×Fr,pre:=λ i=>i.1.d≠0/\i.2.d≠0,args:=λ i=>[dF i.1,dF i.2],res:=λ i=>⟨false,[some 3],[rcB (decide ((Fr.add i.1 i.2).z<0)),.own 3 [.int] (L (Fr.add i.1 i.2).z.natAbs),.own 3 [.int] (L (Fr.add i.1 i.2).d)]⟩ }
set_option maxHeartbeats 4000000 in
theorem MR:DB.Ok Tryz.prog 204:=by
 refine fok (X:=⟨tt,[(209,BJ),(257,CX),(202,Ax),(203,AV),(199,AM)],[],61,[]⟩) mixed AN (CTok.cons I8 (CTok.cons R6 (CTok.cons G8 (CTok.cons EK (CTok.cons Di (CTok.nil _)))))) Tryz.func204 (λ _=>[]) ?_
 rintro ⟨r,s⟩ hpre
 have hpre:r.d≠0/\s.d≠0:=hpre
 refine AP (q:=let Z2:=cS (L s.d);let Z1:=cS (L r.d);∃ i1:Nat,[DA.one Z1]=BJ.args i1/\BJ.pre i1/\(ifB ((decide (i1=1))) (∃ i2:Nat,[DA.one Z2]=BJ.args i2/\BJ.pre i2/\(ifB ((decide (i2=1))) (∃ i3:Int×Int,[dB r.z,dB s.z]=CX.args i3/\CX.pre i3/\(∃ i4:Bool×Nat×Nat×Int,[DA.one (cB (decide ((i3.1+i3.2)<0))),DA.one (cS (L (i3.1+i3.2).natAbs)),DA.one (cS ([[Dat.int (1:Int)]]:List (List Dat)))]=Ax.args i4/\Ax.pre i4/\((eqC (D9 i4.2.2.2 i4.2.2.1) (Fr.add r s))))) (∃ i5:Nat×Nat,[DA.one (cS (L r.z.natAbs)),DA.one Z2]=AV.args i5/\AV.pre i5/\(∃ i6:Bool×Nat×Int,[DA.one (cB (decide (r.z<0))),DA.one (cS (L (i5.1*i5.2)))]=AM.args i6/\AM.pre i6/\(∃ i7:Nat×Nat,[DA.one (cS (L s.z.natAbs)),DA.one Z1]=AV.args i7/\AV.pre i7/\(∃ i8:Bool×Nat×Int,[DA.one (cB (decide (s.z<0))),DA.one (cS (L (i7.1*i7.2)))]=AM.args i8/\AM.pre i8/\(∃ i9:Int×Int,[dB i6.2.2,dB i8.2.2]=CX.args i9/\CX.pre i9/\(∃ i10:Nat×Nat,[DA.one Z1,DA.one Z2]=AV.args i10/\AV.pre i10/\(∃ i11:Bool×Nat×Nat×Int,[DA.one (cB (decide ((i9.1+i9.2)<0))),DA.one (cS (L (i9.1+i9.2).natAbs)),DA.one (cS (L (i10.1*i10.2)))]=Ax.args i11/\Ax.pre i11/\((eqC (D9 i11.2.2.2 i11.2.2.1) (Fr.add r s)))))))))))) (∃ i12:Nat×Nat,[DA.one (cS (L r.z.natAbs)),DA.one Z2]=AV.args i12/\AV.pre i12/\(∃ i13:Bool×Nat×Int,[DA.one (cB (decide (r.z<0))),DA.one (cS (L (i12.1*i12.2)))]=AM.args i13/\AM.pre i13/\(∃ i14:Nat×Nat,[DA.one (cS (L s.z.natAbs)),DA.one Z1]=AV.args i14/\AV.pre i14/\(∃ i15:Bool×Nat×Int,[DA.one (cB (decide (s.z<0))),DA.one (cS (L (i14.1*i14.2)))]=AM.args i15/\AM.pre i15/\(∃ i16:Int×Int,[dB i13.2.2,dB i15.2.2]=CX.args i16/\CX.pre i16/\(∃ i17:Nat×Nat,[DA.one Z1,DA.one Z2]=AV.args i17/\AV.pre i17/\(∃ i18:Bool×Nat×Nat×Int,[DA.one (cB (decide ((i16.1+i16.2)<0))),DA.one (cS (L (i16.1+i16.2).natAbs)),DA.one (cS (L (i17.1*i17.2)))]=Ax.args i18/\Ax.pre i18/\((eqC (D9 i18.2.2.2 i18.2.2.1) (Fr.add r s)))))))))))) (by kernel_rfl) ?_
 conv=>zeta
 delta ifB
 have h1:=r.nlz
 have h2:=r.nld
 have lr:=AK r.d
 have lz:=AK r.z.natAbs
 have h3:=s.nlz
 have h4:=s.nld
 have ls:=AK s.d
 have lw:=AK s.z.natAbs
 have m0:=Av r.z.natAbs s.d
 have m00:=Av s.z.natAbs r.d
 have m1:=BM r.z ((s.d:Nat):Int)
 have m2:=BM s.z ((r.d:Nat):Int)
 rw [DU] at m1 m2
 have m3:=Ed (r.z*((s.d:Nat):Int)) (s.z*((r.d:Nat):Int))
 have m4:=Av r.d s.d
 have m6:=Av r.d s.z.natAbs
 refine ⟨r.d,by
  rfl,by
  trivial,?_⟩
 refine And.symm ⟨λ c4=>?_,λ c4=>?_⟩
 ·try simp only [nrm] at c4
  have hE:=Qx hpre.1 hpre.2
  refine ⟨(r.z.natAbs,s.d),by
   rfl,by
   show nl r.z.natAbs<=524288/\nl s.d<=524288
   exact ⟨by omega,by omega⟩,?_⟩
  refine ⟨(decide (r.z<0),r.z.natAbs*s.d,r.z*((s.d:Nat):Int)),by
   rfl,by
   show nl (r.z.natAbs*s.d)<=60/\zOf (decide (r.z<0)) (r.z.natAbs*s.d)=(r.z*((s.d:Nat):Int))
   exact ⟨by omega,EL _ _⟩,?_⟩
  refine ⟨(s.z.natAbs,r.d),by
   rfl,by
   show nl s.z.natAbs<=524288/\nl r.d<=524288
   exact ⟨by omega,by omega⟩,?_⟩
  refine ⟨(decide (s.z<0),s.z.natAbs*r.d,s.z*((r.d:Nat):Int)),by
   rfl,by
   show nl (s.z.natAbs*r.d)<=60/\zOf (decide (s.z<0)) (s.z.natAbs*r.d)=(s.z*((r.d:Nat):Int))
   exact ⟨by omega,EL _ _⟩,?_⟩
  refine ⟨((r.z*((s.d:Nat):Int)),(s.z*((r.d:Nat):Int))),by
   rfl,by
   show nl (r.z*((s.d:Nat):Int)).natAbs<=59/\nl (s.z*((r.d:Nat):Int)).natAbs<=59
   exact ⟨by omega,by omega⟩,?_⟩
  refine ⟨(r.d,s.d),by
   rfl,by
   show nl r.d<=524288/\nl s.d<=524288
   exact ⟨by omega,by omega⟩,?_⟩
  refine ⟨(decide (r.z*((s.d:Nat):Int)+s.z*((r.d:Nat):Int)<0),(r.z*((s.d:Nat):Int)+s.z*((r.d:Nat):Int)).natAbs,r.d*s.d,r.z*((s.d:Nat):Int)+s.z*((r.d:Nat):Int)),by
   rfl,by
   try dsimp only [Ax]
   exact ⟨by omega,by omega,FP _⟩,?_⟩
  refine CE ?_
  rw [hE]
 try simp only [nrm] at c4
 refine ⟨s.d,by
  rfl,by
  trivial,?_⟩
 refine ⟨λ c8=>?_,λ c8=>?_⟩
 ·try simp only [nrm] at c8
  have hE:=T7 c4 c8
  refine ⟨(r.z,s.z),by
   rfl,by
   show nl r.z.natAbs<=59/\nl s.z.natAbs<=59
   exact ⟨by omega,by omega⟩,?_⟩
  refine ⟨(decide (r.z+s.z<0),(r.z+s.z).natAbs,1,r.z+s.z),by
   rw [Vi];rfl,by
   show nl ((r.z+s.z).natAbs)<=1000/\nl 1<=1000/\zOf (decide (r.z+s.z<0)) ((r.z+s.z).natAbs)=(r.z+s.z)
   have:=Ed r.z s.z
   exact ⟨by omega,by rw [NF];decide,FP _⟩,?_⟩
  refine CE ?_
  rw [hE]
 try simp only [nrm] at c8
 have hE:=Qx hpre.1 hpre.2
 refine ⟨(r.z.natAbs,s.d),by
  rfl,by
  show nl r.z.natAbs<=524288/\nl s.d<=524288
  exact ⟨by omega,by omega⟩,?_⟩
 refine ⟨(decide (r.z<0),r.z.natAbs*s.d,r.z*((s.d:Nat):Int)),by
  rfl,by
  show nl (r.z.natAbs*s.d)<=60/\zOf (decide (r.z<0)) (r.z.natAbs*s.d)=(r.z*((s.d:Nat):Int))
  exact ⟨by omega,EL _ _⟩,?_⟩
 refine ⟨(s.z.natAbs,r.d),by
  rfl,by
  show nl s.z.natAbs<=524288/\nl r.d<=524288
  exact ⟨by omega,by omega⟩,?_⟩
 refine ⟨(decide (s.z<0),s.z.natAbs*r.d,s.z*((r.d:Nat):Int)),by
  rfl,by
  show nl (s.z.natAbs*r.d)<=60/\zOf (decide (s.z<0)) (s.z.natAbs*r.d)=(s.z*((r.d:Nat):Int))
  exact ⟨by omega,EL _ _⟩,?_⟩
 refine ⟨((r.z*((s.d:Nat):Int)),(s.z*((r.d:Nat):Int))),by
  rfl,by
  show nl (r.z*((s.d:Nat):Int)).natAbs<=59/\nl (s.z*((r.d:Nat):Int)).natAbs<=59
  exact ⟨by omega,by omega⟩,?_⟩
 refine ⟨(r.d,s.d),by
  rfl,by
  show nl r.d<=524288/\nl s.d<=524288
  exact ⟨by omega,by omega⟩,?_⟩
 refine ⟨(decide (r.z*((s.d:Nat):Int)+s.z*((r.d:Nat):Int)<0),(r.z*((s.d:Nat):Int)+s.z*((r.d:Nat):Int)).natAbs,r.d*s.d,r.z*((s.d:Nat):Int)+s.z*((r.d:Nat):Int)),by
  rfl,by
  try dsimp only [Ax]
  exact ⟨by omega,by omega,FP _⟩,?_⟩
 refine CE ?_
 rw [hE]
def Fx:Con:={ ι:=Fr×Fr,pre:=λ i=>i.1.d≠0/\i.2.d≠0,args:=λ i=>[dF i.1,dF i.2],res:=λ i=>⟨false,[some 3],[rcB (decide ((Fr.mul i.1 i.2).z<0)),.own 3 [.int] (L (Fr.mul i.1 i.2).z.natAbs),.own 3 [.int] (L (Fr.mul i.1 i.2).d)]⟩ }
set_option maxHeartbeats 4000000 in
theorem R9:Fx.Ok Tryz.prog 258:=by
 refine fok (X:=⟨tt,[(203,AV),(202,Ax)],[],25,[]⟩) mixed AN (CTok.cons EK (CTok.cons G8 (CTok.nil _))) Tryz.func258 (λ _=>[]) ?_
 rintro ⟨r,s⟩ hpre
 have hpre:r.d≠0/\s.d≠0:=hpre
 refine AP (q:=∃ i1:Nat×Nat,[DA.one (cS (L r.z.natAbs)),DA.one (cS (L s.z.natAbs))]=AV.args i1/\AV.pre i1/\(∃ i2:Nat×Nat,[DA.one (cS (L r.d)),DA.one (cS (L s.d))]=AV.args i2/\AV.pre i2/\(∃ i3:Bool×Nat×Nat×Int,[DA.one (cB ((decide (r.z<0)) != (decide (s.z<0)))),DA.one (cS (L (i1.1*i1.2))),DA.one (cS (L (i2.1*i2.2)))]=Ax.args i3/\Ax.pre i3/\((eqC (D9 i3.2.2.2 i3.2.2.1) (Fr.mul r s)))))) (by kernel_rfl) ?_
 have h1:=r.nlz
 have h2:=r.nld
 have lr:=AK r.d
 have lz:=AK r.z.natAbs
 have h3:=s.nlz
 have h4:=s.nld
 have ls:=AK s.d
 have lw:=AK s.z.natAbs
 have m4:=Av r.d s.d
 have m5:=Av r.z.natAbs s.z.natAbs
 have hE:=U6 hpre.1 hpre.2
 refine ⟨(r.z.natAbs,s.z.natAbs),by
  rfl,by
  show nl r.z.natAbs<=524288/\nl s.z.natAbs<=524288
  exact ⟨by omega,by omega⟩,?_⟩
 refine ⟨(r.d,s.d),by
  rfl,by
  show nl r.d<=524288/\nl s.d<=524288
  exact ⟨by omega,by omega⟩,?_⟩
 refine ⟨((decide (r.z<0)) != (decide (s.z<0)),r.z.natAbs*s.z.natAbs,r.d*s.d,r.z*s.z),by
  rfl,by
  show nl (r.z.natAbs*s.z.natAbs)<=1000/\nl (r.d*s.d)<=1000/\zOf ((decide (r.z<0)) != (decide (s.z<0))) (r.z.natAbs*s.z.natAbs)=(r.z*s.z)
  exact ⟨by omega,by omega,J0 _ _⟩,?_⟩
 refine CE ?_
 rw [hE]
def Fy:Con:={ ι:=Fr×Fr,pre:=λ i=>i.1.d≠0/\i.2.d≠0,args:=λ i=>[dF i.1,dF i.2],res:=λ i=>⟨false,[none],[rcI (Fr.cmp i.1 i.2)]⟩ }
theorem SA:Fy.Ok Tryz.prog 147:=by
 refine fok (X:=⟨tt,[(203,AV),(199,AM),(211,Fu)],[],26,[]⟩) mixed AN (CTok.cons EK (CTok.cons Di (CTok.cons R7 (CTok.nil _)))) Tryz.func147 (λ _=>[]) ?_
 rintro ⟨r,s⟩ hpre
 have hpre:r.d≠0/\s.d≠0:=hpre
 refine AP (q:=∃ i1:Nat×Nat,[DA.one (cS (L r.z.natAbs)),DA.one (cS (L s.d))]=AV.args i1/\AV.pre i1/\(∃ i2:Bool×Nat×Int,[DA.one (cB (decide (r.z<0))),DA.one (cS (L (i1.1*i1.2)))]=AM.args i2/\AM.pre i2/\(∃ i3:Nat×Nat,[DA.one (cS (L s.z.natAbs)),DA.one (cS (L r.d))]=AV.args i3/\AV.pre i3/\(∃ i4:Bool×Nat×Int,[DA.one (cB (decide (s.z<0))),DA.one (cS (L (i3.1*i3.2)))]=AM.args i4/\AM.pre i4/\(∃ i5:Int×Int,[dB i2.2.2,dB i4.2.2]=Fu.args i5/\Fu.pre i5/\((vI (C6 i5.1 i5.2)=vI (Fr.cmp r s)))))))) (by kernel_rfl) ?_
 delta vI
 have h1:=r.nlz
 have h2:=r.nld
 have lr:=AK r.d
 have lz:=AK r.z.natAbs
 have h3:=s.nlz
 have h4:=s.nld
 have ls:=AK s.d
 have lw:=AK s.z.natAbs
 have m0:=Av r.z.natAbs s.d
 have m00:=Av s.z.natAbs r.d
 have m1:=BM r.z ((s.d:Nat):Int)
 have m2:=BM s.z ((r.d:Nat):Int)
 rw [DU] at m1 m2
 have m3:=Ed (r.z*((s.d:Nat):Int)) (s.z*((r.d:Nat):Int))
 have m4:=Av r.d s.d
 have m6:=Av r.d s.z.natAbs
 refine ⟨(r.z.natAbs,s.d),by
  rfl,by
  show nl r.z.natAbs<=524288/\nl s.d<=524288
  exact ⟨by omega,by omega⟩,?_⟩
 refine ⟨(decide (r.z<0),r.z.natAbs*s.d,r.z*((s.d:Nat):Int)),by
  rfl,by
  show nl (r.z.natAbs*s.d)<=60/\zOf (decide (r.z<0)) (r.z.natAbs*s.d)=(r.z*((s.d:Nat):Int))
  exact ⟨by omega,EL _ _⟩,?_⟩
 refine ⟨(s.z.natAbs,r.d),by
  rfl,by
  show nl s.z.natAbs<=524288/\nl r.d<=524288
  exact ⟨by omega,by omega⟩,?_⟩
 refine ⟨(decide (s.z<0),s.z.natAbs*r.d,s.z*((r.d:Nat):Int)),by
  rfl,by
  show nl (s.z.natAbs*r.d)<=60/\zOf (decide (s.z<0)) (s.z.natAbs*r.d)=(s.z*((r.d:Nat):Int))
  exact ⟨by omega,EL _ _⟩,?_⟩
 refine ⟨((r.z*((s.d:Nat):Int)),(s.z*((r.d:Nat):Int))),by
  rfl,by
  show nl (r.z*((s.d:Nat):Int)).natAbs<=59/\nl (s.z*((r.d:Nat):Int)).natAbs<=59
  exact ⟨by omega,by omega⟩,?_⟩
 rw [Fr.cmp_zd hpre.1 hpre.2]
def CZ:Con:={ ι:=Fr×Fr,pre:=λ i=>True,args:=λ i=>[dF i.1,dF i.2],res:=λ i=>⟨false,[some 3],[rcB (decide ((Fr.add i.1 i.2).z<0)),.own 3 [.int] (L (Fr.add i.1 i.2).z.natAbs),.own 3 [.int] (L (Fr.add i.1 i.2).d)]⟩ }
theorem LH:CZ.Ok Tryz.prog 145:=by
 refine fok (X:=⟨tt,[(146,AO),(204,DB)],[],17,[]⟩) mixed AN (CTok.cons EN (CTok.cons MR (CTok.nil _))) Tryz.func145 (λ _=>[]) ?_
 rintro ⟨r,s⟩ hpre
 have hpre:True:=hpre
 refine AP (q:=let Z1:=List (List Dat);∃ i1:Bool×Z1×Z1×Bool,[dF r]=AO.args i1/\AO.pre i1/\(ifB ((!(!i1.2.2.2))) (∃ i2:Bool×Z1×Z1×Bool,[dF s]=AO.args i2/\AO.pre i2/\(ifB ((!i2.2.2.2)) ((eqN (Fr.add r s))) (∃ i3:Fr×Fr,[dF r,dF s]=DB.args i3/\DB.pre i3/\((eqC (Fr.add i3.1 i3.2) (Fr.add r s)))))) ((eqN (Fr.add r s))))) (by kernel_rfl) ?_
 conv=>zeta
 delta ifB
 have h1:=r.nlz
 have h2:=r.nld
 have lr:=AK r.d
 have lz:=AK r.z.natAbs
 have h3:=s.nlz
 have h4:=s.nld
 have ls:=AK s.d
 have lw:=AK s.z.natAbs
 refine ⟨(decide (r.z<0),(L r.z.natAbs),(L r.d),r.good),by
  rfl,by
  try dsimp only [AO]
  exact ⟨BK _ (by omega),BK _ (by omega),by omega,by omega,BC _⟩,?_⟩
 refine And.symm ⟨λ c4=>?_,λ c4=>?_⟩
 ·try simp only [nrm] at c4
  have hE:Fr.add r s=Fr.none:=Fr.bin_bad _ (.inl (DZ c4))
  refine BE ?_
  rw [hE];done
 try simp only [nrm] at c4
 refine ⟨(decide (s.z<0),(L s.z.natAbs),(L s.d),s.good),by
  rfl,by
  try dsimp only [AO]
  exact ⟨BK _ (by omega),BK _ (by omega),by omega,by omega,BC _⟩,?_⟩
 refine ⟨λ c8=>?_,λ c8=>?_⟩
 ·try simp only [nrm] at c8
  have hE:Fr.add r s=Fr.none:=Fr.bin_bad _ (.inr (DZ c8))
  refine BE ?_
  rw [hE];done
 try simp only [nrm] at c8
 refine ⟨(r,s),by
  rfl,by
  exact ⟨Bk c4,Bk c8⟩,?_⟩
 exact CE rfl
def Bs:Con:={ ι:=Fr×Fr,pre:=λ i=>True,args:=λ i=>[dF i.1,dF i.2],res:=λ i=>⟨false,[some 3],[rcB (decide ((Fr.sub i.1 i.2).z<0)),.own 3 [.int] (L (Fr.sub i.1 i.2).z.natAbs),.own 3 [.int] (L (Fr.sub i.1 i.2).d)]⟩ }
theorem LI:Bs.Ok Tryz.prog 142:=by
 refine fok (X:=⟨tt,[(146,AO),(205,Fw),(204,DB)],[],18,[]⟩) mixed AN (CTok.cons EN (CTok.cons R8 (CTok.cons MR (CTok.nil _)))) Tryz.func142 (λ _=>[]) ?_
 rintro ⟨r,s⟩ hpre
 have hpre:True:=hpre
 refine AP (q:=let Z1:=List (List Dat);∃ i1:Bool×Z1×Z1×Bool,[dF r]=AO.args i1/\AO.pre i1/\(ifB ((!(!i1.2.2.2))) (∃ i2:Bool×Z1×Z1×Bool,[dF s]=AO.args i2/\AO.pre i2/\(ifB ((!i2.2.2.2)) ((eqN (Fr.sub r s))) (∃ i3:Fr,[dF s]=Fw.args i3/\Fw.pre i3/\(∃ i4:Fr×Fr,[dF r,dF i3.opp]=DB.args i4/\DB.pre i4/\((eqC (Fr.add i4.1 i4.2) (Fr.sub r s))))))) ((eqN (Fr.sub r s))))) (by kernel_rfl) ?_
 conv=>zeta
 delta ifB
 have h1:=r.nlz
 have h2:=r.nld
 have lr:=AK r.d
 have lz:=AK r.z.natAbs
 have h3:=s.nlz
 have h4:=s.nld
 have ls:=AK s.d
 have lw:=AK s.z.natAbs
 refine ⟨(decide (r.z<0),(L r.z.natAbs),(L r.d),r.good),by
  rfl,by
  try dsimp only [AO]
  exact ⟨BK _ (by omega),BK _ (by omega),by omega,by omega,BC _⟩,?_⟩
 refine And.symm ⟨λ c4=>?_,λ c4=>?_⟩
 ·try simp only [nrm] at c4
  have hE:Fr.sub r s=Fr.none:=Fr.bin_bad _ (.inl (DZ c4))
  refine BE ?_
  rw [hE];done
 try simp only [nrm] at c4
 refine ⟨(decide (s.z<0),(L s.z.natAbs),(L s.d),s.good),by
  rfl,by
  try dsimp only [AO]
  exact ⟨BK _ (by omega),BK _ (by omega),by omega,by omega,BC _⟩,?_⟩
 refine ⟨λ c8=>?_,λ c8=>?_⟩
 ·try simp only [nrm] at c8
  have hE:Fr.sub r s=Fr.none:=Fr.bin_bad _ (.inr (DZ c8))
  refine BE ?_
  rw [hE];done
 try simp only [nrm] at c8
 have hE:=T6 r s
 refine ⟨s,by
  rfl,by
  trivial,?_⟩
 refine ⟨(r,s.opp),by
  rfl,by
  exact ⟨Bk c4,by rw [Fr.opp_d];exact Bk c8⟩,?_⟩
 refine CE ?_
 rw [hE];done
def Em:Con:={ ι:=Fr×Fr,pre:=λ i=>True,args:=λ i=>[dF i.1,dF i.2],res:=λ i=>⟨false,[some 3],[rcB (decide ((Fr.mul i.1 i.2).z<0)),.own 3 [.int] (L (Fr.mul i.1 i.2).z.natAbs),.own 3 [.int] (L (Fr.mul i.1 i.2).d)]⟩ }
theorem Pv:Em.Ok Tryz.prog 206:=by
 refine fok (X:=⟨tt,[(146,AO),(258,Fx)],[],17,[]⟩) mixed AN (CTok.cons EN (CTok.cons R9 (CTok.nil _))) Tryz.func206 (λ _=>[]) ?_
 rintro ⟨r,s⟩ hpre
 have hpre:True:=hpre
 refine AP (q:=let Z1:=List (List Dat);∃ i1:Bool×Z1×Z1×Bool,[dF r]=AO.args i1/\AO.pre i1/\(ifB ((!(!i1.2.2.2))) (∃ i2:Bool×Z1×Z1×Bool,[dF s]=AO.args i2/\AO.pre i2/\(ifB ((!i2.2.2.2)) ((eqN (Fr.mul r s))) (∃ i3:Fr×Fr,[dF r,dF s]=Fx.args i3/\Fx.pre i3/\((eqC (Fr.mul i3.1 i3.2) (Fr.mul r s)))))) ((eqN (Fr.mul r s))))) (by kernel_rfl) ?_
 conv=>zeta
 delta ifB
 have h1:=r.nlz
 have h2:=r.nld
 have lr:=AK r.d
 have lz:=AK r.z.natAbs
 have h3:=s.nlz
 have h4:=s.nld
 have ls:=AK s.d
 have lw:=AK s.z.natAbs
 refine ⟨(decide (r.z<0),(L r.z.natAbs),(L r.d),r.good),by
  rfl,by
  try dsimp only [AO]
  exact ⟨BK _ (by omega),BK _ (by omega),by omega,by omega,BC _⟩,?_⟩
 refine And.symm ⟨λ c4=>?_,λ c4=>?_⟩
 ·try simp only [nrm] at c4
  have hE:Fr.mul r s=Fr.none:=Fr.bin_bad _ (.inl (DZ c4))
  refine BE ?_
  rw [hE];done
 try simp only [nrm] at c4
 refine ⟨(decide (s.z<0),(L s.z.natAbs),(L s.d),s.good),by
  rfl,by
  try dsimp only [AO]
  exact ⟨BK _ (by omega),BK _ (by omega),by omega,by omega,BC _⟩,?_⟩
 refine ⟨λ c8=>?_,λ c8=>?_⟩
 ·try simp only [nrm] at c8
  have hE:Fr.mul r s=Fr.none:=Fr.bin_bad _ (.inr (DZ c8))
  refine BE ?_
  rw [hE];done
 try simp only [nrm] at c8
 refine ⟨(r,s),by
  rfl,by
  exact ⟨Bk c4,Bk c8⟩,?_⟩
 exact CE rfl
def Eo:Con:={ ι:=Fr×Fr,pre:=λ i=>True,args:=λ i=>[dF i.1,dF i.2],res:=λ i=>⟨false,[some 3],[rcB (decide ((Fr.div i.1 i.2).z<0)),.own 3 [.int] (L (Fr.div i.1 i.2).z.natAbs),.own 3 [.int] (L (Fr.div i.1 i.2).d)]⟩ }
theorem Pw:Eo.Ok Tryz.prog 141:=by
 refine fok (X:=⟨tt,[(146,AO),(203,AV),(202,Ax)],[],34,[]⟩) mixed AN (CTok.cons EN (CTok.cons EK (CTok.cons G8 (CTok.nil _)))) Tryz.func141 (λ _=>[]) ?_
 rintro ⟨r,s⟩ hpre
 have hpre:True:=hpre
 refine AP (q:=let Z1:=List (List Dat);∃ i1:Bool×Z1×Z1×Bool,[dF r]=AO.args i1/\AO.pre i1/\(ifB ((!(!i1.2.2.2))) (∃ i2:Bool×Z1×Z1×Bool,[dF s]=AO.args i2/\AO.pre i2/\(ifB ((!i2.2.2.2)) ((eqN (Fr.div r s))) (∃ i3:Nat×Nat,[DA.one (cS (L r.z.natAbs)),DA.one (cS (L s.d))]=AV.args i3/\AV.pre i3/\(∃ i4:Nat×Nat,[DA.one (cS (L r.d)),DA.one (cS (L s.z.natAbs))]=AV.args i4/\AV.pre i4/\(∃ i5:Bool×Nat×Nat×Int,[DA.one (cB ((decide (r.z<0)) != (decide (s.z<0)))),DA.one (cS (L (i3.1*i3.2))),DA.one (cS (L (i4.1*i4.2)))]=Ax.args i5/\Ax.pre i5/\((eqC (D9 i5.2.2.2 i5.2.2.1) (Fr.div r s)))))))) ((eqN (Fr.div r s))))) (by kernel_rfl) ?_
 conv=>zeta
 delta ifB
 have h1:=r.nlz
 have h2:=r.nld
 have lr:=AK r.d
 have lz:=AK r.z.natAbs
 have h3:=s.nlz
 have h4:=s.nld
 have ls:=AK s.d
 have lw:=AK s.z.natAbs
 refine ⟨(decide (r.z<0),(L r.z.natAbs),(L r.d),r.good),by
  rfl,by
  try dsimp only [AO]
  exact ⟨BK _ (by omega),BK _ (by omega),by omega,by omega,BC _⟩,?_⟩
 refine And.symm ⟨λ c4=>?_,λ c4=>?_⟩
 ·try simp only [nrm] at c4
  have hE:Fr.div r s=Fr.none:=Fr.bin_bad _ (.inl (DZ c4))
  refine BE ?_
  rw [hE];done
 try simp only [nrm] at c4
 refine ⟨(decide (s.z<0),(L s.z.natAbs),(L s.d),s.good),by
  rfl,by
  try dsimp only [AO]
  exact ⟨BK _ (by omega),BK _ (by omega),by omega,by omega,BC _⟩,?_⟩
 refine ⟨λ c8=>?_,λ c8=>?_⟩
 ·try simp only [nrm] at c8
  have hE:Fr.div r s=Fr.none:=Fr.bin_bad _ (.inr (DZ c8))
  refine BE ?_
  rw [hE];done
 try simp only [nrm] at c8
 have m0:=Av r.z.natAbs s.d
 have m00:=Av s.z.natAbs r.d
 have m1:=BM r.z ((s.d:Nat):Int)
 have m2:=BM s.z ((r.d:Nat):Int)
 rw [DU] at m1 m2
 have m3:=Ed (r.z*((s.d:Nat):Int)) (s.z*((r.d:Nat):Int))
 have m4:=Av r.d s.d
 have m6:=Av r.d s.z.natAbs
 have hE:=U7 (Bk c4) (Bk c8)
 refine ⟨(r.z.natAbs,s.d),by
  rfl,by
  show nl r.z.natAbs<=524288/\nl s.d<=524288
  exact ⟨by omega,by omega⟩,?_⟩
 refine ⟨(r.d,s.z.natAbs),by
  rfl,by
  show nl r.d<=524288/\nl s.z.natAbs<=524288
  exact ⟨by omega,by omega⟩,?_⟩
 refine ⟨(((decide (r.z<0)) != (decide (s.z<0))),(r.z.natAbs*s.d),(r.d*s.z.natAbs),(zOf ((decide (r.z<0)) != (decide (s.z<0))) (r.z.natAbs*s.d))),by
  rfl,by
  try dsimp only [Ax]
  exact ⟨by omega,by omega,rfl⟩,?_⟩
 refine CE ?_
 rw [hE];done
def Am:Con:={ ι:=Fr×Fr,pre:=λ i=>True,args:=λ i=>[dF i.1,dF i.2],res:=λ i=>⟨false,[none],[rcI (Fr.cmp i.1 i.2)]⟩ }
theorem Fz:Am.Ok Tryz.prog 94:=by
 refine fok (X:=⟨tt,[(146,AO),(147,Fy)],[],16,[]⟩) mixed AN (CTok.cons EN (CTok.cons SA (CTok.nil _))) Tryz.func94 (λ _=>[]) ?_
 rintro ⟨r,s⟩ hpre
 have hpre:True:=hpre
 refine AP (q:=let Z2:=(vI (0:Int)=vI (Fr.cmp r s));let Z1:=List (List Dat);∃ i1:Bool×Z1×Z1×Bool,[dF r]=AO.args i1/\AO.pre i1/\(ifB ((!(!i1.2.2.2))) (∃ i2:Bool×Z1×Z1×Bool,[dF s]=AO.args i2/\AO.pre i2/\(ifB ((!i2.2.2.2)) Z2 (∃ i3:Fr×Fr,[dF r,dF s]=Fy.args i3/\Fy.pre i3/\((vI (Fr.cmp i3.1 i3.2)=vI (Fr.cmp r s)))))) Z2)) (by kernel_rfl) ?_
 conv=>zeta
 delta ifB vI
 have h1:=r.nlz
 have h2:=r.nld
 have lr:=AK r.d
 have lz:=AK r.z.natAbs
 have h3:=s.nlz
 have h4:=s.nld
 have ls:=AK s.d
 have lw:=AK s.z.natAbs
 refine ⟨(decide (r.z<0),(L r.z.natAbs),(L r.d),r.good),by
  rfl,by
  try dsimp only [AO]
  exact ⟨BK _ (by omega),BK _ (by omega),by omega,by omega,BC _⟩,?_⟩
 refine And.symm ⟨λ c4=>?_,λ c4=>?_⟩
 ·try simp only [nrm] at c4
  have hE:Fr.cmp r s=0:=Fr.cmp_bad (.inl (DZ c4))
  rw [hE]
 try simp only [nrm] at c4
 refine ⟨(decide (s.z<0),(L s.z.natAbs),(L s.d),s.good),by
  rfl,by
  try dsimp only [AO]
  exact ⟨BK _ (by omega),BK _ (by omega),by omega,by omega,BC _⟩,?_⟩
 refine ⟨λ c8=>?_,λ c8=>?_⟩
 ·try simp only [nrm] at c8
  have hE:Fr.cmp r s=0:=Fr.cmp_bad (.inr (DZ c8))
  rw [hE]
 try simp only [nrm] at c8
 refine ⟨(r,s),by
  rfl,by
  exact ⟨Bk c4,Bk c8⟩,?_⟩
 exact rfl
end Go.Proofs.YtmedodfenejimaaGreat
