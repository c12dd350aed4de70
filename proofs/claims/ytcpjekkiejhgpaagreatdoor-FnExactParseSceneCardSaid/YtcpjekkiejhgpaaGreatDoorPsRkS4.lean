import Derived.Test.YtcpjekkiejhgpaaGreatDoorPsRkS3
namespace Go.Proofs.YtcpjekkiejhgpaaGreatDoor
set_option maxRecDepth 100000
set_option linter.unusedVariables false
set_option linter.unusedSimpArgs false
open Go.RowKit
theorem Lo {s:ByteArray} {k:Nat} (hk:k<s.size):(s.data.toList.take (k+1)).all Dx=((s.data.toList.take k).all Dx && Dx (s.get! k)):=by
 have hk' : k<s.data.toList.length:=hk
 rw [List.take_succ_eq_append_getElem hk',List.all_append,DZ _ _ hk,List.getD_eq_getElem?_getD,List.getElem?_eq_getElem hk']
 simp
theorem NQ {s:ByteArray} {k:Nat} (hk:k<s.size) (h:Dx (s.get! k)=false):BX s=false:=by
 have e:s.data.toList.all Dx=false:=by
  rw [← List.take_append_drop (k+1) s.data.toList,List.all_append,Lo hk,h];simp
 unfold BX;rw [e];simp
theorem PV {s:ByteArray} (h:(s.data.toList.take s.size).all Dx=true):BX s=decide (0<s.size):=by
 rw [List.take_of_length_le (show s.data.toList.length<=s.size from Nat.le_refl _)] at h
 unfold BX;rw [h];simp
theorem NR {c:UInt8} (h:(c.toNat:Int)<48∨57<(c.toNat:Int)):Dx c=false:=by
 unfold Dx
 rw [Bool.and_eq_false_iff,decide_eq_false_iff_not,decide_eq_false_iff_not];omega
theorem PW {c:UInt8} (h:¬((c.toNat:Int)<48∨57<(c.toNat:Int))):Dx c=true:=by
 unfold Dx
 rw [Bool.and_eq_true,decide_eq_true_eq,decide_eq_true_eq];omega
def CV:Con:={ ι:=ByteArray,pre:=λ i=>i.size<=1073741824,args:=λ i=>[.one (.im (.string i))],res:=λ i=>⟨false,[none],[rcB (BX i)]⟩ }
theorem QE:CV.Ok Tryz.prog 60:=by
 refine fok (X:=⟨tt,[],[],23,[]⟩) mixed BG (CTok.nil _) Tryz.func60 (λ (i:ByteArray)=>[(2,.mk 1 (Nat) (λ x1=>{ tm:=[(0,.one (.one (.im (Value.string i)))),(3,tI (x1:Int))],en:=[] }) (λ x1=>x1<=i.size/\(i.data.toList.take x1).all Dx=true) (λ x1=>i.size-x1) (λ _=>[]))]) ?_
 intro (s:ByteArray) hpre
 have hpre:s.size<=1073741824:=hpre
 refine BF (q:=let Z1:=(vB false=vB (BX s));(∃ x1:Nat,(x1<=s.size/\(s.data.toList.take x1).all Dx=true)/\((rf (Value.string s))/\(vI (0:Int)=vI (x1:Int))))/\∀ x1:Nat,let Z2:=((s.get! x1).toNat:Int);(x1<=s.size/\(s.data.toList.take x1).all Dx=true)->(ifB ((decide ((x1:Int)<(nI s.size)))) ((0<=(x1:Int)/\(x1:Int)<(s.size:Int))/\(ifB ((!(decide (Z2<(48:Int))))) ((0<=(x1:Int)/\(x1:Int)<(s.size:Int))/\(ifB ((decide (Z2>(57:Int)))) Z1 (∃ y2:Nat,(y2<=s.size/\(s.data.toList.take y2).all Dx=true)/\(s.size-y2<s.size-x1)/\((rf (Value.string s))/\(vI (wR ((x1:Int)+(1:Int)))=vI (y2:Int)))))) Z1)) ((vB (decide ((nI s.size)>(0:Int)))=vB (BX s))))) (by kernel_rfl) ?_
 conv=>zeta
 delta ifB vB vI wR nI
 refine ⟨⟨0,by
  exact ⟨Nat.zero_le _,rfl⟩,?_⟩,?_⟩
 ·exact ⟨rfl,rfl⟩
 intro (k:Nat) hki1
 have hki1:k<=s.size/\(s.data.toList.take k).all Dx=true:=hki1
 refine And.symm ⟨λ c5=>?_,λ c5=>?_⟩
 ·try simp only [nrm] at c5
  have he:=PV (s:=s) (by rw [show s.size=k by omega];exact hki1.2)
  rw [he];congr 1;rw [decide_eq_decide];omega
 try simp only [nrm] at c5
 refine ao (by first|rfl|omega|(simp;done)|(simp;omega)) λ o6=>?_
 refine And.symm ⟨λ c7=>?_,λ c7=>?_⟩
 ·try simp only [nrm] at c7
  have hno:=NQ (s:=s) (k:=k) (by omega) (NR (.inl (by omega)))
  rw [hno]
 try simp only [nrm] at c7
 refine ao (by first|rfl|omega|(simp;done)|(simp;omega)) λ o8=>?_
 refine ⟨λ c9=>?_,λ c9=>?_⟩
 ·try simp only [nrm] at c9
  have hno:=NQ (s:=s) (k:=k) (by omega) (NR (.inr (by omega)))
  rw [hno]
 try simp only [nrm] at c9
 refine ⟨k+1,by
  exact ⟨by omega,by rw [Lo (by omega),hki1.2,PW (by omega)];rfl⟩,by
  first|omega|(simp;omega),?_⟩
 refine ⟨rfl,?_⟩
 exact AP (AG (by omega) (by omega))
theorem QF {t:ByteArray} {k:Nat} : dvF 0 (t.data.toList.take k)<=dvF 0 t.data.toList:=by
 conv=>rhs;rw [← List.take_append_drop k t.data.toList]
 have:∀ (a b:List UInt8),dvF 0 (a++b)=dvF (dvF 0 a) b:=λ a b=>by unfold dvF;rw [List.foldl_append]
 rw [this]
 exact Mh _ _
theorem Re {s:ByteArray} (h:(s.size:Int)<=0):AU s=false/\tOf (AU s) s=s:=by
 have e:AU s=false:=by unfold AU;rw [decide_eq_false (by omega)];rfl
 rw [e];exact ⟨rfl,rfl⟩
theorem Rf {s:ByteArray} (h:¬ ((s.get! 0).toNat:Int)=45):AU s=false/\tOf (AU s) s=s:=by
 have e:AU s=false:=by
  unfold AU
  rw [show (s.get! 0 == 45)=false from by rw [beq_eq_false_iff_ne];intro e;rw [e] at h;exact h rfl]
  simp
 rw [e];exact ⟨rfl,rfl⟩
theorem Rg {s:ByteArray} (h0:0<(s.size:Int)) (h:((s.get! 0).toNat:Int)=45):AU s=true/\tOf (AU s) s=s.extract 1 s.size:=by
 have e:AU s=true:=by
  unfold AU
  rw [decide_eq_true (by omega),show s.get! 0=45 from by rw [← UInt8.toNat_inj];show _=45;omega]
  rfl
 rw [e];exact ⟨rfl,rfl⟩
theorem PX {t:ByteArray} {k:Nat} (hd:BX t=true) (hk:k<t.size):∃ d:Nat,d<=9/\IntKind.i64.wrap ((IntKind.i64.wrap ((t.get! k).toNat:Int))-48)=(d:Int)/\dvF 0 (t.data.toList.take (k+1))=dvF 0 (t.data.toList.take k)*10+d:=by
 have h:=QD hd hk
 refine ⟨(t.get! k).toNat-48,by omega,?_,QC hk⟩
 rw [AG (x:=((t.get! k).toNat:Int)) (by omega) (by omega),AG (by omega) (by omega)];omega
theorem NS {d:Nat} (h:d<=9):IntKind.i64.wrap (Int.tdiv (IntKind.i64.wrap ((-9223372036854775808:Int)+d)) 10)=-(((9223372036854775808-d)/10:Nat):Int):=by
 rw [AG (x:=(-9223372036854775808:Int)+d) (by omega) (by omega)]
 have e:Int.tdiv ((-9223372036854775808:Int)+d) 10=-(((9223372036854775808-d)/10:Nat):Int):=by
  rw [Fe (by omega),show ((-9223372036854775808:Int)+d).natAbs=9223372036854775808-d by omega]
 rw [e,AG (by omega) (by omega)]
theorem Mk {s:ByteArray} {k:Nat} (hd:BX (tOf (AU s) s)=true) (hk:k<(tOf (AU s) s).size)
  (h:-((dvF 0 ((tOf (AU s) s).data.toList.take k):Nat):Int)<IntKind.i64.wrap (Int.tdiv (IntKind.i64.wrap ((-9223372036854775808:Int)+(IntKind.i64.wrap ((IntKind.i64.wrap (((tOf (AU s) s).get! k).toNat:Int))-48)))) 10)):Ac s=none:=by
 obtain ⟨d,h1,h2,h3⟩:=PX hd hk
 rw [h2,NS h1] at h
 refine CU (.inr (.inr (.inl ?_)))
 have:=QF (t:=tOf (AU s) s) (k:=k+1)
 omega
theorem PY {t:ByteArray} {k:Nat} (hd:BX t=true) (hk:k<t.size)
  (h:IntKind.i64.wrap (Int.tdiv (IntKind.i64.wrap ((-9223372036854775808:Int)+(IntKind.i64.wrap ((IntKind.i64.wrap ((t.get! k).toNat:Int))-48)))) 10)<=-((dvF 0 (t.data.toList.take k):Nat):Int)) :
  dvF 0 (t.data.toList.take (k+1))<=9223372036854775808/\IntKind.i64.wrap ((IntKind.i64.wrap ((-((dvF 0 (t.data.toList.take k):Nat):Int))*10))-(IntKind.i64.wrap ((IntKind.i64.wrap ((t.get! k).toNat:Int))-48)))=-((dvF 0 (t.data.toList.take (k+1)):Nat):Int):=by
 obtain ⟨d,h1,h2,h3⟩:=PX hd hk
 rw [h2,NS h1] at h
 refine ⟨by omega,?_⟩
 rw [h2,AG (x:=-((dvF 0 (t.data.toList.take k):Nat):Int)*10) (by omega) (by omega),AG (by omega) (by omega)];omega
theorem KM {s:ByteArray} {k:Nat} (hn:AU s=true) (hk:¬ k<(tOf (AU s) s).size) (hb:dvF 0 ((tOf (AU s) s).data.toList.take k)<=9223372036854775808) :
  nOf s=-((dvF 0 ((tOf (AU s) s).data.toList.take k):Nat):Int)/\JA (nOf s):=by
 have e:(tOf (AU s) s).data.toList.take k=(tOf (AU s) s).data.toList:=List.take_of_length_le (by show (tOf (AU s) s).size<=k;omega)
 rw [e] at hb ⊢
 have e2:nOf s=-((dvF 0 (tOf (AU s) s).data.toList:Nat):Int):=if_pos hn
 refine ⟨e2,?_⟩
 rw [e2];unfold JA;omega
theorem KN {s:ByteArray} {k:Nat} (hn:AU s=false) (hk:¬ k<(tOf (AU s) s).size) (hb:dvF 0 ((tOf (AU s) s).data.toList.take k)<=9223372036854775808) :
  (-((dvF 0 ((tOf (AU s) s).data.toList.take k):Nat):Int)=-9223372036854775808->Ac s=none)/\(¬ -((dvF 0 ((tOf (AU s) s).data.toList.take k):Nat):Int)=-9223372036854775808 ->
  IntKind.i64.wrap (0-(-((dvF 0 ((tOf (AU s) s).data.toList.take k):Nat):Int)))=nOf s/\JA (nOf s)):=by
 have e:(tOf (AU s) s).data.toList.take k=(tOf (AU s) s).data.toList:=List.take_of_length_le (by show (tOf (AU s) s).size<=k;omega)
 rw [e] at hb ⊢
 have e2:nOf s=((dvF 0 (tOf (AU s) s).data.toList:Nat):Int):=if_neg (by rw [hn];simp)
 refine ⟨λ h=>CU (.inr (.inr (.inr ⟨hn,by omega⟩))),λ h=>?_⟩
 rw [e2,AG (by omega) (by omega)]
 unfold JA;omega
theorem BO {a b:ByteArray} (h:¬ a.toList=b.toList):a≠b:=λ e=>h (by rw [e])
theorem CB {a b:ByteArray} (h:a.toList=b.toList):a=b:=by
 rw [ByteArray.toList_eq,ByteArray.toList_eq] at h;exact bx h
def Cj:Con:={ ι:=ByteArray,pre:=λ i=>i.size<=1073741824,args:=λ i=>[.one (.im (.string i))],res:=λ i=>⟨true,[none,none],[rcI ((Ac i).getD 0),rcB ((Ac i).isSome)]⟩ }
set_option maxHeartbeats 1600000 in
theorem PZ:Cj.Ok Tryz.prog 42:=by
 refine fok (X:=⟨tt,[(60,CV),(47,AZ)],[],60,[]⟩) mixed BG (CTok.cons QE (CTok.cons IR (CTok.nil _))) Tryz.func42 (λ (i:ByteArray)=>let Z1:=tOf (AU i) i;[(9,.mk 1 (Nat) (λ x1=>{ tm:=[(0,.one (.one (.im (Value.string i)))),(4,tB (AU i)),(5,.one (.one (.im (Value.string Z1)))),(6,tI (-(nI (dvF 0 (Z1.data.toList.take x1))))),(7,tI (x1:Int))],en:=[] }) (λ x1=>x1<=Z1.size/\dvF 0 (Z1.data.toList.take x1)<=9223372036854775808) (λ x1=>Z1.size-x1) (λ _=>[]))]) ?_
 intro (s:ByteArray) hpre
 have hpre:s.size<=1073741824:=hpre
 refine BF (q:=let Z28:=(!(AU s));let Z27:=vB (AU s);let Z17:=(10:Int)≠0;let Z15:=(s.size:Int);let Z14:=s.extract 1 s.size;let Z13:=(decide ((nI s.size)>(19:Int)));let Z9:=((s.get! 0).toNat:Int) == (45:Int);let Z8:=(Ac s).getD 0;let Z7:=Value.string s;let Z6:=vB true=vB ((Ac s).isSome);let Z2:=tOf (AU s) s;let Z25:=nI (Z2.size);let Z24:=(Z2.size:Int);let Z18:=Value.string Z2;let Z16:=Value.string s=Value.string Z2;let Z1:=(vI (0:Int)=vI Z8)/\(vB false=vB ((Ac s).isSome));ifB ((decide ((nI s.size)>(0:Int)))) ((0<=(0:Int)/\(0:Int)<Z15)/\(ifB (Z9) ((0<=(1:Int))/\(((1:Int)<=Z15)/\((Z15<=Z15)/\(∃ i1:ByteArray,[DA.one (DC.im (Value.string Z14))]=CV.args i1/\CV.pre i1/\(ifB ((!(!(BX i1)))) (ifB ((decide ((nI (Z14.size))>(19:Int)))) Z1 ((∃ x1:Nat,let Z19:=Z2.data.toList.take x1;(x1<=Z2.size/\dvF 0 Z19<=9223372036854775808)/\((rf Z7)/\(vB Z9=vB (AU s))/\(Value.string Z14=Value.string Z2)/\(vI (0:Int)=vI (-(nI (dvF 0 Z19))))/\(vI (0:Int)=vI (x1:Int))))/\∀ x1:Nat,let Z20:=Z2.data.toList.take x1;let Z10:=wR ((wR ((Z2.get! x1).toNat:Int))-(48:Int));let Z3:=-(nI (dvF 0 Z20));(x1<=Z2.size/\dvF 0 Z20<=9223372036854775808)->(ifB ((decide ((x1:Int)<Z25))) ((0<=(x1:Int)/\(x1:Int)<Z24)/\(Z17/\(ifB ((decide (Z3<(wR (Int.tdiv (wR ((-9223372036854775808:Int)+Z10)) (10:Int)))))) Z1 (∃ y2:Nat,let Z26:=Z2.data.toList.take y2;(y2<=Z2.size/\dvF 0 Z26<=9223372036854775808)/\(Z2.size-y2<Z2.size-x1)/\((rf Z7)/\(rf Z27)/\(rf Z18)/\(vI (wR ((wR (Z3*(10:Int)))-Z10))=vI (-(nI (dvF 0 Z26))))/\(vI (wR ((x1:Int)+(1:Int)))=vI (y2:Int))))))) (ifB Z28 (ifB ((Z3 == (-9223372036854775808:Int))) Z1 (∃ i2:Int,[DA.one (cI (wR (0-Z3)))]=AZ.args i2/\AZ.pre i2/\(ifB ((!((AY i2).toList == s.toList))) Z1 ((vI (wR (0-Z3))=vI Z8)/\Z6)))) (∃ i3:Int,[DA.one (cI Z3)]=AZ.args i3/\AZ.pre i3/\(ifB ((!((AY i3).toList == s.toList))) Z1 ((vI Z3=vI Z8)/\Z6))))))) Z1))))) (∃ i4:ByteArray,[DA.one (DC.im Z7)]=CV.args i4/\CV.pre i4/\(ifB ((!(!(BX i4)))) (ifB Z13 Z1 ((∃ x1:Nat,let Z21:=Z2.data.toList.take x1;(x1<=Z2.size/\dvF 0 Z21<=9223372036854775808)/\((rf Z7)/\(vB Z9=vB (AU s))/\Z16/\(vI (0:Int)=vI (-(nI (dvF 0 Z21))))/\(vI (0:Int)=vI (x1:Int))))/\∀ x1:Nat,let Z22:=Z2.data.toList.take x1;let Z11:=wR ((wR ((Z2.get! x1).toNat:Int))-(48:Int));let Z4:=-(nI (dvF 0 Z22));(x1<=Z2.size/\dvF 0 Z22<=9223372036854775808)->(ifB ((decide ((x1:Int)<Z25))) ((0<=(x1:Int)/\(x1:Int)<Z24)/\(Z17/\(ifB ((decide (Z4<(wR (Int.tdiv (wR ((-9223372036854775808:Int)+Z11)) (10:Int)))))) Z1 (∃ y4:Nat,let Z29:=Z2.data.toList.take y4;(y4<=Z2.size/\dvF 0 Z29<=9223372036854775808)/\(Z2.size-y4<Z2.size-x1)/\((rf Z7)/\(rf Z27)/\(rf Z18)/\(vI (wR ((wR (Z4*(10:Int)))-Z11))=vI (-(nI (dvF 0 Z29))))/\(vI (wR ((x1:Int)+(1:Int)))=vI (y4:Int))))))) (ifB Z28 (ifB ((Z4 == (-9223372036854775808:Int))) Z1 (∃ i5:Int,[DA.one (cI (wR (0-Z4)))]=AZ.args i5/\AZ.pre i5/\(ifB ((!((AY i5).toList == s.toList))) Z1 ((vI (wR (0-Z4))=vI Z8)/\Z6)))) (∃ i6:Int,[DA.one (cI Z4)]=AZ.args i6/\AZ.pre i6/\(ifB ((!((AY i6).toList == s.toList))) Z1 ((vI Z4=vI Z8)/\Z6))))))) Z1)))) (∃ i7:ByteArray,[DA.one (DC.im Z7)]=CV.args i7/\CV.pre i7/\(ifB ((!(!(BX i7)))) (ifB Z13 Z1 ((∃ x1:Nat,let Z23:=Z2.data.toList.take x1;(x1<=Z2.size/\dvF 0 Z23<=9223372036854775808)/\((rf Z7)/\(vB false=vB (AU s))/\Z16/\(vI (0:Int)=vI (-(nI (dvF 0 Z23))))/\(vI (0:Int)=vI (x1:Int))))/\∀ x1:Nat,let Z30:=Z2.data.toList.take x1;let Z12:=wR ((wR ((Z2.get! x1).toNat:Int))-(48:Int));let Z5:=-(nI (dvF 0 Z30));(x1<=Z2.size/\dvF 0 Z30<=9223372036854775808)->(ifB ((decide ((x1:Int)<Z25))) ((0<=(x1:Int)/\(x1:Int)<Z24)/\(Z17/\(ifB ((decide (Z5<(wR (Int.tdiv (wR ((-9223372036854775808:Int)+Z12)) (10:Int)))))) Z1 (∃ y6:Nat,let Z31:=Z2.data.toList.take y6;(y6<=Z2.size/\dvF 0 Z31<=9223372036854775808)/\(Z2.size-y6<Z2.size-x1)/\((rf Z7)/\(rf Z27)/\(rf Z18)/\(vI (wR ((wR (Z5*(10:Int)))-Z12))=vI (-(nI (dvF 0 Z31))))/\(vI (wR ((x1:Int)+(1:Int)))=vI (y6:Int))))))) (ifB Z28 (ifB ((Z5 == (-9223372036854775808:Int))) Z1 (∃ i8:Int,[DA.one (cI (wR (0-Z5)))]=AZ.args i8/\AZ.pre i8/\(ifB ((!((AY i8).toList == s.toList))) Z1 ((vI (wR (0-Z5))=vI Z8)/\Z6)))) (∃ i9:Int,[DA.one (cI Z5)]=AZ.args i9/\AZ.pre i9/\(ifB ((!((AY i9).toList == s.toList))) Z1 ((vI Z5=vI Z8)/\Z6))))))) Z1))) (by kernel_rfl) ?_
 conv=>zeta
 delta ifB vB vI wR nI
 refine And.symm ⟨λ c1=>?_,λ c1=>?_⟩
 ·try simp only [nrm] at c1
  obtain ⟨hn,ht⟩:=Re c1
  refine ⟨s,by
   rfl,by
   show s.size<=1073741824
   first|exact hpre|(rw [ByteArray.size_extract];omega)|(rw [hv];exact h64)|(rw [← hv];exact h64),?_⟩
  refine And.symm ⟨λ c110=>?_,λ c110=>?_⟩
  ·try simp only [nrm] at c110
   have hno:Ac s=none:=CU (.inl (by rw [ht];assumption))
   refine ⟨?_,?_⟩
   ·first|(rw [hno];rfl)|(rw [hyes,hv];rfl)|(rw [hyes];rfl)
   first|(rw [hno];rfl)|(rw [hyes,hv];rfl)|(rw [hyes];rfl)
  try simp only [nrm] at c110
  refine ⟨λ c111=>?_,λ c111=>?_⟩
  ·try simp only [nrm] at c111
   have hno:Ac s=none:=CU (.inr (.inl (by rw [ht];omega)))
   refine ⟨?_,?_⟩
   ·first|(rw [hno];rfl)|(rw [hyes,hv];rfl)|(rw [hyes];rfl)
   first|(rw [hno];rfl)|(rw [hyes,hv];rfl)|(rw [hyes];rfl)
  try simp only [nrm] at c111
  have hd:BX (tOf (AU s) s)=true:=by rw [ht];assumption
  have hz:(tOf (AU s) s).size<=19:=by rw [ht];omega
  refine ⟨⟨0,by
   exact ⟨Nat.zero_le _,by rw [List.take_zero];show 0<=_;omega⟩,?_⟩,?_⟩
  ·refine ⟨rfl,?_,?_,?_,rfl⟩
   ·first|exact congrArg Value.string ht.symm|exact congrArg Value.bool hn.symm|(rw [hn];simp [c3];done)|(simp [dvF];done)
   ·first|exact congrArg Value.string ht.symm|exact congrArg Value.bool hn.symm|(rw [hn];simp [c3];done)|(simp [dvF];done)
   first|exact congrArg Value.string ht.symm|exact congrArg Value.bool hn.symm|(rw [hn];simp [c3];done)|(simp [dvF];done)
  intro (k:Nat) hki114
  have hki114:k<=(tOf (AU s) s).size/\dvF 0 ((tOf (AU s) s).data.toList.take k)<=9223372036854775808:=hki114
  refine ⟨λ c121=>?_,λ c121=>?_⟩
  ·try simp only [nrm] at c121
   refine ao (by first|rfl|omega|(simp;done)|(simp;omega)) λ o122=>?_
   refine ao (by first|rfl|omega|(simp;done)|(simp;omega)) λ o123=>?_
   refine ⟨λ c124=>?_,λ c124=>?_⟩
   ·try dsimp only at c124
    try simp only [nrm] at c124
    have hno:Ac s=none:=Mk hd (by omega) c124
    refine ⟨?_,?_⟩
    ·first|(rw [hno];rfl)|(rw [hyes,hv];rfl)|(rw [hyes];rfl)
    first|(rw [hno];rfl)|(rw [hyes,hv];rfl)|(rw [hyes];rfl)
   try dsimp only at c124
   try simp only [nrm] at c124
   obtain ⟨hb,hv⟩:=PY hd (by omega) c124
   refine ⟨k+1,by
    exact ⟨by omega,hb⟩,by
    first|omega|(simp;omega),?_⟩
   refine ⟨rfl,rfl,rfl,?_,?_⟩
   ·rw [hv]
   exact AP (AG (by omega) (by omega))
  try simp only [nrm] at c121
  refine And.symm ⟨λ c135=>?_,λ c135=>?_⟩
  ·try simp only [nrm] at c135
   obtain ⟨hv,h64⟩:=KM c135 (by omega) hki114.2
   refine ⟨(-((dvF 0 ((tOf (AU s) s).data.toList.take k):Nat):Int)),by
    rfl,by
    show -9223372036854775808<=(-((dvF 0 ((tOf (AU s) s).data.toList.take k):Nat):Int))/\(-((dvF 0 ((tOf (AU s) s).data.toList.take k):Nat):Int))<=9223372036854775807
    first|exact hpre|(rw [ByteArray.size_extract];omega)|(rw [hv];exact h64)|(rw [← hv];exact h64),?_⟩
   refine ⟨λ c150=>?_,λ c150=>?_⟩
   ·try simp only [nrm] at c150
    have hno:Ac s=none:=Eh (BO (by rw [hv];exact c150))
    refine ⟨?_,?_⟩
    ·first|(rw [hno];rfl)|(rw [hyes,hv];rfl)|(rw [hyes];rfl)
    first|(rw [hno];rfl)|(rw [hyes,hv];rfl)|(rw [hyes];rfl)
   try simp only [nrm] at c150
   have hyes:Ac s=some (nOf s):=Dc (CB (by rw [hv];exact c150)) h64
   refine ⟨?_,?_⟩
   ·first|(rw [hno];rfl)|(rw [hyes,hv];rfl)|(rw [hyes];rfl)
   first|(rw [hno];rfl)|(rw [hyes,hv];rfl)|(rw [hyes];rfl)
  try simp only [nrm] at c135
  obtain ⟨hv1,hv2⟩:=KN c135 (by omega) hki114.2
  refine ⟨λ c136=>?_,λ c136=>?_⟩
  ·try simp only [nrm] at c136
   have hno:=hv1 c136
   refine ⟨?_,?_⟩
   ·first|(rw [hno];rfl)|(rw [hyes,hv];rfl)|(rw [hyes];rfl)
   first|(rw [hno];rfl)|(rw [hyes,hv];rfl)|(rw [hyes];rfl)
  try simp only [nrm] at c136
  obtain ⟨hv,h64⟩:=hv2 c136
  refine ⟨(IntKind.i64.wrap (0-(-((dvF 0 ((tOf (AU s) s).data.toList.take k):Nat):Int)))),by
   rfl,by
   try dsimp only [AZ]
   first|exact hpre|(rw [ByteArray.size_extract];omega)|(rw [hv];exact h64)|(rw [← hv];exact h64),?_⟩
  refine ⟨λ c142=>?_,λ c142=>?_⟩
  ·try simp only [nrm] at c142
   have hno:Ac s=none:=Eh (BO (by rw [← hv];exact c142))
   refine ⟨?_,?_⟩
   ·first|(rw [hno];rfl)|(rw [hyes,hv];rfl)|(rw [hyes];rfl)
   first|(rw [hno];rfl)|(rw [hyes,hv];rfl)|(rw [hyes];rfl)
  try simp only [nrm] at c142
  have hyes:Ac s=some (nOf s):=Dc (CB (by rw [← hv];exact c142)) h64
  refine ⟨?_,?_⟩
  ·first|(rw [hno];rfl)|(rw [hyes,hv];rfl)|(rw [hyes];rfl)
  first|(rw [hno];rfl)|(rw [hyes,hv];rfl)|(rw [hyes];rfl)
 try simp only [nrm] at c1
 refine ao (by first|rfl|omega|(simp;done)|(simp;omega)) λ o2=>?_
 refine And.symm ⟨λ c3=>?_,λ c3=>?_⟩
 ·try simp only [nrm] at c3
  obtain ⟨hn,ht⟩:=Rf c3
  refine ⟨s,by
   rfl,by
   show s.size<=1073741824
   first|exact hpre|(rw [ByteArray.size_extract];omega)|(rw [hv];exact h64)|(rw [← hv];exact h64),?_⟩
  refine And.symm ⟨λ c60=>?_,λ c60=>?_⟩
  ·try simp only [nrm] at c60
   have hno:Ac s=none:=CU (.inl (by rw [ht];assumption))
   refine ⟨?_,?_⟩
   ·first|(rw [hno];rfl)|(rw [hyes,hv];rfl)|(rw [hyes];rfl)
   first|(rw [hno];rfl)|(rw [hyes,hv];rfl)|(rw [hyes];rfl)
  try simp only [nrm] at c60
  refine ⟨λ c61=>?_,λ c61=>?_⟩
  ·try simp only [nrm] at c61
   have hno:Ac s=none:=CU (.inr (.inl (by rw [ht];omega)))
   refine ⟨?_,?_⟩
   ·first|(rw [hno];rfl)|(rw [hyes,hv];rfl)|(rw [hyes];rfl)
   first|(rw [hno];rfl)|(rw [hyes,hv];rfl)|(rw [hyes];rfl)
  try simp only [nrm] at c61
  have hd:BX (tOf (AU s) s)=true:=by rw [ht];assumption
  have hz:(tOf (AU s) s).size<=19:=by rw [ht];omega
  refine ⟨⟨0,by
   exact ⟨Nat.zero_le _,by rw [List.take_zero];show 0<=_;omega⟩,?_⟩,?_⟩
  ·refine ⟨rfl,?_,?_,?_,rfl⟩
   ·first|exact congrArg Value.string ht.symm|exact congrArg Value.bool hn.symm|(rw [hn];simp [c3];done)|(simp [dvF];done)
   ·first|exact congrArg Value.string ht.symm|exact congrArg Value.bool hn.symm|(rw [hn];simp [c3];done)|(simp [dvF];done)
   first|exact congrArg Value.string ht.symm|exact congrArg Value.bool hn.symm|(rw [hn];simp [c3];done)|(simp [dvF];done)
  intro (k:Nat) hki64
  have hki64:k<=(tOf (AU s) s).size/\dvF 0 ((tOf (AU s) s).data.toList.take k)<=9223372036854775808:=hki64
  refine ⟨λ c71=>?_,λ c71=>?_⟩
  ·try simp only [nrm] at c71
   refine ao (by first|rfl|omega|(simp;done)|(simp;omega)) λ o72=>?_
   refine ao (by first|rfl|omega|(simp;done)|(simp;omega)) λ o73=>?_
   refine ⟨λ c74=>?_,λ c74=>?_⟩
   ·try dsimp only at c74
    try simp only [nrm] at c74
    have hno:Ac s=none:=Mk hd (by omega) c74
    refine ⟨?_,?_⟩
    ·first|(rw [hno];rfl)|(rw [hyes,hv];rfl)|(rw [hyes];rfl)
    first|(rw [hno];rfl)|(rw [hyes,hv];rfl)|(rw [hyes];rfl)
   try dsimp only at c74
   try simp only [nrm] at c74
   obtain ⟨hb,hv⟩:=PY hd (by omega) c74
   refine ⟨k+1,by
    exact ⟨by omega,hb⟩,by
    first|omega|(simp;omega),?_⟩
   refine ⟨rfl,rfl,rfl,?_,?_⟩
   ·rw [hv]
   exact AP (AG (by omega) (by omega))
  try simp only [nrm] at c71
  refine And.symm ⟨λ c85=>?_,λ c85=>?_⟩
  ·try simp only [nrm] at c85
   obtain ⟨hv,h64⟩:=KM c85 (by omega) hki64.2
   refine ⟨(-((dvF 0 ((tOf (AU s) s).data.toList.take k):Nat):Int)),by
    rfl,by
    show -9223372036854775808<=(-((dvF 0 ((tOf (AU s) s).data.toList.take k):Nat):Int))/\(-((dvF 0 ((tOf (AU s) s).data.toList.take k):Nat):Int))<=9223372036854775807
    first|exact hpre|(rw [ByteArray.size_extract];omega)|(rw [hv];exact h64)|(rw [← hv];exact h64),?_⟩
   refine ⟨λ c100=>?_,λ c100=>?_⟩
   ·try simp only [nrm] at c100
    have hno:Ac s=none:=Eh (BO (by rw [hv];exact c100))
    refine ⟨?_,?_⟩
    ·first|(rw [hno];rfl)|(rw [hyes,hv];rfl)|(rw [hyes];rfl)
    first|(rw [hno];rfl)|(rw [hyes,hv];rfl)|(rw [hyes];rfl)
   try simp only [nrm] at c100
   have hyes:Ac s=some (nOf s):=Dc (CB (by rw [hv];exact c100)) h64
   refine ⟨?_,?_⟩
   ·first|(rw [hno];rfl)|(rw [hyes,hv];rfl)|(rw [hyes];rfl)
   first|(rw [hno];rfl)|(rw [hyes,hv];rfl)|(rw [hyes];rfl)
  try simp only [nrm] at c85
  obtain ⟨hv1,hv2⟩:=KN c85 (by omega) hki64.2
  refine ⟨λ c86=>?_,λ c86=>?_⟩
  ·try simp only [nrm] at c86
   have hno:=hv1 c86
   refine ⟨?_,?_⟩
   ·first|(rw [hno];rfl)|(rw [hyes,hv];rfl)|(rw [hyes];rfl)
   first|(rw [hno];rfl)|(rw [hyes,hv];rfl)|(rw [hyes];rfl)
  try simp only [nrm] at c86
  obtain ⟨hv,h64⟩:=hv2 c86
  refine ⟨(IntKind.i64.wrap (0-(-((dvF 0 ((tOf (AU s) s).data.toList.take k):Nat):Int)))),by
   rfl,by
   try dsimp only [AZ]
   first|exact hpre|(rw [ByteArray.size_extract];omega)|(rw [hv];exact h64)|(rw [← hv];exact h64),?_⟩
  refine ⟨λ c92=>?_,λ c92=>?_⟩
  ·try simp only [nrm] at c92
   have hno:Ac s=none:=Eh (BO (by rw [← hv];exact c92))
   refine ⟨?_,?_⟩
   ·first|(rw [hno];rfl)|(rw [hyes,hv];rfl)|(rw [hyes];rfl)
   first|(rw [hno];rfl)|(rw [hyes,hv];rfl)|(rw [hyes];rfl)
  try simp only [nrm] at c92
  have hyes:Ac s=some (nOf s):=Dc (CB (by rw [← hv];exact c92)) h64
  refine ⟨?_,?_⟩
  ·first|(rw [hno];rfl)|(rw [hyes,hv];rfl)|(rw [hyes];rfl)
  first|(rw [hno];rfl)|(rw [hyes,hv];rfl)|(rw [hyes];rfl)
 try simp only [nrm] at c3
 obtain ⟨hn,ht⟩:=Rg c1 c3
 refine ao (by first|rfl|omega|(simp;done)|(simp;omega)) λ o4=>?_
 refine ao (by first|rfl|omega|(simp;done)|(simp;omega)) λ o5=>?_
 refine ao (by first|rfl|omega|(simp;done)|(simp;omega)) λ o6=>?_
 refine ⟨(s.extract 1 s.size),by
  rfl,by
  show (s.extract 1 s.size).size<=1073741824
  first|exact hpre|(rw [ByteArray.size_extract];omega)|(rw [hv];exact h64)|(rw [← hv];exact h64),?_⟩
 refine And.symm ⟨λ c10=>?_,λ c10=>?_⟩
 ·try simp only [nrm] at c10
  have hno:Ac s=none:=CU (.inl (by rw [ht];assumption))
  refine ⟨?_,?_⟩
  ·first|(rw [hno];rfl)|(rw [hyes,hv];rfl)|(rw [hyes];rfl)
  first|(rw [hno];rfl)|(rw [hyes,hv];rfl)|(rw [hyes];rfl)
 try simp only [nrm] at c10
 refine ⟨λ c11=>?_,λ c11=>?_⟩
 ·try simp only [nrm] at c11
  have hno:Ac s=none:=CU (.inr (.inl (by rw [ht];omega)))
  refine ⟨?_,?_⟩
  ·first|(rw [hno];rfl)|(rw [hyes,hv];rfl)|(rw [hyes];rfl)
  first|(rw [hno];rfl)|(rw [hyes,hv];rfl)|(rw [hyes];rfl)
 try simp only [nrm] at c11
 have hd:BX (tOf (AU s) s)=true:=by rw [ht];assumption
 have hz:(tOf (AU s) s).size<=19:=by rw [ht];omega
 refine ⟨⟨0,by
  exact ⟨Nat.zero_le _,by rw [List.take_zero];show 0<=_;omega⟩,?_⟩,?_⟩
 ·refine ⟨rfl,?_,?_,?_,rfl⟩
  ·first|exact congrArg Value.string ht.symm|exact congrArg Value.bool hn.symm|(rw [hn];simp [c3];done)|(simp [dvF];done)
  ·first|exact congrArg Value.string ht.symm|exact congrArg Value.bool hn.symm|(rw [hn];simp [c3];done)|(simp [dvF];done)
  first|exact congrArg Value.string ht.symm|exact congrArg Value.bool hn.symm|(rw [hn];simp [c3];done)|(simp [dvF];done)
 intro (k:Nat) hki14
 have hki14:k<=(tOf (AU s) s).size/\dvF 0 ((tOf (AU s) s).data.toList.take k)<=9223372036854775808:=hki14
 refine ⟨λ c21=>?_,λ c21=>?_⟩
 ·try simp only [nrm] at c21
  refine ao (by first|rfl|omega|(simp;done)|(simp;omega)) λ o22=>?_
  refine ao (by first|rfl|omega|(simp;done)|(simp;omega)) λ o23=>?_
  refine ⟨λ c24=>?_,λ c24=>?_⟩
  ·try dsimp only at c24
   try simp only [nrm] at c24
   have hno:Ac s=none:=Mk hd (by omega) c24
   refine ⟨?_,?_⟩
   ·first|(rw [hno];rfl)|(rw [hyes,hv];rfl)|(rw [hyes];rfl)
   first|(rw [hno];rfl)|(rw [hyes,hv];rfl)|(rw [hyes];rfl)
  try dsimp only at c24
  try simp only [nrm] at c24
  obtain ⟨hb,hv⟩:=PY hd (by omega) c24
  refine ⟨k+1,by
   exact ⟨by omega,hb⟩,by
   first|omega|(simp;omega),?_⟩
  refine ⟨rfl,rfl,rfl,?_,?_⟩
  ·rw [hv]
  exact AP (AG (by omega) (by omega))
 try simp only [nrm] at c21
 refine And.symm ⟨λ c35=>?_,λ c35=>?_⟩
 ·try simp only [nrm] at c35
  obtain ⟨hv,h64⟩:=KM c35 (by omega) hki14.2
  refine ⟨(-((dvF 0 ((tOf (AU s) s).data.toList.take k):Nat):Int)),by
   rfl,by
   show -9223372036854775808<=(-((dvF 0 ((tOf (AU s) s).data.toList.take k):Nat):Int))/\(-((dvF 0 ((tOf (AU s) s).data.toList.take k):Nat):Int))<=9223372036854775807
   first|exact hpre|(rw [ByteArray.size_extract];omega)|(rw [hv];exact h64)|(rw [← hv];exact h64),?_⟩
  refine ⟨λ c50=>?_,λ c50=>?_⟩
  ·try simp only [nrm] at c50
   have hno:Ac s=none:=Eh (BO (by rw [hv];exact c50))
   refine ⟨?_,?_⟩
   ·first|(rw [hno];rfl)|(rw [hyes,hv];rfl)|(rw [hyes];rfl)
   first|(rw [hno];rfl)|(rw [hyes,hv];rfl)|(rw [hyes];rfl)
  try simp only [nrm] at c50
  have hyes:Ac s=some (nOf s):=Dc (CB (by rw [hv];exact c50)) h64
  refine ⟨?_,?_⟩
  ·first|(rw [hno];rfl)|(rw [hyes,hv];rfl)|(rw [hyes];rfl)
  first|(rw [hno];rfl)|(rw [hyes,hv];rfl)|(rw [hyes];rfl)
 try simp only [nrm] at c35
 obtain ⟨hv1,hv2⟩:=KN c35 (by omega) hki14.2
 refine ⟨λ c36=>?_,λ c36=>?_⟩
 ·try simp only [nrm] at c36
  have hno:=hv1 c36
  refine ⟨?_,?_⟩
  ·first|(rw [hno];rfl)|(rw [hyes,hv];rfl)|(rw [hyes];rfl)
  first|(rw [hno];rfl)|(rw [hyes,hv];rfl)|(rw [hyes];rfl)
 try simp only [nrm] at c36
 obtain ⟨hv,h64⟩:=hv2 c36
 refine ⟨(IntKind.i64.wrap (0-(-((dvF 0 ((tOf (AU s) s).data.toList.take k):Nat):Int)))),by
  rfl,by
  try dsimp only [AZ]
  first|exact hpre|(rw [ByteArray.size_extract];omega)|(rw [hv];exact h64)|(rw [← hv];exact h64),?_⟩
 refine ⟨λ c42=>?_,λ c42=>?_⟩
 ·try simp only [nrm] at c42
  have hno:Ac s=none:=Eh (BO (by rw [← hv];exact c42))
  refine ⟨?_,?_⟩
  ·first|(rw [hno];rfl)|(rw [hyes,hv];rfl)|(rw [hyes];rfl)
  first|(rw [hno];rfl)|(rw [hyes,hv];rfl)|(rw [hyes];rfl)
 try simp only [nrm] at c42
 have hyes:Ac s=some (nOf s):=Dc (CB (by rw [← hv];exact c42)) h64
 refine ⟨?_,?_⟩
 ·first|(rw [hno];rfl)|(rw [hyes,hv];rfl)|(rw [hyes];rfl)
 first|(rw [hno];rfl)|(rw [hyes,hv];rfl)|(rw [hyes];rfl)
theorem HL (c:UInt8) (s:ByteArray):wo c s 0=[]/\wf c s 0=0:=by
 have e:B0 c (s.data.toList.take 0)=([],[]):=rfl
 unfold wf Ik wo;rw [e];exact ⟨rfl,rfl⟩
theorem Qn {c:UInt8} {s:ByteArray} {i:Nat} (hi:i<s.size) (h:((s.get! i).toNat:Int)=(((⟨#[c]⟩:ByteArray).get! 0).toNat:Int)):wo c s (i+1)=wo c s i++[s.extract (wf c s i) i]/\wf c s (i+1)=i+1:=by
 refine PQ hi ?_
 rw [← UInt8.toNat_inj]
 have h2:((⟨#[c]⟩:ByteArray).get! 0).toNat=c.toNat:=rfl
 omega
theorem QG {c:UInt8} {s:ByteArray} {i:Nat} (hi:i<s.size) (h:¬ ((s.get! i).toNat:Int)=(((⟨#[c]⟩:ByteArray).get! 0).toNat:Int)):s.get! i≠c:=λ e=>h (by rw [e];rfl)
theorem Bl (l:List ByteArray) (x:ByteArray):AK l++[[Dat.str x]]=AK (l++[x]):=by rw [KG];rfl
def BC:Con:={ ι:=ByteArray×UInt8,pre:=λ i=>i.1.size<=1073741824,args:=λ i=>[.one (.im (.string i.1)),.one (.im (.string (⟨#[i.2]⟩:ByteArray)))],res:=λ i=>⟨false,[none],[.own 9 [.str] (AK (AB i.2 i.1))]⟩ }
theorem HN:BC.Ok Tryz.prog 23:=by
 refine fok (X:=⟨tt,[],[],44,[]⟩) mixed BG (CTok.nil _) Tryz.func23 (λ (i:ByteArray×UInt8)=>let Z1:=Value.string (⟨#[i.2]⟩:ByteArray);[(4,.mk 2 (Nat) (λ x1=>{ tm:=[(0,.one (.one (.im (Value.string i.1)))),(1,.one (.one (.im Z1))),(7,tI (x1:Int)),(6,tI (nI (wf i.2 i.1 x1))),(5,tX 1)],en:=[(1,.own 9 [.str] (AK (wo i.2 i.1 x1)))] }) (λ x1=>x1<=i.1.size) (λ x1=>i.1.size-x1) (λ x1=>[(7,.mk 2 (Nat) (λ x2=>{ tm:=[(0,.one (.one (.im (Value.string i.1)))),(1,.one (.one (.im Z1))),(7,tI (x1:Int)),(6,tI (nI (wf i.2 i.1 x1))),(5,tX 1),(8,tI (x2:Int))],en:=[(1,.own 9 [.str] (AK (wo i.2 i.1 x1)))] }) (λ x2=>x2<=1/\(x2=1->i.1.get! x1≠i.2)) (λ x2=>1-x2) (λ _=>[]))]))]) ?_
 rintro ⟨s,c⟩ hpre
 have hpre:s.size<=1073741824:=hpre
 refine BF (q:=let Z8:=List Dat;let Z6:=(s.size:Int);let Z5:=Value.string s;let Z1:=Value.string (⟨#[c]⟩:ByteArray);(∃ x1:Nat,(x1<=s.size)/\((rf Z5)/\(rf Z1)/\(vI (0:Int)=vI (x1:Int))/\(vI (0:Int)=vI (nI (wf c s x1)))/\(([]:List Z8)=(AK (wo c s x1)))))/\∀ x1:Nat,let Z7:=wf c s x1;let Z4:=wR ((x1:Int)+(1:Int));let Z3:=nI Z7;let Z2:=AK (wo c s x1);(x1<=s.size)->(ifB ((decide ((x1:Int)<(nI s.size)))) ((∃ x2:Nat,(x2<=1/\(x2=1->s.get! x1≠c))/\((rf Z5)/\(rf Z1)/\(rf (vI (x1:Int)))/\(rf (vI Z3))/\(vI (0:Int)=vI (x2:Int))/\(rf Z2)))/\∀ x2:Nat,(x2<=1/\(x2=1->s.get! x1≠c))->(ifB ((decide ((x2:Int)<(nI ((⟨#[c]⟩:ByteArray).size))))) ((0<=(x1:Int)/\(x1:Int)<Z6)/\((0<=(x2:Int)/\(x2:Int)<((⟨#[c]⟩:ByteArray).size:Int))/\(ifB ((((s.get! x1).toNat:Int) == (((⟨#[c]⟩:ByteArray).get! x2).toNat:Int))) ((0<=Z3)/\((Z3<=(x1:Int))/\(((x1:Int)<=Z6)/\((Z2.length+([[Dat.str (s.extract Z7 x1)]]:List Z8).length<=2199023255552)/\(∃ y3:Nat,(y3<=s.size)/\(s.size-y3<s.size-x1)/\((rf Z5)/\(rf Z1)/\(vI Z4=vI (y3:Int))/\(vI Z4=vI (nI (wf c s y3)))/\((Z2++([[Dat.str (s.extract Z7 x1)]]:List Z8))=(AK (wo c s y3))))))))) (∃ y4:Nat,(y4<=1/\(y4=1->s.get! x1≠c))/\(1-y4<1-x2)/\((rf Z5)/\(rf Z1)/\(rf (vI (x1:Int)))/\(rf (vI Z3))/\(vI (wR ((x2:Int)+(1:Int)))=vI (y4:Int))/\(rf Z2)))))) (∃ y5:Nat,(y5<=s.size)/\(s.size-y5<s.size-x1)/\((rf Z5)/\(rf Z1)/\(vI Z4=vI (y5:Int))/\(vI Z3=vI (nI (wf c s y5)))/\(Z2=(AK (wo c s y5))))))) ((0<=Z3)/\((Z3<=Z6)/\((Z6<=Z6)/\((Z2.length+([[Dat.str (s.extract Z7 s.size)]]:List Z8).length<=2199023255552)/\(((Z2++([[Dat.str (s.extract Z7 s.size)]]:List Z8))=AK (AB c s))))))))) (by kernel_rfl) ?_
 conv=>zeta
 delta ifB vI wR nI
 have h1c:(⟨#[c]⟩:ByteArray).size=1:=rfl
 refine ⟨⟨0,by
  first|trivial|omega|(simp;omega),?_⟩,?_⟩
 ·refine ⟨rfl,rfl,rfl,?_,?_⟩
  ·first|(rw [(HL c s).2];rfl)|(rw [(HL c s).1];rfl)
  first|(rw [(HL c s).2];rfl)|(rw [(HL c s).1];rfl)
 intro (i:Nat) hki1
 have hki1:i<=s.size:=hki1
 refine And.symm ⟨λ c8=>?_,λ c8=>?_⟩
 ·try simp only [nrm] at c8
  have hi:i=s.size:=by omega
  refine ao (by first|rfl|omega|(have:=Et c s i;omega)|(have:=Ca c s (i:=i) (by omega);rw [AO];simp only [List.length_cons,List.length_nil];omega)) λ o50=>?_
  refine ao (by first|rfl|omega|(have:=Et c s i;omega)|(have:=Ca c s (i:=i) (by omega);rw [AO];simp only [List.length_cons,List.length_nil];omega)) λ o51=>?_
  refine ao (by first|rfl|omega|(have:=Et c s i;omega)|(have:=Ca c s (i:=i) (by omega);rw [AO];simp only [List.length_cons,List.length_nil];omega)) λ o52=>?_
  refine ao (by first|rfl|omega|(have:=Et c s i;omega)|(have:=Ca c s (i:=i) (by omega);rw [AO];simp only [List.length_cons,List.length_nil];omega)) λ o53=>?_
  rw [hi,Bl,NN]
 try simp only [nrm] at c8
 refine ⟨⟨0,by
  first|trivial|omega|(simp;omega),?_⟩,?_⟩
 ·exact ⟨rfl,rfl,rfl,rfl,rfl,rfl⟩
 intro (j:Nat) hki9
 have hki9:j<=1/\(j=1->s.get! i≠c):=hki9
 refine And.symm ⟨λ c17=>?_,λ c17=>?_⟩
 ·try simp only [nrm] at c17
  obtain ⟨h1,h2⟩:=Mj (i:=i) (by omega) (hki9.2 (by omega))
  refine ⟨i+1,by
   first|trivial|omega|(simp;omega),by
   first|omega|(simp;omega),?_⟩
  refine ⟨rfl,rfl,?_,?_,?_⟩
  ·first|exact AP (AG (by omega) (by omega))|(rw [h2];exact AP (by rw [AG (by omega) (by omega)];omega))|(rw [h2])|(rw [h1,Bl])|(rw [h1])
  ·first|exact AP (AG (by omega) (by omega))|(rw [h2];exact AP (by rw [AG (by omega) (by omega)];omega))|(rw [h2])|(rw [h1,Bl])|(rw [h1])
  first|exact AP (AG (by omega) (by omega))|(rw [h2];exact AP (by rw [AG (by omega) (by omega)];omega))|(rw [h2])|(rw [h1,Bl])|(rw [h1])
 try simp only [nrm] at c17
 refine ao (by first|rfl|omega|(have:=Et c s i;omega)|(have:=Ca c s (i:=i) (by omega);rw [AO];simp only [List.length_cons,List.length_nil];omega)) λ o18=>?_
 refine ao (by first|rfl|omega|(have:=Et c s i;omega)|(have:=Ca c s (i:=i) (by omega);rw [AO];simp only [List.length_cons,List.length_nil];omega)) λ o19=>?_
 refine And.symm ⟨λ c20=>?_,λ c20=>?_⟩
 ·try simp only [nrm] at c20
  have hm:s.get! i≠c:=QG (by omega) (by rw [show j=0 by omega] at c20;exact c20)
  refine ⟨j+1,by
   exact ⟨by omega,λ _=>hm⟩,by
   first|omega|(simp;omega),?_⟩
  refine ⟨rfl,rfl,rfl,rfl,?_,rfl⟩
  exact AP (AG (by omega) (by omega))
 try simp only [nrm] at c20
 obtain ⟨h1,h2⟩:=Qn (s:=s) (c:=c) (i:=i) (by omega) (by rw [show j=0 by omega] at c20;exact c20)
 refine ao (by first|rfl|omega|(have:=Et c s i;omega)|(have:=Ca c s (i:=i) (by omega);rw [AO];simp only [List.length_cons,List.length_nil];omega)) λ o21=>?_
 refine ao (by first|rfl|omega|(have:=Et c s i;omega)|(have:=Ca c s (i:=i) (by omega);rw [AO];simp only [List.length_cons,List.length_nil];omega)) λ o22=>?_
 refine ao (by first|rfl|omega|(have:=Et c s i;omega)|(have:=Ca c s (i:=i) (by omega);rw [AO];simp only [List.length_cons,List.length_nil];omega)) λ o23=>?_
 refine ao (by first|rfl|omega|(have:=Et c s i;omega)|(have:=Ca c s (i:=i) (by omega);rw [AO];simp only [List.length_cons,List.length_nil];omega)) λ o24=>?_
 refine ⟨i+1,by
  first|trivial|omega|(simp;omega),by
  first|omega|(simp;omega),?_⟩
 refine ⟨rfl,rfl,?_,?_,?_⟩
 ·first|exact AP (AG (by omega) (by omega))|(rw [h2];exact AP (by rw [AG (by omega) (by omega)];omega))|(rw [h2])|(rw [h1,Bl])|(rw [h1])
 ·first|exact AP (AG (by omega) (by omega))|(rw [h2];exact AP (by rw [AG (by omega) (by omega)];omega))|(rw [h2])|(rw [h1,Bl])|(rw [h1])
 first|exact AP (AG (by omega) (by omega))|(rw [h2];exact AP (by rw [AG (by omega) (by omega)];omega))|(rw [h2])|(rw [h1,Bl])|(rw [h1])
theorem N8 (v:V2):AB 44 (Ak v)=[AY v.1,AY v.2]:=by
 have e:(Ak v).data.toList=(AY v.1).data.toList++44::(AY v.2).data.toList:=by
  unfold Ak;rw [Ar,Ar];simp
 unfold AB
 rw [e,CI (FF v.1),BT (FF v.2)]
 simp [Do]
theorem Lp {s:ByteArray} {v:V2} (h:Dw s=some v):AB 44 s=[AY v.1,AY v.2]/\AX v=true/\Ak v=s:=by
 obtain ⟨h1,rfl⟩:=Ij.1 h
 exact ⟨N8 v,h1,rfl⟩
theorem Qo {s:ByteArray} (h:¬ (AB 44 s).length=2):Dw s=none:=by
 cases hp:Dw s with
 | none=>rfl
 | some v=>rw [(Lp hp).1] at h;exact absurd rfl h
def pvw (s:ByteArray) (k:Nat):Int:=(Ac ((AB 44 s).getD k ⟨#[]⟩)).getD 0
theorem QX {s:ByteArray} (h:Ap (pvw s 0,pvw s 1)=(⟨#[]⟩:ByteArray)∨Ap (pvw s 0,pvw s 1)≠s):Dw s=none:=by
 cases hp:Dw s with
 | none=>rfl
 | some v=>
  exfalso
  obtain ⟨h1,h2,h3⟩:=Lp hp
  have e:(pvw s 0,pvw s 1)=v:=by
   unfold pvw;rw [h1]
   show ((Ac (AY v.1)).getD 0,(Ac (AY v.2)).getD 0)=v
   rw [B7.2 ⟨(Es h2).1,rfl⟩,B7.2 ⟨(Es h2).2,rfl⟩]
   rfl
  rw [e,BW h2] at h
  rcases h with h|h
  ·have:=congrArg ByteArray.size h
   simp only [Ak,ByteArray.size_append] at this
   have e1:(⟨#[44]⟩:ByteArray).size=1:=rfl
   have e2:(⟨#[]⟩:ByteArray).size=0:=rfl
   omega
  ·exact h h3
theorem Qp {s:ByteArray} (h:¬ Ap (pvw s 0,pvw s 1)=(⟨#[]⟩:ByteArray)) (h2:Ap (pvw s 0,pvw s 1)=s):Dw s=some (pvw s 0,pvw s 1):=by
 have hv:AX (pvw s 0,pvw s 1)=true:=by
  cases hq:AX (pvw s 0,pvw s 1) with
  | true=>rfl
  | false=>exact absurd (Ig hq) h
 rw [BW hv] at h2
 exact Ij.2 ⟨hv,h2⟩
def A1:Con:={ ι:=ByteArray,pre:=λ i=>i.size<=1073741824,args:=λ i=>[.one (.im (.string i))],res:=λ i=>⟨true,[some 2,none],[rcI ((vOf i).1),rcI ((vOf i).2),rcB (okV i)]⟩ }
theorem Lq:A1.Ok Tryz.prog 25:=by
 refine fok (X:=⟨tt,[(23,BC),(42,Cj),(28,Ah)],[],40,[]⟩) mixed BG (CTok.cons HN (CTok.cons PZ (CTok.cons FB (CTok.nil _)))) Tryz.func25 (λ _=>[]) ?_
 intro (s:ByteArray) hpre
 have hpre:s.size<=1073741824:=hpre
 refine BF (q:=let Z1:=(vI (0:Int)=vI ((vOf s).1))/\(vI (0:Int)=vI ((vOf s).2))/\(vB false=vB (okV s));∃ i1:ByteArray×UInt8,let Z2:=AK (AB i1.2 i1.1);[DA.one (DC.im (Value.string s)),DA.one (DC.im (Value.string (⟨#[44]⟩:ByteArray)))]=BC.args i1/\BC.pre i1/\(ifB (((nI (Z2.length)) != (2:Int))) Z1 ((0<=(0:Int)/\(0:Int)<(Z2.length:Int))/\((0<Z2.length)/\(∃ i2:ByteArray,let Z3:=(Ac i2).getD 0;[DA.one (DC.im (Value.string ((((Z2.getD 0 []).getD 0 (.int 0))).s)))]=Cj.args i2/\Cj.pre i2/\((0<=(1:Int)/\(1:Int)<(Z2.length:Int))/\((1<Z2.length)/\(∃ i3:ByteArray,let Z4:=(Ac i3).getD 0;[DA.one (DC.im (Value.string ((((Z2.getD 1 []).getD 0 (.int 0))).s)))]=Cj.args i3/\Cj.pre i3/\(∃ i4:Int×Int,[DA.agg [cI Z3,cI Z4]]=Ah.args i4/\Ah.pre i4/\(ifB ((!((Ap (i4.1,i4.2)).toList == (⟨#[]⟩:ByteArray).toList))) (∃ i5:Int×Int,[DA.agg [cI Z3,cI Z4]]=Ah.args i5/\Ah.pre i5/\(ifB ((!((Ap (i5.1,i5.2)).toList == s.toList))) Z1 ((vI Z3=vI ((vOf s).1))/\(vI Z4=vI ((vOf s).2))/\(vB true=vB (okV s))))) Z1)))))))))) (by kernel_rfl) ?_
 conv=>zeta
 delta ifB vB vI nI
 have hsl:=AO (AB 44 s)
 refine ⟨(s,44),by
  rfl,by
  show s.size<=1073741824
  first|trivial|exact hpre|exact Nat.le_trans (BM (λ x hx=>Av hx) _) hpre,?_⟩
 refine ⟨λ c4=>?_,λ c4=>?_⟩
 ·try simp only [nrm] at c4
  have hno:=AI (Qo (s:=s) (by rw [hsl] at c4;omega))
  refine ⟨?_,?_,?_⟩
  ·first|(rw [hno.2])|(rw [hno.1])|(rw [hyes.2];rfl)|(rw [hyes.1])
  ·first|(rw [hno.2])|(rw [hno.1])|(rw [hyes.2];rfl)|(rw [hyes.1])
  first|(rw [hno.2])|(rw [hno.1])|(rw [hyes.2];rfl)|(rw [hyes.1])
 try simp only [nrm] at c4
 refine ao (a:=0<=(0:Int)/\(0:Int)<((AK (AB 44 s)).length:Int)) (by first|rfl|omega|(simp;done)|(simp;omega)) λ o8=>?_
 refine ao (a:=0<(AK (AB 44 s)).length) (by first|rfl|omega|(simp;done)|(simp;omega)) λ o9=>?_
 refine ⟨((AB 44 s).getD 0 ⟨#[]⟩),by
  exact congrArg (λ x=>[DA.one (DC.im (Value.string x))]) (Al (l:=AB 44 s) (k:=0) (by omega)),by
  show ((AB 44 s).getD 0 ⟨#[]⟩).size<=1073741824
  first|trivial|exact hpre|exact Nat.le_trans (BM (λ x hx=>Av hx) _) hpre,?_⟩
 refine ao (a:=0<=(1:Int)/\(1:Int)<((AK (AB 44 s)).length:Int)) (by first|rfl|omega|(simp;done)|(simp;omega)) λ o13=>?_
 refine ao (a:=1<(AK (AB 44 s)).length) (by first|rfl|omega|(simp;done)|(simp;omega)) λ o14=>?_
 refine ⟨((AB 44 s).getD 1 ⟨#[]⟩),by
  exact congrArg (λ x=>[DA.one (DC.im (Value.string x))]) (Al (l:=AB 44 s) (k:=1) (by omega)),by
  show ((AB 44 s).getD 1 ⟨#[]⟩).size<=1073741824
  first|trivial|exact hpre|exact Nat.le_trans (BM (λ x hx=>Av hx) _) hpre,?_⟩
 refine ⟨(((Ac ((AB 44 s).getD 0 ⟨#[]⟩)).getD 0),((Ac ((AB 44 s).getD 1 ⟨#[]⟩)).getD 0)),by
  rfl,by
  first|trivial|exact hpre|exact Nat.le_trans (BM (λ x hx=>Av hx) _) hpre,?_⟩
 refine And.symm ⟨λ c21=>?_,λ c21=>?_⟩
 ·try simp only [nrm] at c21
  have hno:=AI (QX (s:=s) (.inl (CB c21)))
  refine ⟨?_,?_,?_⟩
  ·first|(rw [hno.2])|(rw [hno.1])|(rw [hyes.2];rfl)|(rw [hyes.1])
  ·first|(rw [hno.2])|(rw [hno.1])|(rw [hyes.2];rfl)|(rw [hyes.1])
  first|(rw [hno.2])|(rw [hno.1])|(rw [hyes.2];rfl)|(rw [hyes.1])
 try simp only [nrm] at c21
 have hne:¬ Ap (pvw s 0,pvw s 1)=(⟨#[]⟩:ByteArray):=BO c21
 refine ⟨(((Ac ((AB 44 s).getD 0 ⟨#[]⟩)).getD 0),((Ac ((AB 44 s).getD 1 ⟨#[]⟩)).getD 0)),by
  rfl,by
  first|trivial|exact hpre|exact Nat.le_trans (BM (λ x hx=>Av hx) _) hpre,?_⟩
 refine ⟨λ c25=>?_,λ c25=>?_⟩
 ·try simp only [nrm] at c25
  have hno:=AI (QX (s:=s) (.inr (BO c25)))
  refine ⟨?_,?_,?_⟩
  ·first|(rw [hno.2])|(rw [hno.1])|(rw [hyes.2];rfl)|(rw [hyes.1])
  ·first|(rw [hno.2])|(rw [hno.1])|(rw [hyes.2];rfl)|(rw [hyes.1])
  first|(rw [hno.2])|(rw [hno.1])|(rw [hyes.2];rfl)|(rw [hyes.1])
 try simp only [nrm] at c25
 have hyes:=Ad (Qp hne (CB c25))
 refine ⟨?_,?_,?_⟩
 ·first|(rw [hno.2])|(rw [hno.1])|(rw [hyes.2];rfl)|(rw [hyes.1])
 ·first|(rw [hno.2])|(rw [hno.1])|(rw [hyes.2];rfl)|(rw [hyes.1])
 first|(rw [hno.2])|(rw [hno.1])|(rw [hyes.2];rfl)|(rw [hyes.1])
def BJ:Con:={ ι:=ByteArray,pre:=λ i=>i.size<=1073741824,args:=λ i=>[.one (.im (.string i))],res:=λ i=>⟨true,[none,none],[.own 23 [.int,.int] (AD (CJ i)),rcB (okP i)]⟩ }
theorem Pa:BJ.Ok Tryz.prog 26:=by
 refine fok (X:=⟨tt,[(23,BC),(25,A1),(43,BS)],[],33,[]⟩) mixed BG (CTok.cons HN (CTok.cons Lq (CTok.cons Id (CTok.nil _)))) Tryz.func26 (λ (i:ByteArray)=>let Z1:=AB 32 i;[(3,.mk 3 (Nat) (λ x1=>{ tm:=[(11,tX 1),(12,tI ((AK Z1).length:Int)),(13,tI (x1:Int)),(4,tX 2)],en:=[(1,.own 9 [.str] (AK Z1)),(2,.own 23 [.int,.int] (AD ((Z1.take x1).map vOf)))] }) (λ x1=>x1<=Z1.length/\(Z1.take x1).all okV=true) (λ x1=>Z1.length-x1) (λ _=>[]))]) ?_
 intro (s:ByteArray) hpre
 have hpre:s.size<=1073741824:=hpre
 refine BF (q:=let Z3:=(([]:List (List Dat))=AD (CJ s))/\(vB false=vB (okP s));let Z1:=AB 32 s;let Z5:=AK Z1;let Z4:=(Z5.length:Int);∃ i1:ByteArray×UInt8,[DA.one (DC.im (Value.string s)),DA.one (DC.im (Value.string (⟨#[32]⟩:ByteArray)))]=BC.args i1/\BC.pre i1/\((∃ x1:Nat,(x1<=Z1.length/\(Z1.take x1).all okV=true)/\((vI (nI ((AK (AB i1.2 i1.1)).length))=vI Z4)/\(vI (0:Int)=vI (x1:Int))/\(AK (AB i1.2 i1.1)=Z5)/\(([]:List (List Dat))=(AD ((Z1.take x1).map vOf)))))/\∀ x1:Nat,let Z2:=AD ((Z1.take x1).map vOf);(x1<=Z1.length/\(Z1.take x1).all okV=true)->(ifB ((decide ((x1:Int)<Z4))) ((0<=(x1:Int)/\(x1:Int)<Z4)/\((x1<Z5.length)/\(∃ i2:ByteArray,[DA.one (DC.im (Value.string ((((Z5.getD x1 []).getD 0 (.int 0))).s)))]=A1.args i2/\A1.pre i2/\(ifB ((!(okV i2))) Z3 ((Z2.length+([[Dat.int ((vOf i2).1),Dat.int ((vOf i2).2)]]:List (List Dat)).length<=2199023255552)/\(∃ y2:Nat,(y2<=Z1.length/\(Z1.take y2).all okV=true)/\(Z1.length-y2<Z1.length-x1)/\((rf (vI Z4))/\(vI (wR ((x1:Int)+(1:Int)))=vI (y2:Int))/\(rf Z5)/\((Z2++([[Dat.int ((vOf i2).1),Dat.int ((vOf i2).2)]]:List (List Dat)))=(AD ((Z1.take y2).map vOf)))))))))) (∃ i3:(List V2),[DA.one (DC.sl 23 [.int,.int] Z2)]=BS.args i3/\BS.pre i3/\(ifB ((!(Ae i3))) Z3 ((Z2=AD (CJ s))/\(vB true=vB (okP s)))))))) (by kernel_rfl) ?_
 conv=>zeta
 delta ifB vB vI wR nI
 have hwl:=Bj 32 s
 have hsl:=AO (AB 32 s)
 refine ⟨(s,32),by
  rfl,by
  show s.size<=1073741824
  first|trivial|exact hpre|exact Nat.le_trans (BM (λ x hx=>Av hx) k) hpre,?_⟩
 refine ⟨⟨0,by
  exact ⟨Nat.zero_le _,rfl⟩,?_⟩,?_⟩
 ·refine ⟨?_,rfl,rfl,?_⟩
  ·show Value.int .i64 (((AK (AB 32 s)).length:Nat):Int)=Value.int .i64 ((AK (AB 32 s)).length:Int)
   rfl
  rfl
 intro (k:Nat) hki4
 have hki4:k<=(AB 32 s).length/\((AB 32 s).take k).all okV=true:=hki4
 refine And.symm ⟨λ c10=>?_,λ c10=>?_⟩
 ·try simp only [nrm] at c10
  have ht:(AB 32 s).take k=AB 32 s:=List.take_of_length_le (by omega)
  have hao:(AB 32 s).all okV=true:=by rw [← ht];exact hki4.2
  refine ⟨(((AB 32 s).take k).map vOf),by
   rfl,by
   first|trivial|exact hpre|exact Nat.le_trans (BM (λ x hx=>Av hx) k) hpre,?_⟩
  refine ⟨λ c30=>?_,λ c30=>?_⟩
  ·try simp only [nrm] at c30
   rw [ht] at c30
   have hno:okP s=false:=by rw [Fj hao];exact c30
   refine ⟨?_,?_⟩
   ·first|(rw [BN hno];rfl)|(rw [hno])|(rw [ht,A2 hyes])|(rw [hyes])
   first|(rw [BN hno];rfl)|(rw [hno])|(rw [ht,A2 hyes])|(rw [hyes])
  try simp only [nrm] at c30
  rw [ht] at c30
  have hyes:okP s=true:=by rw [Fj hao];exact c30
  refine ⟨?_,?_⟩
  ·first|(rw [BN hno];rfl)|(rw [hno])|(rw [ht,A2 hyes])|(rw [hyes])
  first|(rw [BN hno];rfl)|(rw [hno])|(rw [ht,A2 hyes])|(rw [hyes])
 try simp only [nrm] at c10
 have hk:k<(AB 32 s).length:=by omega
 refine ao (by first|rfl|omega|(simp only [AO,AE,List.length_map,List.length_take,List.length_cons,List.length_nil];omega)|(simp;omega)) λ o11=>?_
 refine ao (by first|rfl|omega|(simp only [AO,AE,List.length_map,List.length_take,List.length_cons,List.length_nil];omega)|(simp;omega)) λ o12=>?_
 refine ⟨((AB 32 s).getD k ⟨#[]⟩),by
  exact congrArg (λ x=>[DA.one (DC.im (Value.string x))]) (Al hk),by
  show ((AB 32 s).getD k ⟨#[]⟩).size<=1073741824
  first|trivial|exact hpre|exact Nat.le_trans (BM (λ x hx=>Av hx) k) hpre,?_⟩
 refine ⟨λ c16=>?_,λ c16=>?_⟩
 ·try simp only [nrm] at c16
  have hno:=Ln hk c16
  refine ⟨?_,?_⟩
  ·first|(rw [BN hno];rfl)|(rw [hno])|(rw [ht,A2 hyes])|(rw [hyes])
  first|(rw [BN hno];rfl)|(rw [hno])|(rw [ht,A2 hyes])|(rw [hyes])
 try simp only [nrm] at c16
 refine ao (by first|rfl|omega|(simp only [AO,AE,List.length_map,List.length_take,List.length_cons,List.length_nil];omega)|(simp;omega)) λ o19=>?_
 refine ⟨k+1,by
  exact ⟨by omega,by rw [Lm hk,hki4.2,c16];rfl⟩,by
  first|omega|(simp;omega),?_⟩
 refine ⟨rfl,?_,rfl,?_⟩
 ·first|exact AP (AG (by omega) (by omega))|exact HG hk
 first|exact AP (AG (by omega) (by omega))|exact HG hk
end Go.Proofs.YtcpjekkiejhgpaaGreatDoor
