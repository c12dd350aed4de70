import Derived.Test.YtcpjekkiejhgpaaDoorPpRkS3
namespace Go.Proofs.YtcpjekkiejhgpaaDoor
set_option maxRecDepth 100000
set_option linter.unusedVariables false
set_option linter.unusedSimpArgs false
open Go.RowKit
theorem Im {s:ByteArray} {k:Nat} (hk:k<s.size):(s.data.toList.take (k+1)).all CU=((s.data.toList.take k).all CU && CU (s.get! k)):=by
 have hk' : k<s.data.toList.length:=hk
 rw [List.take_succ_eq_append_getElem hk',List.all_append,CI _ _ hk,List.getD_eq_getElem?_getD,List.getElem?_eq_getElem hk']
 simp
theorem J5 {s:ByteArray} {k:Nat} (hk:k<s.size) (h:CU (s.get! k)=false):Ap s=false:=by
 have e:s.data.toList.all CU=false:=by
  rw [← List.take_append_drop (k+1) s.data.toList,List.all_append,Im hk,h];simp
 unfold Ap;rw [e];simp
theorem L3 {s:ByteArray} (h:(s.data.toList.take s.size).all CU=true):Ap s=decide (0<s.size):=by
 rw [List.take_of_length_le (show s.data.toList.length<=s.size from Nat.le_refl _)] at h
 unfold Ap;rw [h];simp
theorem J6 {c:UInt8} (h:(c.toNat:Int)<48∨57<(c.toNat:Int)):CU c=false:=by
 unfold CU
 rw [Bool.and_eq_false_iff,decide_eq_false_iff_not,decide_eq_false_iff_not];omega
theorem L4 {c:UInt8} (h:¬((c.toNat:Int)<48∨57<(c.toNat:Int))):CU c=true:=by
 unfold CU
 rw [Bool.and_eq_true,decide_eq_true_eq,decide_eq_true_eq];omega
def BM:Con:={ ι:=ByteArray,pre:=λ i=>i.size<=1073741824,args:=λ i=>[.one (.im (.string i))],res:=λ i=>⟨false,[none],[rcB (Ap i)]⟩ }
theorem Mc:BM.Ok Tryd.prog 28:=by
 refine fok (X:=⟨tt,[],[],23,[]⟩) mixed DJ (CTok.nil _) Tryd.func28 (λ (i:ByteArray)=>[(2,.mk 1 (Nat) (λ x1=>{ tm:=[(0,.one (.one (.im (Value.string i)))),(3,tI (x1:Int))],en:=[] }) (λ x1=>x1<=i.size/\(i.data.toList.take x1).all CU=true) (λ x1=>i.size-x1) (λ _=>[]))]) ?_
 intro (s:ByteArray) hpre
 have hpre:s.size<=1073741824:=hpre
 refine DI (q:=let Z1:=(vB false=vB (Ap s));(∃ x1:Nat,(x1<=s.size/\(s.data.toList.take x1).all CU=true)/\((rf (Value.string s))/\(vI (0:Int)=vI (x1:Int))))/\∀ x1:Nat,let Z2:=((s.get! x1).toNat:Int);(x1<=s.size/\(s.data.toList.take x1).all CU=true)->(ifB ((decide ((x1:Int)<(nI s.size)))) ((0<=(x1:Int)/\(x1:Int)<(s.size:Int))/\(ifB ((!(decide (Z2<(48:Int))))) ((0<=(x1:Int)/\(x1:Int)<(s.size:Int))/\(ifB ((decide (Z2>(57:Int)))) Z1 (∃ y2:Nat,(y2<=s.size/\(s.data.toList.take y2).all CU=true)/\(s.size-y2<s.size-x1)/\((rf (Value.string s))/\(vI (wR ((x1:Int)+(1:Int)))=vI (y2:Int)))))) Z1)) ((vB (decide ((nI s.size)>(0:Int)))=vB (Ap s))))) (by kernel_rfl) ?_
 conv=>zeta
 delta ifB vB vI wR nI
 refine ⟨⟨0,by
  exact ⟨Nat.zero_le _,rfl⟩,?_⟩,?_⟩
 ·exact ⟨rfl,rfl⟩
 intro (k:Nat) hki1
 have hki1:k<=s.size/\(s.data.toList.take k).all CU=true:=hki1
 refine And.symm ⟨λ c5=>?_,λ c5=>?_⟩
 ·try simp only [nrm] at c5
  have he:=L3 (s:=s) (by rw [show s.size=k by omega];exact hki1.2)
  rw [he];congr 1;rw [decide_eq_decide];omega
 try simp only [nrm] at c5
 refine ao (by first|rfl|omega|(simp;done)|(simp;omega)) λ o6=>?_
 refine And.symm ⟨λ c7=>?_,λ c7=>?_⟩
 ·try simp only [nrm] at c7
  have hno:=J5 (s:=s) (k:=k) (by omega) (J6 (.inl (by omega)))
  rw [hno]
 try simp only [nrm] at c7
 refine ao (by first|rfl|omega|(simp;done)|(simp;omega)) λ o8=>?_
 refine ⟨λ c9=>?_,λ c9=>?_⟩
 ·try simp only [nrm] at c9
  have hno:=J5 (s:=s) (k:=k) (by omega) (J6 (.inr (by omega)))
  rw [hno]
 try simp only [nrm] at c9
 refine ⟨k+1,by
  exact ⟨by omega,by rw [Im (by omega),hki1.2,L4 (by omega)];rfl⟩,by
  first|omega|(simp;omega),?_⟩
 refine ⟨rfl,?_⟩
 exact B7 (AS (by omega) (by omega))
theorem Md {t:ByteArray} {k:Nat} : dvF 0 (t.data.toList.take k)<=dvF 0 t.data.toList:=by
 conv=>rhs;rw [← List.take_append_drop k t.data.toList]
 have:∀ (a b:List UInt8),dvF 0 (a++b)=dvF (dvF 0 a) b:=λ a b=>by unfold dvF;rw [List.foldl_append]
 rw [this]
 exact JV _ _
theorem Nc {s:ByteArray} (h:(s.size:Int)<=0):AE s=false/\tOf (AE s) s=s:=by
 have e:AE s=false:=by unfold AE;rw [decide_eq_false (by omega)];rfl
 rw [e];exact ⟨rfl,rfl⟩
theorem Nd {s:ByteArray} (h:¬ ((s.get! 0).toNat:Int)=45):AE s=false/\tOf (AE s) s=s:=by
 have e:AE s=false:=by
  unfold AE
  rw [show (s.get! 0 == 45)=false from by rw [beq_eq_false_iff_ne];intro e;rw [e] at h;exact h rfl]
  simp
 rw [e];exact ⟨rfl,rfl⟩
theorem Ne {s:ByteArray} (h0:0<(s.size:Int)) (h:((s.get! 0).toNat:Int)=45):AE s=true/\tOf (AE s) s=s.extract 1 s.size:=by
 have e:AE s=true:=by
  unfold AE
  rw [decide_eq_true (by omega),show s.get! 0=45 from by rw [← UInt8.toNat_inj];show _=45;omega]
  rfl
 rw [e];exact ⟨rfl,rfl⟩
theorem L5 {t:ByteArray} {k:Nat} (hd:Ap t=true) (hk:k<t.size):∃ d:Nat,d<=9/\IntKind.i64.wrap ((IntKind.i64.wrap ((t.get! k).toNat:Int))-48)=(d:Int)/\dvF 0 (t.data.toList.take (k+1))=dvF 0 (t.data.toList.take k)*10+d:=by
 have h:=Ma hd hk
 refine ⟨(t.get! k).toNat-48,by omega,?_,MZ hk⟩
 rw [AS (x:=((t.get! k).toNat:Int)) (by omega) (by omega),AS (by omega) (by omega)];omega
theorem J7 {d:Nat} (h:d<=9):IntKind.i64.wrap (Int.tdiv (IntKind.i64.wrap ((-9223372036854775808:Int)+d)) 10)=-(((9223372036854775808-d)/10:Nat):Int):=by
 rw [AS (x:=(-9223372036854775808:Int)+d) (by omega) (by omega)]
 have e:Int.tdiv ((-9223372036854775808:Int)+d) 10=-(((9223372036854775808-d)/10:Nat):Int):=by
  rw [Dv (by omega),show ((-9223372036854775808:Int)+d).natAbs=9223372036854775808-d by omega]
 rw [e,AS (by omega) (by omega)]
theorem JY {s:ByteArray} {k:Nat} (hd:Ap (tOf (AE s) s)=true) (hk:k<(tOf (AE s) s).size)
  (h:-((dvF 0 ((tOf (AE s) s).data.toList.take k):Nat):Int)<IntKind.i64.wrap (Int.tdiv (IntKind.i64.wrap ((-9223372036854775808:Int)+(IntKind.i64.wrap ((IntKind.i64.wrap (((tOf (AE s) s).get! k).toNat:Int))-48)))) 10)):AK s=none:=by
 obtain ⟨d,h1,h2,h3⟩:=L5 hd hk
 rw [h2,J7 h1] at h
 refine BL (.inr (.inr (.inl ?_)))
 have:=Md (t:=tOf (AE s) s) (k:=k+1)
 omega
theorem L6 {t:ByteArray} {k:Nat} (hd:Ap t=true) (hk:k<t.size)
  (h:IntKind.i64.wrap (Int.tdiv (IntKind.i64.wrap ((-9223372036854775808:Int)+(IntKind.i64.wrap ((IntKind.i64.wrap ((t.get! k).toNat:Int))-48)))) 10)<=-((dvF 0 (t.data.toList.take k):Nat):Int)) :
  dvF 0 (t.data.toList.take (k+1))<=9223372036854775808/\IntKind.i64.wrap ((IntKind.i64.wrap ((-((dvF 0 (t.data.toList.take k):Nat):Int))*10))-(IntKind.i64.wrap ((IntKind.i64.wrap ((t.get! k).toNat:Int))-48)))=-((dvF 0 (t.data.toList.take (k+1)):Nat):Int):=by
 obtain ⟨d,h1,h2,h3⟩:=L5 hd hk
 rw [h2,J7 h1] at h
 refine ⟨by omega,?_⟩
 rw [h2,AS (x:=-((dvF 0 (t.data.toList.take k):Nat):Int)*10) (by omega) (by omega),AS (by omega) (by omega)];omega
theorem Ha {s:ByteArray} {k:Nat} (hn:AE s=true) (hk:¬ k<(tOf (AE s) s).size) (hb:dvF 0 ((tOf (AE s) s).data.toList.take k)<=9223372036854775808) :
  nOf s=-((dvF 0 ((tOf (AE s) s).data.toList.take k):Nat):Int)/\GI (nOf s):=by
 have e:(tOf (AE s) s).data.toList.take k=(tOf (AE s) s).data.toList:=List.take_of_length_le (by show (tOf (AE s) s).size<=k;omega)
 rw [e] at hb ⊢
 have e2:nOf s=-((dvF 0 (tOf (AE s) s).data.toList:Nat):Int):=if_pos hn
 refine ⟨e2,?_⟩
 rw [e2];unfold GI;omega
theorem Hb {s:ByteArray} {k:Nat} (hn:AE s=false) (hk:¬ k<(tOf (AE s) s).size) (hb:dvF 0 ((tOf (AE s) s).data.toList.take k)<=9223372036854775808) :
  (-((dvF 0 ((tOf (AE s) s).data.toList.take k):Nat):Int)=-9223372036854775808->AK s=none)/\(¬ -((dvF 0 ((tOf (AE s) s).data.toList.take k):Nat):Int)=-9223372036854775808 ->
  IntKind.i64.wrap (0-(-((dvF 0 ((tOf (AE s) s).data.toList.take k):Nat):Int)))=nOf s/\GI (nOf s)):=by
 have e:(tOf (AE s) s).data.toList.take k=(tOf (AE s) s).data.toList:=List.take_of_length_le (by show (tOf (AE s) s).size<=k;omega)
 rw [e] at hb ⊢
 have e2:nOf s=((dvF 0 (tOf (AE s) s).data.toList:Nat):Int):=if_neg (by rw [hn];simp)
 refine ⟨λ h=>BL (.inr (.inr (.inr ⟨hn,by omega⟩))),λ h=>?_⟩
 rw [e2,AS (by omega) (by omega)]
 unfold GI;omega
theorem Er {a b:ByteArray} (h:¬ a.toList=b.toList):a≠b:=λ e=>h (by rw [e])
theorem Es {a b:ByteArray} (h:a.toList=b.toList):a=b:=by
 rw [ByteArray.toList_eq,ByteArray.toList_eq] at h;exact bx h
def BZ:Con:={ ι:=ByteArray,pre:=λ i=>i.size<=1073741824,args:=λ i=>[.one (.im (.string i))],res:=λ i=>⟨true,[none,none],[rcI ((AK i).getD 0),rcB ((AK i).isSome)]⟩ }
set_option maxHeartbeats 1600000 in
theorem L7:BZ.Ok Tryd.prog 16:=by
 refine fok (X:=⟨tt,[(28,BM),(29,AI)],[],60,[]⟩) mixed DJ (CTok.cons Mc (CTok.cons Fv (CTok.nil _))) Tryd.func16 (λ (i:ByteArray)=>let Z1:=tOf (AE i) i;[(9,.mk 1 (Nat) (λ x1=>{ tm:=[(0,.one (.one (.im (Value.string i)))),(4,tB (AE i)),(5,.one (.one (.im (Value.string Z1)))),(6,tI (-(nI (dvF 0 (Z1.data.toList.take x1))))),(7,tI (x1:Int))],en:=[] }) (λ x1=>x1<=Z1.size/\dvF 0 (Z1.data.toList.take x1)<=9223372036854775808) (λ x1=>Z1.size-x1) (λ _=>[]))]) ?_
 intro (s:ByteArray) hpre
 have hpre:s.size<=1073741824:=hpre
 refine DI (q:=let Z28:=(!(AE s));let Z27:=vB (AE s);let Z17:=(10:Int)≠0;let Z15:=(s.size:Int);let Z14:=s.extract 1 s.size;let Z13:=(decide ((nI s.size)>(19:Int)));let Z9:=((s.get! 0).toNat:Int) == (45:Int);let Z8:=(AK s).getD 0;let Z7:=Value.string s;let Z6:=vB true=vB ((AK s).isSome);let Z2:=tOf (AE s) s;let Z25:=nI (Z2.size);let Z24:=(Z2.size:Int);let Z18:=Value.string Z2;let Z16:=Value.string s=Value.string Z2;let Z1:=(vI (0:Int)=vI Z8)/\(vB false=vB ((AK s).isSome));ifB ((decide ((nI s.size)>(0:Int)))) ((0<=(0:Int)/\(0:Int)<Z15)/\(ifB (Z9) ((0<=(1:Int))/\(((1:Int)<=Z15)/\((Z15<=Z15)/\(∃ i1:ByteArray,[DA.one (DC.im (Value.string Z14))]=BM.args i1/\BM.pre i1/\(ifB ((!(!(Ap i1)))) (ifB ((decide ((nI (Z14.size))>(19:Int)))) Z1 ((∃ x1:Nat,let Z19:=Z2.data.toList.take x1;(x1<=Z2.size/\dvF 0 Z19<=9223372036854775808)/\((rf Z7)/\(vB Z9=vB (AE s))/\(Value.string Z14=Value.string Z2)/\(vI (0:Int)=vI (-(nI (dvF 0 Z19))))/\(vI (0:Int)=vI (x1:Int))))/\∀ x1:Nat,let Z20:=Z2.data.toList.take x1;let Z10:=wR ((wR ((Z2.get! x1).toNat:Int))-(48:Int));let Z3:=-(nI (dvF 0 Z20));(x1<=Z2.size/\dvF 0 Z20<=9223372036854775808)->(ifB ((decide ((x1:Int)<Z25))) ((0<=(x1:Int)/\(x1:Int)<Z24)/\(Z17/\(ifB ((decide (Z3<(wR (Int.tdiv (wR ((-9223372036854775808:Int)+Z10)) (10:Int)))))) Z1 (∃ y2:Nat,let Z26:=Z2.data.toList.take y2;(y2<=Z2.size/\dvF 0 Z26<=9223372036854775808)/\(Z2.size-y2<Z2.size-x1)/\((rf Z7)/\(rf Z27)/\(rf Z18)/\(vI (wR ((wR (Z3*(10:Int)))-Z10))=vI (-(nI (dvF 0 Z26))))/\(vI (wR ((x1:Int)+(1:Int)))=vI (y2:Int))))))) (ifB Z28 (ifB ((Z3 == (-9223372036854775808:Int))) Z1 (∃ i2:Int,[DA.one (cI (wR (0-Z3)))]=AI.args i2/\AI.pre i2/\(ifB ((!((AJ i2).toList == s.toList))) Z1 ((vI (wR (0-Z3))=vI Z8)/\Z6)))) (∃ i3:Int,[DA.one (cI Z3)]=AI.args i3/\AI.pre i3/\(ifB ((!((AJ i3).toList == s.toList))) Z1 ((vI Z3=vI Z8)/\Z6))))))) Z1))))) (∃ i4:ByteArray,[DA.one (DC.im Z7)]=BM.args i4/\BM.pre i4/\(ifB ((!(!(Ap i4)))) (ifB Z13 Z1 ((∃ x1:Nat,let Z21:=Z2.data.toList.take x1;(x1<=Z2.size/\dvF 0 Z21<=9223372036854775808)/\((rf Z7)/\(vB Z9=vB (AE s))/\Z16/\(vI (0:Int)=vI (-(nI (dvF 0 Z21))))/\(vI (0:Int)=vI (x1:Int))))/\∀ x1:Nat,let Z22:=Z2.data.toList.take x1;let Z11:=wR ((wR ((Z2.get! x1).toNat:Int))-(48:Int));let Z4:=-(nI (dvF 0 Z22));(x1<=Z2.size/\dvF 0 Z22<=9223372036854775808)->(ifB ((decide ((x1:Int)<Z25))) ((0<=(x1:Int)/\(x1:Int)<Z24)/\(Z17/\(ifB ((decide (Z4<(wR (Int.tdiv (wR ((-9223372036854775808:Int)+Z11)) (10:Int)))))) Z1 (∃ y4:Nat,let Z29:=Z2.data.toList.take y4;(y4<=Z2.size/\dvF 0 Z29<=9223372036854775808)/\(Z2.size-y4<Z2.size-x1)/\((rf Z7)/\(rf Z27)/\(rf Z18)/\(vI (wR ((wR (Z4*(10:Int)))-Z11))=vI (-(nI (dvF 0 Z29))))/\(vI (wR ((x1:Int)+(1:Int)))=vI (y4:Int))))))) (ifB Z28 (ifB ((Z4 == (-9223372036854775808:Int))) Z1 (∃ i5:Int,[DA.one (cI (wR (0-Z4)))]=AI.args i5/\AI.pre i5/\(ifB ((!((AJ i5).toList == s.toList))) Z1 ((vI (wR (0-Z4))=vI Z8)/\Z6)))) (∃ i6:Int,[DA.one (cI Z4)]=AI.args i6/\AI.pre i6/\(ifB ((!((AJ i6).toList == s.toList))) Z1 ((vI Z4=vI Z8)/\Z6))))))) Z1)))) (∃ i7:ByteArray,[DA.one (DC.im Z7)]=BM.args i7/\BM.pre i7/\(ifB ((!(!(Ap i7)))) (ifB Z13 Z1 ((∃ x1:Nat,let Z23:=Z2.data.toList.take x1;(x1<=Z2.size/\dvF 0 Z23<=9223372036854775808)/\((rf Z7)/\(vB false=vB (AE s))/\Z16/\(vI (0:Int)=vI (-(nI (dvF 0 Z23))))/\(vI (0:Int)=vI (x1:Int))))/\∀ x1:Nat,let Z30:=Z2.data.toList.take x1;let Z12:=wR ((wR ((Z2.get! x1).toNat:Int))-(48:Int));let Z5:=-(nI (dvF 0 Z30));(x1<=Z2.size/\dvF 0 Z30<=9223372036854775808)->(ifB ((decide ((x1:Int)<Z25))) ((0<=(x1:Int)/\(x1:Int)<Z24)/\(Z17/\(ifB ((decide (Z5<(wR (Int.tdiv (wR ((-9223372036854775808:Int)+Z12)) (10:Int)))))) Z1 (∃ y6:Nat,let Z31:=Z2.data.toList.take y6;(y6<=Z2.size/\dvF 0 Z31<=9223372036854775808)/\(Z2.size-y6<Z2.size-x1)/\((rf Z7)/\(rf Z27)/\(rf Z18)/\(vI (wR ((wR (Z5*(10:Int)))-Z12))=vI (-(nI (dvF 0 Z31))))/\(vI (wR ((x1:Int)+(1:Int)))=vI (y6:Int))))))) (ifB Z28 (ifB ((Z5 == (-9223372036854775808:Int))) Z1 (∃ i8:Int,[DA.one (cI (wR (0-Z5)))]=AI.args i8/\AI.pre i8/\(ifB ((!((AJ i8).toList == s.toList))) Z1 ((vI (wR (0-Z5))=vI Z8)/\Z6)))) (∃ i9:Int,[DA.one (cI Z5)]=AI.args i9/\AI.pre i9/\(ifB ((!((AJ i9).toList == s.toList))) Z1 ((vI Z5=vI Z8)/\Z6))))))) Z1))) (by kernel_rfl) ?_
 conv=>zeta
 delta ifB vB vI wR nI
 refine And.symm ⟨λ c1=>?_,λ c1=>?_⟩
 ·try simp only [nrm] at c1
  obtain ⟨hn,ht⟩:=Nc c1
  refine ⟨s,by
   rfl,by
   show s.size<=1073741824
   first|exact hpre|(rw [ByteArray.size_extract];omega)|(rw [hv];exact h64)|(rw [← hv];exact h64),?_⟩
  refine And.symm ⟨λ c110=>?_,λ c110=>?_⟩
  ·try simp only [nrm] at c110
   have hno:AK s=none:=BL (.inl (by rw [ht];assumption))
   refine ⟨?_,?_⟩
   ·first|(rw [hno];rfl)|(rw [hyes,hv];rfl)|(rw [hyes];rfl)
   first|(rw [hno];rfl)|(rw [hyes,hv];rfl)|(rw [hyes];rfl)
  try simp only [nrm] at c110
  refine ⟨λ c111=>?_,λ c111=>?_⟩
  ·try simp only [nrm] at c111
   have hno:AK s=none:=BL (.inr (.inl (by rw [ht];omega)))
   refine ⟨?_,?_⟩
   ·first|(rw [hno];rfl)|(rw [hyes,hv];rfl)|(rw [hyes];rfl)
   first|(rw [hno];rfl)|(rw [hyes,hv];rfl)|(rw [hyes];rfl)
  try simp only [nrm] at c111
  have hd:Ap (tOf (AE s) s)=true:=by rw [ht];assumption
  have hz:(tOf (AE s) s).size<=19:=by rw [ht];omega
  refine ⟨⟨0,by
   exact ⟨Nat.zero_le _,by rw [List.take_zero];show 0<=_;omega⟩,?_⟩,?_⟩
  ·refine ⟨rfl,?_,?_,?_,rfl⟩
   ·first|exact congrArg Value.string ht.symm|exact congrArg Value.bool hn.symm|(rw [hn];simp [c3];done)|(simp [dvF];done)
   ·first|exact congrArg Value.string ht.symm|exact congrArg Value.bool hn.symm|(rw [hn];simp [c3];done)|(simp [dvF];done)
   first|exact congrArg Value.string ht.symm|exact congrArg Value.bool hn.symm|(rw [hn];simp [c3];done)|(simp [dvF];done)
  intro (k:Nat) hki114
  have hki114:k<=(tOf (AE s) s).size/\dvF 0 ((tOf (AE s) s).data.toList.take k)<=9223372036854775808:=hki114
  refine ⟨λ c121=>?_,λ c121=>?_⟩
  ·try simp only [nrm] at c121
   refine ao (by first|rfl|omega|(simp;done)|(simp;omega)) λ o122=>?_
   refine ao (by first|rfl|omega|(simp;done)|(simp;omega)) λ o123=>?_
   refine ⟨λ c124=>?_,λ c124=>?_⟩
   ·try dsimp only at c124
    try simp only [nrm] at c124
    have hno:AK s=none:=JY hd (by omega) c124
    refine ⟨?_,?_⟩
    ·first|(rw [hno];rfl)|(rw [hyes,hv];rfl)|(rw [hyes];rfl)
    first|(rw [hno];rfl)|(rw [hyes,hv];rfl)|(rw [hyes];rfl)
   try dsimp only at c124
   try simp only [nrm] at c124
   obtain ⟨hb,hv⟩:=L6 hd (by omega) c124
   refine ⟨k+1,by
    exact ⟨by omega,hb⟩,by
    first|omega|(simp;omega),?_⟩
   refine ⟨rfl,rfl,rfl,?_,?_⟩
   ·rw [hv]
   exact B7 (AS (by omega) (by omega))
  try simp only [nrm] at c121
  refine And.symm ⟨λ c135=>?_,λ c135=>?_⟩
  ·try simp only [nrm] at c135
   obtain ⟨hv,h64⟩:=Ha c135 (by omega) hki114.2
   refine ⟨(-((dvF 0 ((tOf (AE s) s).data.toList.take k):Nat):Int)),by
    rfl,by
    show -9223372036854775808<=(-((dvF 0 ((tOf (AE s) s).data.toList.take k):Nat):Int))/\(-((dvF 0 ((tOf (AE s) s).data.toList.take k):Nat):Int))<=9223372036854775807
    first|exact hpre|(rw [ByteArray.size_extract];omega)|(rw [hv];exact h64)|(rw [← hv];exact h64),?_⟩
   refine ⟨λ c150=>?_,λ c150=>?_⟩
   ·try simp only [nrm] at c150
    have hno:AK s=none:=C8 (Er (by rw [hv];exact c150))
    refine ⟨?_,?_⟩
    ·first|(rw [hno];rfl)|(rw [hyes,hv];rfl)|(rw [hyes];rfl)
    first|(rw [hno];rfl)|(rw [hyes,hv];rfl)|(rw [hyes];rfl)
   try simp only [nrm] at c150
   have hyes:AK s=some (nOf s):=CJ (Es (by rw [hv];exact c150)) h64
   refine ⟨?_,?_⟩
   ·first|(rw [hno];rfl)|(rw [hyes,hv];rfl)|(rw [hyes];rfl)
   first|(rw [hno];rfl)|(rw [hyes,hv];rfl)|(rw [hyes];rfl)
  try simp only [nrm] at c135
  obtain ⟨hv1,hv2⟩:=Hb c135 (by omega) hki114.2
  refine ⟨λ c136=>?_,λ c136=>?_⟩
  ·try simp only [nrm] at c136
   have hno:=hv1 c136
   refine ⟨?_,?_⟩
   ·first|(rw [hno];rfl)|(rw [hyes,hv];rfl)|(rw [hyes];rfl)
   first|(rw [hno];rfl)|(rw [hyes,hv];rfl)|(rw [hyes];rfl)
  try simp only [nrm] at c136
  obtain ⟨hv,h64⟩:=hv2 c136
  refine ⟨(IntKind.i64.wrap (0-(-((dvF 0 ((tOf (AE s) s).data.toList.take k):Nat):Int)))),by
   rfl,by
   try dsimp only [AI]
   first|exact hpre|(rw [ByteArray.size_extract];omega)|(rw [hv];exact h64)|(rw [← hv];exact h64),?_⟩
  refine ⟨λ c142=>?_,λ c142=>?_⟩
  ·try simp only [nrm] at c142
   have hno:AK s=none:=C8 (Er (by rw [← hv];exact c142))
   refine ⟨?_,?_⟩
   ·first|(rw [hno];rfl)|(rw [hyes,hv];rfl)|(rw [hyes];rfl)
   first|(rw [hno];rfl)|(rw [hyes,hv];rfl)|(rw [hyes];rfl)
  try simp only [nrm] at c142
  have hyes:AK s=some (nOf s):=CJ (Es (by rw [← hv];exact c142)) h64
  refine ⟨?_,?_⟩
  ·first|(rw [hno];rfl)|(rw [hyes,hv];rfl)|(rw [hyes];rfl)
  first|(rw [hno];rfl)|(rw [hyes,hv];rfl)|(rw [hyes];rfl)
 try simp only [nrm] at c1
 refine ao (by first|rfl|omega|(simp;done)|(simp;omega)) λ o2=>?_
 refine And.symm ⟨λ c3=>?_,λ c3=>?_⟩
 ·try simp only [nrm] at c3
  obtain ⟨hn,ht⟩:=Nd c3
  refine ⟨s,by
   rfl,by
   show s.size<=1073741824
   first|exact hpre|(rw [ByteArray.size_extract];omega)|(rw [hv];exact h64)|(rw [← hv];exact h64),?_⟩
  refine And.symm ⟨λ c60=>?_,λ c60=>?_⟩
  ·try simp only [nrm] at c60
   have hno:AK s=none:=BL (.inl (by rw [ht];assumption))
   refine ⟨?_,?_⟩
   ·first|(rw [hno];rfl)|(rw [hyes,hv];rfl)|(rw [hyes];rfl)
   first|(rw [hno];rfl)|(rw [hyes,hv];rfl)|(rw [hyes];rfl)
  try simp only [nrm] at c60
  refine ⟨λ c61=>?_,λ c61=>?_⟩
  ·try simp only [nrm] at c61
   have hno:AK s=none:=BL (.inr (.inl (by rw [ht];omega)))
   refine ⟨?_,?_⟩
   ·first|(rw [hno];rfl)|(rw [hyes,hv];rfl)|(rw [hyes];rfl)
   first|(rw [hno];rfl)|(rw [hyes,hv];rfl)|(rw [hyes];rfl)
  try simp only [nrm] at c61
  have hd:Ap (tOf (AE s) s)=true:=by rw [ht];assumption
  have hz:(tOf (AE s) s).size<=19:=by rw [ht];omega
  refine ⟨⟨0,by
   exact ⟨Nat.zero_le _,by rw [List.take_zero];show 0<=_;omega⟩,?_⟩,?_⟩
  ·refine ⟨rfl,?_,?_,?_,rfl⟩
   ·first|exact congrArg Value.string ht.symm|exact congrArg Value.bool hn.symm|(rw [hn];simp [c3];done)|(simp [dvF];done)
   ·first|exact congrArg Value.string ht.symm|exact congrArg Value.bool hn.symm|(rw [hn];simp [c3];done)|(simp [dvF];done)
   first|exact congrArg Value.string ht.symm|exact congrArg Value.bool hn.symm|(rw [hn];simp [c3];done)|(simp [dvF];done)
  intro (k:Nat) hki64
  have hki64:k<=(tOf (AE s) s).size/\dvF 0 ((tOf (AE s) s).data.toList.take k)<=9223372036854775808:=hki64
  refine ⟨λ c71=>?_,λ c71=>?_⟩
  ·try simp only [nrm] at c71
   refine ao (by first|rfl|omega|(simp;done)|(simp;omega)) λ o72=>?_
   refine ao (by first|rfl|omega|(simp;done)|(simp;omega)) λ o73=>?_
   refine ⟨λ c74=>?_,λ c74=>?_⟩
   ·try dsimp only at c74
    try simp only [nrm] at c74
    have hno:AK s=none:=JY hd (by omega) c74
    refine ⟨?_,?_⟩
    ·first|(rw [hno];rfl)|(rw [hyes,hv];rfl)|(rw [hyes];rfl)
    first|(rw [hno];rfl)|(rw [hyes,hv];rfl)|(rw [hyes];rfl)
   try dsimp only at c74
   try simp only [nrm] at c74
   obtain ⟨hb,hv⟩:=L6 hd (by omega) c74
   refine ⟨k+1,by
    exact ⟨by omega,hb⟩,by
    first|omega|(simp;omega),?_⟩
   refine ⟨rfl,rfl,rfl,?_,?_⟩
   ·rw [hv]
   exact B7 (AS (by omega) (by omega))
  try simp only [nrm] at c71
  refine And.symm ⟨λ c85=>?_,λ c85=>?_⟩
  ·try simp only [nrm] at c85
   obtain ⟨hv,h64⟩:=Ha c85 (by omega) hki64.2
   refine ⟨(-((dvF 0 ((tOf (AE s) s).data.toList.take k):Nat):Int)),by
    rfl,by
    show -9223372036854775808<=(-((dvF 0 ((tOf (AE s) s).data.toList.take k):Nat):Int))/\(-((dvF 0 ((tOf (AE s) s).data.toList.take k):Nat):Int))<=9223372036854775807
    first|exact hpre|(rw [ByteArray.size_extract];omega)|(rw [hv];exact h64)|(rw [← hv];exact h64),?_⟩
   refine ⟨λ c100=>?_,λ c100=>?_⟩
   ·try simp only [nrm] at c100
    have hno:AK s=none:=C8 (Er (by rw [hv];exact c100))
    refine ⟨?_,?_⟩
    ·first|(rw [hno];rfl)|(rw [hyes,hv];rfl)|(rw [hyes];rfl)
    first|(rw [hno];rfl)|(rw [hyes,hv];rfl)|(rw [hyes];rfl)
   try simp only [nrm] at c100
   have hyes:AK s=some (nOf s):=CJ (Es (by rw [hv];exact c100)) h64
   refine ⟨?_,?_⟩
   ·first|(rw [hno];rfl)|(rw [hyes,hv];rfl)|(rw [hyes];rfl)
   first|(rw [hno];rfl)|(rw [hyes,hv];rfl)|(rw [hyes];rfl)
  try simp only [nrm] at c85
  obtain ⟨hv1,hv2⟩:=Hb c85 (by omega) hki64.2
  refine ⟨λ c86=>?_,λ c86=>?_⟩
  ·try simp only [nrm] at c86
   have hno:=hv1 c86
   refine ⟨?_,?_⟩
   ·first|(rw [hno];rfl)|(rw [hyes,hv];rfl)|(rw [hyes];rfl)
   first|(rw [hno];rfl)|(rw [hyes,hv];rfl)|(rw [hyes];rfl)
  try simp only [nrm] at c86
  obtain ⟨hv,h64⟩:=hv2 c86
  refine ⟨(IntKind.i64.wrap (0-(-((dvF 0 ((tOf (AE s) s).data.toList.take k):Nat):Int)))),by
   rfl,by
   try dsimp only [AI]
   first|exact hpre|(rw [ByteArray.size_extract];omega)|(rw [hv];exact h64)|(rw [← hv];exact h64),?_⟩
  refine ⟨λ c92=>?_,λ c92=>?_⟩
  ·try simp only [nrm] at c92
   have hno:AK s=none:=C8 (Er (by rw [← hv];exact c92))
   refine ⟨?_,?_⟩
   ·first|(rw [hno];rfl)|(rw [hyes,hv];rfl)|(rw [hyes];rfl)
   first|(rw [hno];rfl)|(rw [hyes,hv];rfl)|(rw [hyes];rfl)
  try simp only [nrm] at c92
  have hyes:AK s=some (nOf s):=CJ (Es (by rw [← hv];exact c92)) h64
  refine ⟨?_,?_⟩
  ·first|(rw [hno];rfl)|(rw [hyes,hv];rfl)|(rw [hyes];rfl)
  first|(rw [hno];rfl)|(rw [hyes,hv];rfl)|(rw [hyes];rfl)
 try simp only [nrm] at c3
 obtain ⟨hn,ht⟩:=Ne c1 c3
 refine ao (by first|rfl|omega|(simp;done)|(simp;omega)) λ o4=>?_
 refine ao (by first|rfl|omega|(simp;done)|(simp;omega)) λ o5=>?_
 refine ao (by first|rfl|omega|(simp;done)|(simp;omega)) λ o6=>?_
 refine ⟨(s.extract 1 s.size),by
  rfl,by
  show (s.extract 1 s.size).size<=1073741824
  first|exact hpre|(rw [ByteArray.size_extract];omega)|(rw [hv];exact h64)|(rw [← hv];exact h64),?_⟩
 refine And.symm ⟨λ c10=>?_,λ c10=>?_⟩
 ·try simp only [nrm] at c10
  have hno:AK s=none:=BL (.inl (by rw [ht];assumption))
  refine ⟨?_,?_⟩
  ·first|(rw [hno];rfl)|(rw [hyes,hv];rfl)|(rw [hyes];rfl)
  first|(rw [hno];rfl)|(rw [hyes,hv];rfl)|(rw [hyes];rfl)
 try simp only [nrm] at c10
 refine ⟨λ c11=>?_,λ c11=>?_⟩
 ·try simp only [nrm] at c11
  have hno:AK s=none:=BL (.inr (.inl (by rw [ht];omega)))
  refine ⟨?_,?_⟩
  ·first|(rw [hno];rfl)|(rw [hyes,hv];rfl)|(rw [hyes];rfl)
  first|(rw [hno];rfl)|(rw [hyes,hv];rfl)|(rw [hyes];rfl)
 try simp only [nrm] at c11
 have hd:Ap (tOf (AE s) s)=true:=by rw [ht];assumption
 have hz:(tOf (AE s) s).size<=19:=by rw [ht];omega
 refine ⟨⟨0,by
  exact ⟨Nat.zero_le _,by rw [List.take_zero];show 0<=_;omega⟩,?_⟩,?_⟩
 ·refine ⟨rfl,?_,?_,?_,rfl⟩
  ·first|exact congrArg Value.string ht.symm|exact congrArg Value.bool hn.symm|(rw [hn];simp [c3];done)|(simp [dvF];done)
  ·first|exact congrArg Value.string ht.symm|exact congrArg Value.bool hn.symm|(rw [hn];simp [c3];done)|(simp [dvF];done)
  first|exact congrArg Value.string ht.symm|exact congrArg Value.bool hn.symm|(rw [hn];simp [c3];done)|(simp [dvF];done)
 intro (k:Nat) hki14
 have hki14:k<=(tOf (AE s) s).size/\dvF 0 ((tOf (AE s) s).data.toList.take k)<=9223372036854775808:=hki14
 refine ⟨λ c21=>?_,λ c21=>?_⟩
 ·try simp only [nrm] at c21
  refine ao (by first|rfl|omega|(simp;done)|(simp;omega)) λ o22=>?_
  refine ao (by first|rfl|omega|(simp;done)|(simp;omega)) λ o23=>?_
  refine ⟨λ c24=>?_,λ c24=>?_⟩
  ·try dsimp only at c24
   try simp only [nrm] at c24
   have hno:AK s=none:=JY hd (by omega) c24
   refine ⟨?_,?_⟩
   ·first|(rw [hno];rfl)|(rw [hyes,hv];rfl)|(rw [hyes];rfl)
   first|(rw [hno];rfl)|(rw [hyes,hv];rfl)|(rw [hyes];rfl)
  try dsimp only at c24
  try simp only [nrm] at c24
  obtain ⟨hb,hv⟩:=L6 hd (by omega) c24
  refine ⟨k+1,by
   exact ⟨by omega,hb⟩,by
   first|omega|(simp;omega),?_⟩
  refine ⟨rfl,rfl,rfl,?_,?_⟩
  ·rw [hv]
  exact B7 (AS (by omega) (by omega))
 try simp only [nrm] at c21
 refine And.symm ⟨λ c35=>?_,λ c35=>?_⟩
 ·try simp only [nrm] at c35
  obtain ⟨hv,h64⟩:=Ha c35 (by omega) hki14.2
  refine ⟨(-((dvF 0 ((tOf (AE s) s).data.toList.take k):Nat):Int)),by
   rfl,by
   show -9223372036854775808<=(-((dvF 0 ((tOf (AE s) s).data.toList.take k):Nat):Int))/\(-((dvF 0 ((tOf (AE s) s).data.toList.take k):Nat):Int))<=9223372036854775807
   first|exact hpre|(rw [ByteArray.size_extract];omega)|(rw [hv];exact h64)|(rw [← hv];exact h64),?_⟩
  refine ⟨λ c50=>?_,λ c50=>?_⟩
  ·try simp only [nrm] at c50
   have hno:AK s=none:=C8 (Er (by rw [hv];exact c50))
   refine ⟨?_,?_⟩
   ·first|(rw [hno];rfl)|(rw [hyes,hv];rfl)|(rw [hyes];rfl)
   first|(rw [hno];rfl)|(rw [hyes,hv];rfl)|(rw [hyes];rfl)
  try simp only [nrm] at c50
  have hyes:AK s=some (nOf s):=CJ (Es (by rw [hv];exact c50)) h64
  refine ⟨?_,?_⟩
  ·first|(rw [hno];rfl)|(rw [hyes,hv];rfl)|(rw [hyes];rfl)
  first|(rw [hno];rfl)|(rw [hyes,hv];rfl)|(rw [hyes];rfl)
 try simp only [nrm] at c35
 obtain ⟨hv1,hv2⟩:=Hb c35 (by omega) hki14.2
 refine ⟨λ c36=>?_,λ c36=>?_⟩
 ·try simp only [nrm] at c36
  have hno:=hv1 c36
  refine ⟨?_,?_⟩
  ·first|(rw [hno];rfl)|(rw [hyes,hv];rfl)|(rw [hyes];rfl)
  first|(rw [hno];rfl)|(rw [hyes,hv];rfl)|(rw [hyes];rfl)
 try simp only [nrm] at c36
 obtain ⟨hv,h64⟩:=hv2 c36
 refine ⟨(IntKind.i64.wrap (0-(-((dvF 0 ((tOf (AE s) s).data.toList.take k):Nat):Int)))),by
  rfl,by
  try dsimp only [AI]
  first|exact hpre|(rw [ByteArray.size_extract];omega)|(rw [hv];exact h64)|(rw [← hv];exact h64),?_⟩
 refine ⟨λ c42=>?_,λ c42=>?_⟩
 ·try simp only [nrm] at c42
  have hno:AK s=none:=C8 (Er (by rw [← hv];exact c42))
  refine ⟨?_,?_⟩
  ·first|(rw [hno];rfl)|(rw [hyes,hv];rfl)|(rw [hyes];rfl)
  first|(rw [hno];rfl)|(rw [hyes,hv];rfl)|(rw [hyes];rfl)
 try simp only [nrm] at c42
 have hyes:AK s=some (nOf s):=CJ (Es (by rw [← hv];exact c42)) h64
 refine ⟨?_,?_⟩
 ·first|(rw [hno];rfl)|(rw [hyes,hv];rfl)|(rw [hyes];rfl)
 first|(rw [hno];rfl)|(rw [hyes,hv];rfl)|(rw [hyes];rfl)
theorem E8 (c:UInt8) (s:ByteArray):wo c s 0=[]/\wf c s 0=0:=by
 have e:BA c (s.data.toList.take 0)=([],[]):=rfl
 unfold wf F3 wo;rw [e];exact ⟨rfl,rfl⟩
theorem M9 {c:UInt8} {s:ByteArray} {i:Nat} (hi:i<s.size) (h:((s.get! i).toNat:Int)=(((⟨#[c]⟩:ByteArray).get! 0).toNat:Int)):wo c s (i+1)=wo c s i++[s.extract (wf c s i) i]/\wf c s (i+1)=i+1:=by
 refine Lv hi ?_
 rw [← UInt8.toNat_inj]
 have h2:((⟨#[c]⟩:ByteArray).get! 0).toNat=c.toNat:=rfl
 omega
theorem Me {c:UInt8} {s:ByteArray} {i:Nat} (hi:i<s.size) (h:¬ ((s.get! i).toNat:Int)=(((⟨#[c]⟩:ByteArray).get! 0).toNat:Int)):s.get! i≠c:=λ e=>h (by rw [e];rfl)
theorem Ay (l:List ByteArray) (x:ByteArray):AR l++[[Dat.str x]]=AR (l++[x]):=by rw [HT];rfl
def Bo:Con:={ ι:=ByteArray×UInt8,pre:=λ i=>i.1.size<=1073741824,args:=λ i=>[.one (.im (.string i.1)),.one (.im (.string (⟨#[i.2]⟩:ByteArray)))],res:=λ i=>⟨false,[none],[.own 9 [.str] (AR (AB i.2 i.1))]⟩ }
theorem J8:Bo.Ok Tryd.prog 9:=by
 refine fok (X:=⟨tt,[],[],44,[]⟩) mixed DJ (CTok.nil _) Tryd.func9 (λ (i:ByteArray×UInt8)=>let Z1:=Value.string (⟨#[i.2]⟩:ByteArray);[(4,.mk 2 (Nat) (λ x1=>{ tm:=[(0,.one (.one (.im (Value.string i.1)))),(1,.one (.one (.im Z1))),(7,tI (x1:Int)),(6,tI (nI (wf i.2 i.1 x1))),(5,tX 1)],en:=[(1,.own 9 [.str] (AR (wo i.2 i.1 x1)))] }) (λ x1=>x1<=i.1.size) (λ x1=>i.1.size-x1) (λ x1=>[(7,.mk 2 (Nat) (λ x2=>{ tm:=[(0,.one (.one (.im (Value.string i.1)))),(1,.one (.one (.im Z1))),(7,tI (x1:Int)),(6,tI (nI (wf i.2 i.1 x1))),(5,tX 1),(8,tI (x2:Int))],en:=[(1,.own 9 [.str] (AR (wo i.2 i.1 x1)))] }) (λ x2=>x2<=1/\(x2=1->i.1.get! x1≠i.2)) (λ x2=>1-x2) (λ _=>[]))]))]) ?_
 rintro ⟨s,c⟩ hpre
 have hpre:s.size<=1073741824:=hpre
 refine DI (q:=let Z8:=List Dat;let Z6:=(s.size:Int);let Z5:=Value.string s;let Z1:=Value.string (⟨#[c]⟩:ByteArray);(∃ x1:Nat,(x1<=s.size)/\((rf Z5)/\(rf Z1)/\(vI (0:Int)=vI (x1:Int))/\(vI (0:Int)=vI (nI (wf c s x1)))/\(([]:List Z8)=(AR (wo c s x1)))))/\∀ x1:Nat,let Z7:=wf c s x1;let Z4:=wR ((x1:Int)+(1:Int));let Z3:=nI Z7;let Z2:=AR (wo c s x1);(x1<=s.size)->(ifB ((decide ((x1:Int)<(nI s.size)))) ((∃ x2:Nat,(x2<=1/\(x2=1->s.get! x1≠c))/\((rf Z5)/\(rf Z1)/\(rf (vI (x1:Int)))/\(rf (vI Z3))/\(vI (0:Int)=vI (x2:Int))/\(rf Z2)))/\∀ x2:Nat,(x2<=1/\(x2=1->s.get! x1≠c))->(ifB ((decide ((x2:Int)<(nI ((⟨#[c]⟩:ByteArray).size))))) ((0<=(x1:Int)/\(x1:Int)<Z6)/\((0<=(x2:Int)/\(x2:Int)<((⟨#[c]⟩:ByteArray).size:Int))/\(ifB ((((s.get! x1).toNat:Int) == (((⟨#[c]⟩:ByteArray).get! x2).toNat:Int))) ((0<=Z3)/\((Z3<=(x1:Int))/\(((x1:Int)<=Z6)/\((Z2.length+([[Dat.str (s.extract Z7 x1)]]:List Z8).length<=2199023255552)/\(∃ y3:Nat,(y3<=s.size)/\(s.size-y3<s.size-x1)/\((rf Z5)/\(rf Z1)/\(vI Z4=vI (y3:Int))/\(vI Z4=vI (nI (wf c s y3)))/\((Z2++([[Dat.str (s.extract Z7 x1)]]:List Z8))=(AR (wo c s y3))))))))) (∃ y4:Nat,(y4<=1/\(y4=1->s.get! x1≠c))/\(1-y4<1-x2)/\((rf Z5)/\(rf Z1)/\(rf (vI (x1:Int)))/\(rf (vI Z3))/\(vI (wR ((x2:Int)+(1:Int)))=vI (y4:Int))/\(rf Z2)))))) (∃ y5:Nat,(y5<=s.size)/\(s.size-y5<s.size-x1)/\((rf Z5)/\(rf Z1)/\(vI Z4=vI (y5:Int))/\(vI Z3=vI (nI (wf c s y5)))/\(Z2=(AR (wo c s y5))))))) ((0<=Z3)/\((Z3<=Z6)/\((Z6<=Z6)/\((Z2.length+([[Dat.str (s.extract Z7 s.size)]]:List Z8).length<=2199023255552)/\(((Z2++([[Dat.str (s.extract Z7 s.size)]]:List Z8))=AR (AB c s))))))))) (by kernel_rfl) ?_
 conv=>zeta
 delta ifB vI wR nI
 have h1c:(⟨#[c]⟩:ByteArray).size=1:=rfl
 refine ⟨⟨0,by
  first|trivial|omega|(simp;omega),?_⟩,?_⟩
 ·refine ⟨rfl,rfl,rfl,?_,?_⟩
  ·first|(rw [(E8 c s).2];rfl)|(rw [(E8 c s).1];rfl)
  first|(rw [(E8 c s).2];rfl)|(rw [(E8 c s).1];rfl)
 intro (i:Nat) hki1
 have hki1:i<=s.size:=hki1
 refine And.symm ⟨λ c8=>?_,λ c8=>?_⟩
 ·try simp only [nrm] at c8
  have hi:i=s.size:=by omega
  refine ao (by first|rfl|omega|(have:=DK c s i;omega)|(have:=BR c s (i:=i) (by omega);rw [AH];simp only [List.length_cons,List.length_nil];omega)) λ o50=>?_
  refine ao (by first|rfl|omega|(have:=DK c s i;omega)|(have:=BR c s (i:=i) (by omega);rw [AH];simp only [List.length_cons,List.length_nil];omega)) λ o51=>?_
  refine ao (by first|rfl|omega|(have:=DK c s i;omega)|(have:=BR c s (i:=i) (by omega);rw [AH];simp only [List.length_cons,List.length_nil];omega)) λ o52=>?_
  refine ao (by first|rfl|omega|(have:=DK c s i;omega)|(have:=BR c s (i:=i) (by omega);rw [AH];simp only [List.length_cons,List.length_nil];omega)) λ o53=>?_
  rw [hi,Ay,Lw]
 try simp only [nrm] at c8
 refine ⟨⟨0,by
  first|trivial|omega|(simp;omega),?_⟩,?_⟩
 ·exact ⟨rfl,rfl,rfl,rfl,rfl,rfl⟩
 intro (j:Nat) hki9
 have hki9:j<=1/\(j=1->s.get! i≠c):=hki9
 refine And.symm ⟨λ c17=>?_,λ c17=>?_⟩
 ·try simp only [nrm] at c17
  obtain ⟨h1,h2⟩:=JX (i:=i) (by omega) (hki9.2 (by omega))
  refine ⟨i+1,by
   first|trivial|omega|(simp;omega),by
   first|omega|(simp;omega),?_⟩
  refine ⟨rfl,rfl,?_,?_,?_⟩
  ·first|exact B7 (AS (by omega) (by omega))|(rw [h2];exact B7 (by rw [AS (by omega) (by omega)];omega))|(rw [h2])|(rw [h1,Ay])|(rw [h1])
  ·first|exact B7 (AS (by omega) (by omega))|(rw [h2];exact B7 (by rw [AS (by omega) (by omega)];omega))|(rw [h2])|(rw [h1,Ay])|(rw [h1])
  first|exact B7 (AS (by omega) (by omega))|(rw [h2];exact B7 (by rw [AS (by omega) (by omega)];omega))|(rw [h2])|(rw [h1,Ay])|(rw [h1])
 try simp only [nrm] at c17
 refine ao (by first|rfl|omega|(have:=DK c s i;omega)|(have:=BR c s (i:=i) (by omega);rw [AH];simp only [List.length_cons,List.length_nil];omega)) λ o18=>?_
 refine ao (by first|rfl|omega|(have:=DK c s i;omega)|(have:=BR c s (i:=i) (by omega);rw [AH];simp only [List.length_cons,List.length_nil];omega)) λ o19=>?_
 refine And.symm ⟨λ c20=>?_,λ c20=>?_⟩
 ·try simp only [nrm] at c20
  have hm:s.get! i≠c:=Me (by omega) (by rw [show j=0 by omega] at c20;exact c20)
  refine ⟨j+1,by
   exact ⟨by omega,λ _=>hm⟩,by
   first|omega|(simp;omega),?_⟩
  refine ⟨rfl,rfl,rfl,rfl,?_,rfl⟩
  exact B7 (AS (by omega) (by omega))
 try simp only [nrm] at c20
 obtain ⟨h1,h2⟩:=M9 (s:=s) (c:=c) (i:=i) (by omega) (by rw [show j=0 by omega] at c20;exact c20)
 refine ao (by first|rfl|omega|(have:=DK c s i;omega)|(have:=BR c s (i:=i) (by omega);rw [AH];simp only [List.length_cons,List.length_nil];omega)) λ o21=>?_
 refine ao (by first|rfl|omega|(have:=DK c s i;omega)|(have:=BR c s (i:=i) (by omega);rw [AH];simp only [List.length_cons,List.length_nil];omega)) λ o22=>?_
 refine ao (by first|rfl|omega|(have:=DK c s i;omega)|(have:=BR c s (i:=i) (by omega);rw [AH];simp only [List.length_cons,List.length_nil];omega)) λ o23=>?_
 refine ao (by first|rfl|omega|(have:=DK c s i;omega)|(have:=BR c s (i:=i) (by omega);rw [AH];simp only [List.length_cons,List.length_nil];omega)) λ o24=>?_
 refine ⟨i+1,by
  first|trivial|omega|(simp;omega),by
  first|omega|(simp;omega),?_⟩
 refine ⟨rfl,rfl,?_,?_,?_⟩
 ·first|exact B7 (AS (by omega) (by omega))|(rw [h2];exact B7 (by rw [AS (by omega) (by omega)];omega))|(rw [h2])|(rw [h1,Ay])|(rw [h1])
 ·first|exact B7 (AS (by omega) (by omega))|(rw [h2];exact B7 (by rw [AS (by omega) (by omega)];omega))|(rw [h2])|(rw [h1,Ay])|(rw [h1])
 first|exact B7 (AS (by omega) (by omega))|(rw [h2];exact B7 (by rw [AS (by omega) (by omega)];omega))|(rw [h2])|(rw [h1,Ay])|(rw [h1])
theorem Kn (v:V2):AB 44 (Fx v)=[AJ v.1,AJ v.2]:=by
 have e:(Fx v).data.toList=(AJ v.1).data.toList++44::(AJ v.2).data.toList:=by
  unfold Fx;rw [Bk,Bk];simp
 unfold AB
 rw [e,Fz (DZ v.1),DX (DZ v.2)]
 simp [F1]
theorem In {s:ByteArray} {v:V2} (h:CT s=some v):AB 44 s=[AJ v.1,AJ v.2]/\AP v=true/\Fx v=s:=by
 obtain ⟨h1,rfl⟩:=Ig.1 h
 exact ⟨Kn v,h1,rfl⟩
theorem NA {s:ByteArray} (h:¬ (AB 44 s).length=2):CT s=none:=by
 cases hp:CT s with
 | none=>rfl
 | some v=>rw [(In hp).1] at h;exact absurd rfl h
def pvw (s:ByteArray) (k:Nat):Int:=(AK ((AB 44 s).getD k ⟨#[]⟩)).getD 0
theorem Mp {s:ByteArray} (h:CS (pvw s 0,pvw s 1)=(⟨#[]⟩:ByteArray)∨CS (pvw s 0,pvw s 1)≠s):CT s=none:=by
 cases hp:CT s with
 | none=>rfl
 | some v=>
  exfalso
  obtain ⟨h1,h2,h3⟩:=In hp
  have e:(pvw s 0,pvw s 1)=v:=by
   unfold pvw;rw [h1]
   show ((AK (AJ v.1)).getD 0,(AK (AJ v.2)).getD 0)=v
   rw [BB.2 ⟨(J0 h2).1,rfl⟩,BB.2 ⟨(J0 h2).2,rfl⟩]
   rfl
  rw [e,C6 h2] at h
  rcases h with h|h
  ·have:=congrArg ByteArray.size h
   simp only [Fx,ByteArray.size_append] at this
   have e1:(⟨#[44]⟩:ByteArray).size=1:=rfl
   have e2:(⟨#[]⟩:ByteArray).size=0:=rfl
   omega
  ·exact h h3
theorem NB {s:ByteArray} (h:¬ CS (pvw s 0,pvw s 1)=(⟨#[]⟩:ByteArray)) (h2:CS (pvw s 0,pvw s 1)=s):CT s=some (pvw s 0,pvw s 1):=by
 have hv:AP (pvw s 0,pvw s 1)=true:=by
  cases hq:AP (pvw s 0,pvw s 1) with
  | true=>rfl
  | false=>exact absurd (Fy hq) h
 rw [C6 hv] at h2
 exact Ig.2 ⟨hv,h2⟩
def DB:Con:={ ι:=ByteArray,pre:=λ i=>i.size<=1073741824,args:=λ i=>[.one (.im (.string i))],res:=λ i=>⟨true,[some 2,none],[rcI ((vOf i).1),rcI ((vOf i).2),rcB (okV i)]⟩ }
theorem L8:DB.Ok Tryd.prog 10:=by
 refine fok (X:=⟨tt,[(9,Bo),(16,BZ),(17,A3)],[],40,[]⟩) mixed DJ (CTok.cons J8 (CTok.cons L7 (CTok.cons JU (CTok.nil _)))) Tryd.func10 (λ _=>[]) ?_
 intro (s:ByteArray) hpre
 have hpre:s.size<=1073741824:=hpre
 refine DI (q:=let Z1:=(vI (0:Int)=vI ((vOf s).1))/\(vI (0:Int)=vI ((vOf s).2))/\(vB false=vB (okV s));∃ i1:ByteArray×UInt8,let Z2:=AR (AB i1.2 i1.1);[DA.one (DC.im (Value.string s)),DA.one (DC.im (Value.string (⟨#[44]⟩:ByteArray)))]=Bo.args i1/\Bo.pre i1/\(ifB (((nI (Z2.length)) != (2:Int))) Z1 ((0<=(0:Int)/\(0:Int)<(Z2.length:Int))/\((0<Z2.length)/\(∃ i2:ByteArray,let Z3:=(AK i2).getD 0;[DA.one (DC.im (Value.string ((((Z2.getD 0 []).getD 0 (.int 0))).s)))]=BZ.args i2/\BZ.pre i2/\((0<=(1:Int)/\(1:Int)<(Z2.length:Int))/\((1<Z2.length)/\(∃ i3:ByteArray,let Z4:=(AK i3).getD 0;[DA.one (DC.im (Value.string ((((Z2.getD 1 []).getD 0 (.int 0))).s)))]=BZ.args i3/\BZ.pre i3/\(∃ i4:Int×Int,[DA.agg [cI Z3,cI Z4]]=A3.args i4/\A3.pre i4/\(ifB ((!((CS (i4.1,i4.2)).toList == (⟨#[]⟩:ByteArray).toList))) (∃ i5:Int×Int,[DA.agg [cI Z3,cI Z4]]=A3.args i5/\A3.pre i5/\(ifB ((!((CS (i5.1,i5.2)).toList == s.toList))) Z1 ((vI Z3=vI ((vOf s).1))/\(vI Z4=vI ((vOf s).2))/\(vB true=vB (okV s))))) Z1)))))))))) (by kernel_rfl) ?_
 conv=>zeta
 delta ifB vB vI nI
 have hsl:=AH (AB 44 s)
 refine ⟨(s,44),by
  rfl,by
  show s.size<=1073741824
  first|trivial|exact hpre|exact Nat.le_trans (A9 (λ x hx=>Ae hx) _) hpre,?_⟩
 refine ⟨λ c4=>?_,λ c4=>?_⟩
 ·try simp only [nrm] at c4
  have hno:=AA (NA (s:=s) (by rw [hsl] at c4;omega))
  refine ⟨?_,?_,?_⟩
  ·first|(rw [hno.2])|(rw [hno.1])|(rw [hyes.2];rfl)|(rw [hyes.1])
  ·first|(rw [hno.2])|(rw [hno.1])|(rw [hyes.2];rfl)|(rw [hyes.1])
  first|(rw [hno.2])|(rw [hno.1])|(rw [hyes.2];rfl)|(rw [hyes.1])
 try simp only [nrm] at c4
 refine ao (a:=0<=(0:Int)/\(0:Int)<((AR (AB 44 s)).length:Int)) (by first|rfl|omega|(simp;done)|(simp;omega)) λ o8=>?_
 refine ao (a:=0<(AR (AB 44 s)).length) (by first|rfl|omega|(simp;done)|(simp;omega)) λ o9=>?_
 refine ⟨((AB 44 s).getD 0 ⟨#[]⟩),by
  exact congrArg (λ x=>[DA.one (DC.im (Value.string x))]) (E6 (l:=AB 44 s) (k:=0) (by omega)),by
  show ((AB 44 s).getD 0 ⟨#[]⟩).size<=1073741824
  first|trivial|exact hpre|exact Nat.le_trans (A9 (λ x hx=>Ae hx) _) hpre,?_⟩
 refine ao (a:=0<=(1:Int)/\(1:Int)<((AR (AB 44 s)).length:Int)) (by first|rfl|omega|(simp;done)|(simp;omega)) λ o13=>?_
 refine ao (a:=1<(AR (AB 44 s)).length) (by first|rfl|omega|(simp;done)|(simp;omega)) λ o14=>?_
 refine ⟨((AB 44 s).getD 1 ⟨#[]⟩),by
  exact congrArg (λ x=>[DA.one (DC.im (Value.string x))]) (E6 (l:=AB 44 s) (k:=1) (by omega)),by
  show ((AB 44 s).getD 1 ⟨#[]⟩).size<=1073741824
  first|trivial|exact hpre|exact Nat.le_trans (A9 (λ x hx=>Ae hx) _) hpre,?_⟩
 refine ⟨(((AK ((AB 44 s).getD 0 ⟨#[]⟩)).getD 0),((AK ((AB 44 s).getD 1 ⟨#[]⟩)).getD 0)),by
  rfl,by
  first|trivial|exact hpre|exact Nat.le_trans (A9 (λ x hx=>Ae hx) _) hpre,?_⟩
 refine And.symm ⟨λ c21=>?_,λ c21=>?_⟩
 ·try simp only [nrm] at c21
  have hno:=AA (Mp (s:=s) (.inl (Es c21)))
  refine ⟨?_,?_,?_⟩
  ·first|(rw [hno.2])|(rw [hno.1])|(rw [hyes.2];rfl)|(rw [hyes.1])
  ·first|(rw [hno.2])|(rw [hno.1])|(rw [hyes.2];rfl)|(rw [hyes.1])
  first|(rw [hno.2])|(rw [hno.1])|(rw [hyes.2];rfl)|(rw [hyes.1])
 try simp only [nrm] at c21
 have hne:¬ CS (pvw s 0,pvw s 1)=(⟨#[]⟩:ByteArray):=Er c21
 refine ⟨(((AK ((AB 44 s).getD 0 ⟨#[]⟩)).getD 0),((AK ((AB 44 s).getD 1 ⟨#[]⟩)).getD 0)),by
  rfl,by
  first|trivial|exact hpre|exact Nat.le_trans (A9 (λ x hx=>Ae hx) _) hpre,?_⟩
 refine ⟨λ c25=>?_,λ c25=>?_⟩
 ·try simp only [nrm] at c25
  have hno:=AA (Mp (s:=s) (.inr (Er c25)))
  refine ⟨?_,?_,?_⟩
  ·first|(rw [hno.2])|(rw [hno.1])|(rw [hyes.2];rfl)|(rw [hyes.1])
  ·first|(rw [hno.2])|(rw [hno.1])|(rw [hyes.2];rfl)|(rw [hyes.1])
  first|(rw [hno.2])|(rw [hno.1])|(rw [hyes.2];rfl)|(rw [hyes.1])
 try simp only [nrm] at c25
 have hyes:=AN (NB hne (Es c25))
 refine ⟨?_,?_,?_⟩
 ·first|(rw [hno.2])|(rw [hno.1])|(rw [hyes.2];rfl)|(rw [hyes.1])
 ·first|(rw [hno.2])|(rw [hno.1])|(rw [hyes.2];rfl)|(rw [hyes.1])
 first|(rw [hno.2])|(rw [hno.1])|(rw [hyes.2];rfl)|(rw [hyes.1])
def DD:Con:={ ι:=ByteArray,pre:=λ i=>i.size<=1073741824,args:=λ i=>[.one (.im (.string i))],res:=λ i=>⟨true,[none,none],[.own 31 [.int,.int] (AL (BQ i)),rcB (okP i)]⟩ }
theorem L9:DD.Ok Tryd.prog 4:=by
 refine fok (X:=⟨tt,[(9,Bo),(10,DB),(11,Bv)],[],33,[]⟩) mixed DJ (CTok.cons J8 (CTok.cons L8 (CTok.cons JT (CTok.nil _)))) Tryd.func4 (λ (i:ByteArray)=>let Z1:=AB 32 i;[(3,.mk 3 (Nat) (λ x1=>{ tm:=[(11,tX 1),(12,tI ((AR Z1).length:Int)),(13,tI (x1:Int)),(4,tX 2)],en:=[(1,.own 9 [.str] (AR Z1)),(2,.own 31 [.int,.int] (AL ((Z1.take x1).map vOf)))] }) (λ x1=>x1<=Z1.length/\(Z1.take x1).all okV=true) (λ x1=>Z1.length-x1) (λ _=>[]))]) ?_
 intro (s:ByteArray) hpre
 have hpre:s.size<=1073741824:=hpre
 refine DI (q:=let Z3:=(([]:List (List Dat))=AL (BQ s))/\(vB false=vB (okP s));let Z1:=AB 32 s;let Z5:=AR Z1;let Z4:=(Z5.length:Int);∃ i1:ByteArray×UInt8,[DA.one (DC.im (Value.string s)),DA.one (DC.im (Value.string (⟨#[32]⟩:ByteArray)))]=Bo.args i1/\Bo.pre i1/\((∃ x1:Nat,(x1<=Z1.length/\(Z1.take x1).all okV=true)/\((vI (nI ((AR (AB i1.2 i1.1)).length))=vI Z4)/\(vI (0:Int)=vI (x1:Int))/\(AR (AB i1.2 i1.1)=Z5)/\(([]:List (List Dat))=(AL ((Z1.take x1).map vOf)))))/\∀ x1:Nat,let Z2:=AL ((Z1.take x1).map vOf);(x1<=Z1.length/\(Z1.take x1).all okV=true)->(ifB ((decide ((x1:Int)<Z4))) ((0<=(x1:Int)/\(x1:Int)<Z4)/\((x1<Z5.length)/\(∃ i2:ByteArray,[DA.one (DC.im (Value.string ((((Z5.getD x1 []).getD 0 (.int 0))).s)))]=DB.args i2/\DB.pre i2/\(ifB ((!(okV i2))) Z3 ((Z2.length+([[Dat.int ((vOf i2).1),Dat.int ((vOf i2).2)]]:List (List Dat)).length<=2199023255552)/\(∃ y2:Nat,(y2<=Z1.length/\(Z1.take y2).all okV=true)/\(Z1.length-y2<Z1.length-x1)/\((rf (vI Z4))/\(vI (wR ((x1:Int)+(1:Int)))=vI (y2:Int))/\(rf Z5)/\((Z2++([[Dat.int ((vOf i2).1),Dat.int ((vOf i2).2)]]:List (List Dat)))=(AL ((Z1.take y2).map vOf)))))))))) (∃ i3:(List V2),[DA.one (DC.sl 31 [.int,.int] Z2)]=Bv.args i3/\Bv.pre i3/\(ifB ((!(AX i3))) Z3 ((Z2=AL (BQ s))/\(vB true=vB (okP s)))))))) (by kernel_rfl) ?_
 conv=>zeta
 delta ifB vB vI wR nI
 have hwl:=Db 32 s
 have hsl:=AH (AB 32 s)
 refine ⟨(s,32),by
  rfl,by
  show s.size<=1073741824
  first|trivial|exact hpre|exact Nat.le_trans (A9 (λ x hx=>Ae hx) k) hpre,?_⟩
 refine ⟨⟨0,by
  exact ⟨Nat.zero_le _,rfl⟩,?_⟩,?_⟩
 ·refine ⟨?_,rfl,rfl,?_⟩
  ·show Value.int .i64 (((AR (AB 32 s)).length:Nat):Int)=Value.int .i64 ((AR (AB 32 s)).length:Int)
   rfl
  rfl
 intro (k:Nat) hki4
 have hki4:k<=(AB 32 s).length/\((AB 32 s).take k).all okV=true:=hki4
 refine And.symm ⟨λ c10=>?_,λ c10=>?_⟩
 ·try simp only [nrm] at c10
  have ht:(AB 32 s).take k=AB 32 s:=List.take_of_length_le (by omega)
  have hao:(AB 32 s).all okV=true:=by rw [← ht];exact hki4.2
  refine ⟨(((AB 32 s).take k).map vOf),by
   rfl,by
   first|trivial|exact hpre|exact Nat.le_trans (A9 (λ x hx=>Ae hx) k) hpre,?_⟩
  refine ⟨λ c30=>?_,λ c30=>?_⟩
  ·try simp only [nrm] at c30
   rw [ht] at c30
   have hno:okP s=false:=by rw [D0 hao];exact c30
   refine ⟨?_,?_⟩
   ·first|(rw [Ah hno];rfl)|(rw [hno])|(rw [ht,Ab hyes])|(rw [hyes])
   first|(rw [Ah hno];rfl)|(rw [hno])|(rw [ht,Ab hyes])|(rw [hyes])
  try simp only [nrm] at c30
  rw [ht] at c30
  have hyes:okP s=true:=by rw [D0 hao];exact c30
  refine ⟨?_,?_⟩
  ·first|(rw [Ah hno];rfl)|(rw [hno])|(rw [ht,Ab hyes])|(rw [hyes])
  first|(rw [Ah hno];rfl)|(rw [hno])|(rw [ht,Ab hyes])|(rw [hyes])
 try simp only [nrm] at c10
 have hk:k<(AB 32 s).length:=by omega
 refine ao (by first|rfl|omega|(simp only [AH,AO,List.length_map,List.length_take,List.length_cons,List.length_nil];omega)|(simp;omega)) λ o11=>?_
 refine ao (by first|rfl|omega|(simp only [AH,AO,List.length_map,List.length_take,List.length_cons,List.length_nil];omega)|(simp;omega)) λ o12=>?_
 refine ⟨((AB 32 s).getD k ⟨#[]⟩),by
  exact congrArg (λ x=>[DA.one (DC.im (Value.string x))]) (E6 hk),by
  show ((AB 32 s).getD k ⟨#[]⟩).size<=1073741824
  first|trivial|exact hpre|exact Nat.le_trans (A9 (λ x hx=>Ae hx) k) hpre,?_⟩
 refine ⟨λ c16=>?_,λ c16=>?_⟩
 ·try simp only [nrm] at c16
  have hno:=Il hk c16
  refine ⟨?_,?_⟩
  ·first|(rw [Ah hno];rfl)|(rw [hno])|(rw [ht,Ab hyes])|(rw [hyes])
  first|(rw [Ah hno];rfl)|(rw [hno])|(rw [ht,Ab hyes])|(rw [hyes])
 try simp only [nrm] at c16
 refine ao (by first|rfl|omega|(simp only [AH,AO,List.length_map,List.length_take,List.length_cons,List.length_nil];omega)|(simp;omega)) λ o19=>?_
 refine ⟨k+1,by
  exact ⟨by omega,by rw [Ik hk,hki4.2,c16];rfl⟩,by
  first|omega|(simp;omega),?_⟩
 refine ⟨rfl,?_,rfl,?_⟩
 ·first|exact B7 (AS (by omega) (by omega))|exact E7 hk
 first|exact B7 (AS (by omega) (by omega))|exact E7 hk
end Go.Proofs.YtcpjekkiejhgpaaDoor
