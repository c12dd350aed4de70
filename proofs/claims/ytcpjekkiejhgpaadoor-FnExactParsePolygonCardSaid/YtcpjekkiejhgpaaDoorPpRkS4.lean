import Derived.Test.YtcpjekkiejhgpaaDoorPpRkS3
namespace Go.Proofs.YtcpjekkiejhgpaaDoor
set_option maxRecDepth 100000
set_option linter.unusedVariables false
set_option linter.unusedSimpArgs false
open Go.RowKit
theorem Im {s:ByteArray} {k:Nat} (hk:k<s.size):(s.data.toList.take (k+1)).all CV=((s.data.toList.take k).all CV && CV (s.get! k)):=by
 have hk' : k<s.data.toList.length:=hk
 rw [List.take_succ_eq_append_getElem hk',List.all_append,CJ _ _ hk,List.getD_eq_getElem?_getD,List.getElem?_eq_getElem hk']
 simp
theorem J5 {s:ByteArray} {k:Nat} (hk:k<s.size) (h:CV (s.get! k)=false):AT s=false:=by
 have e:s.data.toList.all CV=false:=by
  rw [← List.take_append_drop (k+1) s.data.toList,List.all_append,Im hk,h];simp
 unfold AT;rw [e];simp
theorem L3 {s:ByteArray} (h:(s.data.toList.take s.size).all CV=true):AT s=decide (0<s.size):=by
 rw [List.take_of_length_le (show s.data.toList.length<=s.size from Nat.le_refl _)] at h
 unfold AT;rw [h];simp
theorem J6 {c:UInt8} (h:(c.toNat:Int)<48∨57<(c.toNat:Int)):CV c=false:=by
 unfold CV
 rw [Bool.and_eq_false_iff,decide_eq_false_iff_not,decide_eq_false_iff_not];omega
theorem L4 {c:UInt8} (h:¬((c.toNat:Int)<48∨57<(c.toNat:Int))):CV c=true:=by
 unfold CV
 rw [Bool.and_eq_true,decide_eq_true_eq,decide_eq_true_eq];omega
def BP:Con:={ ι:=ByteArray,pre:=λ i=>i.size<=1073741824,args:=λ i=>[.one (.im (.string i))],res:=λ i=>⟨false,[none],[.im (Value.bool (AT i))]⟩ }
theorem Mc:BP.Ok Tryd.prog 28:=by
 refine fok (X:=⟨tt,[],[],23,[]⟩) mixed DK (CTok.nil _) Tryd.func28 (λ (i:ByteArray)=>[(2,.mk 1 (Nat) (λ x1=>{ tm:=[(0,.one (.one (.im (Value.string i)))),(3,.one (.one (.im (Value.int .i64 (x1:Int)))))],en:=[] }) (λ x1=>x1<=i.size/\(i.data.toList.take x1).all CV=true) (λ x1=>i.size-x1) (λ _=>[]))]) ?_
 intro (s:ByteArray) hpre
 have hpre:s.size<=1073741824:=hpre
 refine DJ (q:=(∃ x1:Nat,(x1<=s.size/\(s.data.toList.take x1).all CV=true)/\((rf (Value.string s))/\(Value.int .i64 (0:Int)=Value.int .i64 (x1:Int))))/\∀ x1:Nat,(x1<=s.size/\(s.data.toList.take x1).all CV=true)->(((decide ((x1:Int)<((s.size:Nat):Int)))=true->((0<=(x1:Int)/\(x1:Int)<(s.size:Int))/\(((!(decide (((s.get! x1).toNat:Int)<(48:Int))))=true->((0<=(x1:Int)/\(x1:Int)<(s.size:Int))/\(((decide (((s.get! x1).toNat:Int)>(57:Int)))=true->((Value.bool false=Value.bool (AT s))))/\((decide (((s.get! x1).toNat:Int)>(57:Int)))=false->(∃ y2:Nat,(y2<=s.size/\(s.data.toList.take y2).all CV=true)/\(s.size-y2<s.size-x1)/\((rf (Value.string s))/\(Value.int .i64 (IntKind.i64.wrap ((x1:Int)+(1:Int)))=Value.int .i64 (y2:Int))))))))/\((!(decide (((s.get! x1).toNat:Int)<(48:Int))))=false->((Value.bool false=Value.bool (AT s)))))))/\((decide ((x1:Int)<((s.size:Nat):Int)))=false->((Value.bool (decide (((s.size:Nat):Int)>(0:Int)))=Value.bool (AT s)))))) (by kernel_rfl) ?_
 -- i1
 refine ⟨⟨0,by
  exact ⟨Nat.zero_le _,rfl⟩,?_⟩,?_⟩
 ·-- the beginning
  exact ⟨rfl,rfl⟩
 intro (k:Nat) hki1
 have hki1:k<=s.size/\(s.data.toList.take k).all CV=true:=hki1
 refine And.symm ⟨λ c5=>?_,λ c5=>?_⟩
 ·-- c5f: (decide ((k : Int) < ((s.size : Nat) : Int))) = false
  replace c5:(decide ((k:Int)<((s.size:Nat):Int)))=false:=c5
  try simp only [nrm] at c5
  have he:=L3 (s:=s) (by rw [show s.size=k by omega];exact hki1.2)
  -- l17: Value.bool (decide (((s.size : Nat) : Int) > (0 : Int))) = Value.bool (AT s)
  show Value.bool (decide (((s.size:Nat):Int)>(0:Int)))=Value.bool (AT s)
  rw [he];congr 1;rw [decide_eq_decide];omega
 -- c5t: (decide ((k : Int) < ((s.size : Nat) : Int))) = true
 replace c5:(decide ((k:Int)<((s.size:Nat):Int)))=true:=c5
 try simp only [nrm] at c5
 refine ao (a:=0<=(k:Int)/\(k:Int)<(s.size:Int)) (by first|rfl|omega|(simp;done)|(simp;omega)) λ o6=>?_
 refine And.symm ⟨λ c7=>?_,λ c7=>?_⟩
 ·-- c7f: (!(decide (((s.get! k).toNat : Int) < (48 : Int)))) = false
  replace c7:(!(decide (((s.get! k).toNat:Int)<(48:Int))))=false:=c7
  try simp only [nrm] at c7
  have hno:=J5 (s:=s) (k:=k) (by omega) (J6 (.inl (by omega)))
  -- l16: Value.bool false = Value.bool (AT s)
  show Value.bool false=Value.bool (AT s)
  rw [hno]
 -- c7t: (!(decide (((s.get! k).toNat : Int) < (48 : Int)))) = true
 replace c7:(!(decide (((s.get! k).toNat:Int)<(48:Int))))=true:=c7
 try simp only [nrm] at c7
 refine ao (a:=0<=(k:Int)/\(k:Int)<(s.size:Int)) (by first|rfl|omega|(simp;done)|(simp;omega)) λ o8=>?_
 refine ⟨λ c9=>?_,λ c9=>?_⟩
 ·-- c9t: (decide (((s.get! k).toNat : Int) > (57 : Int))) = true
  replace c9:(decide (((s.get! k).toNat:Int)>(57:Int)))=true:=c9
  try simp only [nrm] at c9
  have hno:=J5 (s:=s) (k:=k) (by omega) (J6 (.inr (by omega)))
  -- l10: Value.bool false = Value.bool (AT s)
  show Value.bool false=Value.bool (AT s)
  rw [hno]
 -- c9f: (decide (((s.get! k).toNat : Int) > (57 : Int))) = false
 replace c9:(decide (((s.get! k).toNat:Int)>(57:Int)))=false:=c9
 try simp only [nrm] at c9
 -- n11
 refine ⟨k+1,by
  exact ⟨by omega,by rw [Im (by omega),hki1.2,L4 (by omega)];rfl⟩,by
  first|omega|(simp;omega),?_⟩
 refine ⟨rfl,?_⟩
 -- e15: Value.int .i64 (IntKind.i64.wrap ((k : Int) + (1 : Int))) = Value.int .i64 ((k + 1) : Int)
 show Value.int .i64 (IntKind.i64.wrap ((k:Int)+(1:Int)))=Value.int .i64 ((k+1):Int)
 exact B8 (AU (by omega) (by omega))
theorem Md {t:ByteArray} {k:Nat} : dvF 0 (t.data.toList.take k)<=dvF 0 t.data.toList:=by
 conv=>rhs;rw [← List.take_append_drop k t.data.toList]
 have:∀ (a b:List UInt8),dvF 0 (a++b)=dvF (dvF 0 a) b:=λ a b=>by unfold dvF;rw [List.foldl_append]
 rw [this]
 exact JV _ _
theorem Nb {s:ByteArray} (h:(s.size:Int)<=0):AB s=false/\tOf (AB s) s=s:=by
 have e:AB s=false:=by unfold AB;rw [decide_eq_false (by omega)];rfl
 rw [e];exact ⟨rfl,rfl⟩
theorem Nc {s:ByteArray} (h:¬ ((s.get! 0).toNat:Int)=45):AB s=false/\tOf (AB s) s=s:=by
 have e:AB s=false:=by
  unfold AB
  rw [show (s.get! 0 == 45)=false from by rw [beq_eq_false_iff_ne];intro e;rw [e] at h;exact h rfl]
  simp
 rw [e];exact ⟨rfl,rfl⟩
theorem Nd {s:ByteArray} (h0:0<(s.size:Int)) (h:((s.get! 0).toNat:Int)=45):AB s=true/\tOf (AB s) s=s.extract 1 s.size:=by
 have e:AB s=true:=by
  unfold AB
  rw [decide_eq_true (by omega),show s.get! 0=45 from by rw [← UInt8.toNat_inj];show _=45;omega]
  rfl
 rw [e];exact ⟨rfl,rfl⟩
theorem L5 {t:ByteArray} {k:Nat} (hd:AT t=true) (hk:k<t.size):∃ d:Nat,d<=9/\IntKind.i64.wrap ((IntKind.i64.wrap ((t.get! k).toNat:Int))-48)=(d:Int)/\dvF 0 (t.data.toList.take (k+1))=dvF 0 (t.data.toList.take k)*10+d:=by
 have h:=Ma hd hk
 refine ⟨(t.get! k).toNat-48,by omega,?_,MZ hk⟩
 rw [AU (x:=((t.get! k).toNat:Int)) (by omega) (by omega),AU (by omega) (by omega)];omega
theorem J7 {d:Nat} (h:d<=9):IntKind.i64.wrap (Int.tdiv (IntKind.i64.wrap ((-9223372036854775808:Int)+d)) 10)=-(((9223372036854775808-d)/10:Nat):Int):=by
 rw [AU (x:=(-9223372036854775808:Int)+d) (by omega) (by omega)]
 have e:Int.tdiv ((-9223372036854775808:Int)+d) 10=-(((9223372036854775808-d)/10:Nat):Int):=by
  rw [Dv (by omega),show ((-9223372036854775808:Int)+d).natAbs=9223372036854775808-d by omega]
 rw [e,AU (by omega) (by omega)]
theorem JY {s:ByteArray} {k:Nat} (hd:AT (tOf (AB s) s)=true) (hk:k<(tOf (AB s) s).size)
  (h:-((dvF 0 ((tOf (AB s) s).data.toList.take k):Nat):Int)<IntKind.i64.wrap (Int.tdiv (IntKind.i64.wrap ((-9223372036854775808:Int)+(IntKind.i64.wrap ((IntKind.i64.wrap (((tOf (AB s) s).get! k).toNat:Int))-48)))) 10)):AC s=none:=by
 obtain ⟨d,h1,h2,h3⟩:=L5 hd hk
 rw [h2,J7 h1] at h
 refine BO (.inr (.inr (.inl ?_)))
 have:=Md (t:=tOf (AB s) s) (k:=k+1)
 omega
theorem L6 {t:ByteArray} {k:Nat} (hd:AT t=true) (hk:k<t.size)
  (h:IntKind.i64.wrap (Int.tdiv (IntKind.i64.wrap ((-9223372036854775808:Int)+(IntKind.i64.wrap ((IntKind.i64.wrap ((t.get! k).toNat:Int))-48)))) 10)<=-((dvF 0 (t.data.toList.take k):Nat):Int)) :
  dvF 0 (t.data.toList.take (k+1))<=9223372036854775808/\IntKind.i64.wrap ((IntKind.i64.wrap ((-((dvF 0 (t.data.toList.take k):Nat):Int))*10))-(IntKind.i64.wrap ((IntKind.i64.wrap ((t.get! k).toNat:Int))-48)))=-((dvF 0 (t.data.toList.take (k+1)):Nat):Int):=by
 obtain ⟨d,h1,h2,h3⟩:=L5 hd hk
 rw [h2,J7 h1] at h
 refine ⟨by omega,?_⟩
 rw [h2,AU (x:=-((dvF 0 (t.data.toList.take k):Nat):Int)*10) (by omega) (by omega),AU (by omega) (by omega)];omega
theorem Ha {s:ByteArray} {k:Nat} (hn:AB s=true) (hk:¬ k<(tOf (AB s) s).size) (hb:dvF 0 ((tOf (AB s) s).data.toList.take k)<=9223372036854775808) :
  nOf s=-((dvF 0 ((tOf (AB s) s).data.toList.take k):Nat):Int)/\GI (nOf s):=by
 have e:(tOf (AB s) s).data.toList.take k=(tOf (AB s) s).data.toList:=List.take_of_length_le (by show (tOf (AB s) s).size<=k;omega)
 rw [e] at hb ⊢
 have e2:nOf s=-((dvF 0 (tOf (AB s) s).data.toList:Nat):Int):=if_pos hn
 refine ⟨e2,?_⟩
 rw [e2];unfold GI;omega
theorem Hb {s:ByteArray} {k:Nat} (hn:AB s=false) (hk:¬ k<(tOf (AB s) s).size) (hb:dvF 0 ((tOf (AB s) s).data.toList.take k)<=9223372036854775808) :
  (-((dvF 0 ((tOf (AB s) s).data.toList.take k):Nat):Int)=-9223372036854775808->AC s=none)/\(¬ -((dvF 0 ((tOf (AB s) s).data.toList.take k):Nat):Int)=-9223372036854775808 ->
  IntKind.i64.wrap (0-(-((dvF 0 ((tOf (AB s) s).data.toList.take k):Nat):Int)))=nOf s/\GI (nOf s)):=by
 have e:(tOf (AB s) s).data.toList.take k=(tOf (AB s) s).data.toList:=List.take_of_length_le (by show (tOf (AB s) s).size<=k;omega)
 rw [e] at hb ⊢
 have e2:nOf s=((dvF 0 (tOf (AB s) s).data.toList:Nat):Int):=if_neg (by rw [hn];simp)
 refine ⟨λ h=>BO (.inr (.inr (.inr ⟨hn,by omega⟩))),λ h=>?_⟩
 rw [e2,AU (by omega) (by omega)]
 unfold GI;omega
theorem Er {a b:ByteArray} (h:¬ a.toList=b.toList):a≠b:=λ e=>h (by rw [e])
theorem Es {a b:ByteArray} (h:a.toList=b.toList):a=b:=by
 rw [ByteArray.toList_eq,ByteArray.toList_eq] at h;exact bx h
def Ba:Con:={ ι:=ByteArray,pre:=λ i=>i.size<=1073741824,args:=λ i=>[.one (.im (.string i))],res:=λ i=>⟨true,[none,none],[.im (Value.int .i64 ((AC i).getD 0)),.im (Value.bool ((AC i).isSome))]⟩ }
set_option maxHeartbeats 1600000 in
theorem L7:Ba.Ok Tryd.prog 16:=by
 refine fok (X:=⟨tt,[(28,BP),(29,AM)],[],60,[]⟩) mixed DK (CTok.cons Mc (CTok.cons Fv (CTok.nil _))) Tryd.func16 (λ (i:ByteArray)=>[(9,.mk 1 (Nat) (λ x1=>{ tm:=[(0,.one (.one (.im (Value.string i)))),(4,.one (.one (.im (Value.bool (AB i))))),(5,.one (.one (.im (Value.string (tOf (AB i) i))))),(6,.one (.one (.im (Value.int .i64 (-((dvF 0 ((tOf (AB i) i).data.toList.take x1):Nat):Int)))))),(7,.one (.one (.im (Value.int .i64 (x1:Int)))))],en:=[] }) (λ x1=>x1<=(tOf (AB i) i).size/\dvF 0 ((tOf (AB i) i).data.toList.take x1)<=9223372036854775808) (λ x1=>(tOf (AB i) i).size-x1) (λ _=>[]))]) ?_
 intro (s:ByteArray) hpre
 have hpre:s.size<=1073741824:=hpre
 refine DJ (q:=((decide (((s.size:Nat):Int)>(0:Int)))=true->((0<=(0:Int)/\(0:Int)<(s.size:Int))/\(((((s.get! 0).toNat:Int) == (45:Int))=true->((0<=(1:Int))/\(((1:Int)<=(s.size:Int))/\(((s.size:Int)<=(s.size:Int))/\(∃ i1:ByteArray,[DA.one (DC.im (Value.string (s.extract 1 s.size)))]=BP.args i1/\BP.pre i1/\(((!(!(AT i1)))=true->(((decide ((((s.extract 1 s.size).size:Nat):Int)>(19:Int)))=true->((Value.int .i64 (0:Int)=Value.int .i64 ((AC s).getD 0))/\(Value.bool false=Value.bool ((AC s).isSome))))/\((decide ((((s.extract 1 s.size).size:Nat):Int)>(19:Int)))=false->((∃ x1:Nat,(x1<=(tOf (AB s) s).size/\dvF 0 ((tOf (AB s) s).data.toList.take x1)<=9223372036854775808)/\((rf (Value.string s))/\(Value.bool (((s.get! 0).toNat:Int) == (45:Int))=Value.bool (AB s))/\(Value.string (s.extract 1 s.size)=Value.string (tOf (AB s) s))/\(Value.int .i64 (0:Int)=Value.int .i64 (-((dvF 0 ((tOf (AB s) s).data.toList.take x1):Nat):Int)))/\(Value.int .i64 (0:Int)=Value.int .i64 (x1:Int))))/\∀ x1:Nat,(x1<=(tOf (AB s) s).size/\dvF 0 ((tOf (AB s) s).data.toList.take x1)<=9223372036854775808)->(((decide ((x1:Int)<(((tOf (AB s) s).size:Nat):Int)))=true->((0<=(x1:Int)/\(x1:Int)<((tOf (AB s) s).size:Int))/\(((10:Int)≠0)/\(((decide ((-((dvF 0 ((tOf (AB s) s).data.toList.take x1):Nat):Int))<(IntKind.i64.wrap (Int.tdiv (IntKind.i64.wrap ((-9223372036854775808:Int)+(IntKind.i64.wrap ((IntKind.i64.wrap (((tOf (AB s) s).get! x1).toNat:Int))-(48:Int))))) (10:Int)))))=true->((Value.int .i64 (0:Int)=Value.int .i64 ((AC s).getD 0))/\(Value.bool false=Value.bool ((AC s).isSome))))/\((decide ((-((dvF 0 ((tOf (AB s) s).data.toList.take x1):Nat):Int))<(IntKind.i64.wrap (Int.tdiv (IntKind.i64.wrap ((-9223372036854775808:Int)+(IntKind.i64.wrap ((IntKind.i64.wrap (((tOf (AB s) s).get! x1).toNat:Int))-(48:Int))))) (10:Int)))))=false->(∃ y2:Nat,(y2<=(tOf (AB s) s).size/\dvF 0 ((tOf (AB s) s).data.toList.take y2)<=9223372036854775808)/\((tOf (AB s) s).size-y2<(tOf (AB s) s).size-x1)/\((rf (Value.string s))/\(rf (Value.bool (AB s)))/\(rf (Value.string (tOf (AB s) s)))/\(Value.int .i64 (IntKind.i64.wrap ((IntKind.i64.wrap ((-((dvF 0 ((tOf (AB s) s).data.toList.take x1):Nat):Int))*(10:Int)))-(IntKind.i64.wrap ((IntKind.i64.wrap (((tOf (AB s) s).get! x1).toNat:Int))-(48:Int)))))=Value.int .i64 (-((dvF 0 ((tOf (AB s) s).data.toList.take y2):Nat):Int)))/\(Value.int .i64 (IntKind.i64.wrap ((x1:Int)+(1:Int)))=Value.int .i64 (y2:Int)))))))))/\((decide ((x1:Int)<(((tOf (AB s) s).size:Nat):Int)))=false->(((!(AB s))=true->((((-((dvF 0 ((tOf (AB s) s).data.toList.take x1):Nat):Int)) == (-9223372036854775808:Int))=true->((Value.int .i64 (0:Int)=Value.int .i64 ((AC s).getD 0))/\(Value.bool false=Value.bool ((AC s).isSome))))/\(((-((dvF 0 ((tOf (AB s) s).data.toList.take x1):Nat):Int)) == (-9223372036854775808:Int))=false->(∃ i2:Int,[DA.one (cI (IntKind.i64.wrap (0-(-((dvF 0 ((tOf (AB s) s).data.toList.take x1):Nat):Int)))))]=AM.args i2/\AM.pre i2/\(((!((AH i2).toList == s.toList))=true->((Value.int .i64 (0:Int)=Value.int .i64 ((AC s).getD 0))/\(Value.bool false=Value.bool ((AC s).isSome))))/\((!((AH i2).toList == s.toList))=false->((Value.int .i64 (IntKind.i64.wrap (0-(-((dvF 0 ((tOf (AB s) s).data.toList.take x1):Nat):Int))))=Value.int .i64 ((AC s).getD 0))/\(Value.bool true=Value.bool ((AC s).isSome)))))))))/\((!(AB s))=false->(∃ i3:Int,[DA.one (cI (-((dvF 0 ((tOf (AB s) s).data.toList.take x1):Nat):Int)))]=AM.args i3/\AM.pre i3/\(((!((AH i3).toList == s.toList))=true->((Value.int .i64 (0:Int)=Value.int .i64 ((AC s).getD 0))/\(Value.bool false=Value.bool ((AC s).isSome))))/\((!((AH i3).toList == s.toList))=false->((Value.int .i64 (-((dvF 0 ((tOf (AB s) s).data.toList.take x1):Nat):Int))=Value.int .i64 ((AC s).getD 0))/\(Value.bool true=Value.bool ((AC s).isSome))))))))))))))/\((!(!(AT i1)))=false->((Value.int .i64 (0:Int)=Value.int .i64 ((AC s).getD 0))/\(Value.bool false=Value.bool ((AC s).isSome))))))))))/\((((s.get! 0).toNat:Int) == (45:Int))=false->(∃ i4:ByteArray,[DA.one (DC.im (Value.string s))]=BP.args i4/\BP.pre i4/\(((!(!(AT i4)))=true->(((decide (((s.size:Nat):Int)>(19:Int)))=true->((Value.int .i64 (0:Int)=Value.int .i64 ((AC s).getD 0))/\(Value.bool false=Value.bool ((AC s).isSome))))/\((decide (((s.size:Nat):Int)>(19:Int)))=false->((∃ x1:Nat,(x1<=(tOf (AB s) s).size/\dvF 0 ((tOf (AB s) s).data.toList.take x1)<=9223372036854775808)/\((rf (Value.string s))/\(Value.bool (((s.get! 0).toNat:Int) == (45:Int))=Value.bool (AB s))/\(Value.string s=Value.string (tOf (AB s) s))/\(Value.int .i64 (0:Int)=Value.int .i64 (-((dvF 0 ((tOf (AB s) s).data.toList.take x1):Nat):Int)))/\(Value.int .i64 (0:Int)=Value.int .i64 (x1:Int))))/\∀ x1:Nat,(x1<=(tOf (AB s) s).size/\dvF 0 ((tOf (AB s) s).data.toList.take x1)<=9223372036854775808)->(((decide ((x1:Int)<(((tOf (AB s) s).size:Nat):Int)))=true->((0<=(x1:Int)/\(x1:Int)<((tOf (AB s) s).size:Int))/\(((10:Int)≠0)/\(((decide ((-((dvF 0 ((tOf (AB s) s).data.toList.take x1):Nat):Int))<(IntKind.i64.wrap (Int.tdiv (IntKind.i64.wrap ((-9223372036854775808:Int)+(IntKind.i64.wrap ((IntKind.i64.wrap (((tOf (AB s) s).get! x1).toNat:Int))-(48:Int))))) (10:Int)))))=true->((Value.int .i64 (0:Int)=Value.int .i64 ((AC s).getD 0))/\(Value.bool false=Value.bool ((AC s).isSome))))/\((decide ((-((dvF 0 ((tOf (AB s) s).data.toList.take x1):Nat):Int))<(IntKind.i64.wrap (Int.tdiv (IntKind.i64.wrap ((-9223372036854775808:Int)+(IntKind.i64.wrap ((IntKind.i64.wrap (((tOf (AB s) s).get! x1).toNat:Int))-(48:Int))))) (10:Int)))))=false->(∃ y4:Nat,(y4<=(tOf (AB s) s).size/\dvF 0 ((tOf (AB s) s).data.toList.take y4)<=9223372036854775808)/\((tOf (AB s) s).size-y4<(tOf (AB s) s).size-x1)/\((rf (Value.string s))/\(rf (Value.bool (AB s)))/\(rf (Value.string (tOf (AB s) s)))/\(Value.int .i64 (IntKind.i64.wrap ((IntKind.i64.wrap ((-((dvF 0 ((tOf (AB s) s).data.toList.take x1):Nat):Int))*(10:Int)))-(IntKind.i64.wrap ((IntKind.i64.wrap (((tOf (AB s) s).get! x1).toNat:Int))-(48:Int)))))=Value.int .i64 (-((dvF 0 ((tOf (AB s) s).data.toList.take y4):Nat):Int)))/\(Value.int .i64 (IntKind.i64.wrap ((x1:Int)+(1:Int)))=Value.int .i64 (y4:Int)))))))))/\((decide ((x1:Int)<(((tOf (AB s) s).size:Nat):Int)))=false->(((!(AB s))=true->((((-((dvF 0 ((tOf (AB s) s).data.toList.take x1):Nat):Int)) == (-9223372036854775808:Int))=true->((Value.int .i64 (0:Int)=Value.int .i64 ((AC s).getD 0))/\(Value.bool false=Value.bool ((AC s).isSome))))/\(((-((dvF 0 ((tOf (AB s) s).data.toList.take x1):Nat):Int)) == (-9223372036854775808:Int))=false->(∃ i5:Int,[DA.one (cI (IntKind.i64.wrap (0-(-((dvF 0 ((tOf (AB s) s).data.toList.take x1):Nat):Int)))))]=AM.args i5/\AM.pre i5/\(((!((AH i5).toList == s.toList))=true->((Value.int .i64 (0:Int)=Value.int .i64 ((AC s).getD 0))/\(Value.bool false=Value.bool ((AC s).isSome))))/\((!((AH i5).toList == s.toList))=false->((Value.int .i64 (IntKind.i64.wrap (0-(-((dvF 0 ((tOf (AB s) s).data.toList.take x1):Nat):Int))))=Value.int .i64 ((AC s).getD 0))/\(Value.bool true=Value.bool ((AC s).isSome)))))))))/\((!(AB s))=false->(∃ i6:Int,[DA.one (cI (-((dvF 0 ((tOf (AB s) s).data.toList.take x1):Nat):Int)))]=AM.args i6/\AM.pre i6/\(((!((AH i6).toList == s.toList))=true->((Value.int .i64 (0:Int)=Value.int .i64 ((AC s).getD 0))/\(Value.bool false=Value.bool ((AC s).isSome))))/\((!((AH i6).toList == s.toList))=false->((Value.int .i64 (-((dvF 0 ((tOf (AB s) s).data.toList.take x1):Nat):Int))=Value.int .i64 ((AC s).getD 0))/\(Value.bool true=Value.bool ((AC s).isSome))))))))))))))/\((!(!(AT i4)))=false->((Value.int .i64 (0:Int)=Value.int .i64 ((AC s).getD 0))/\(Value.bool false=Value.bool ((AC s).isSome))))))))))/\((decide (((s.size:Nat):Int)>(0:Int)))=false->(∃ i7:ByteArray,[DA.one (DC.im (Value.string s))]=BP.args i7/\BP.pre i7/\(((!(!(AT i7)))=true->(((decide (((s.size:Nat):Int)>(19:Int)))=true->((Value.int .i64 (0:Int)=Value.int .i64 ((AC s).getD 0))/\(Value.bool false=Value.bool ((AC s).isSome))))/\((decide (((s.size:Nat):Int)>(19:Int)))=false->((∃ x1:Nat,(x1<=(tOf (AB s) s).size/\dvF 0 ((tOf (AB s) s).data.toList.take x1)<=9223372036854775808)/\((rf (Value.string s))/\(Value.bool false=Value.bool (AB s))/\(Value.string s=Value.string (tOf (AB s) s))/\(Value.int .i64 (0:Int)=Value.int .i64 (-((dvF 0 ((tOf (AB s) s).data.toList.take x1):Nat):Int)))/\(Value.int .i64 (0:Int)=Value.int .i64 (x1:Int))))/\∀ x1:Nat,(x1<=(tOf (AB s) s).size/\dvF 0 ((tOf (AB s) s).data.toList.take x1)<=9223372036854775808)->(((decide ((x1:Int)<(((tOf (AB s) s).size:Nat):Int)))=true->((0<=(x1:Int)/\(x1:Int)<((tOf (AB s) s).size:Int))/\(((10:Int)≠0)/\(((decide ((-((dvF 0 ((tOf (AB s) s).data.toList.take x1):Nat):Int))<(IntKind.i64.wrap (Int.tdiv (IntKind.i64.wrap ((-9223372036854775808:Int)+(IntKind.i64.wrap ((IntKind.i64.wrap (((tOf (AB s) s).get! x1).toNat:Int))-(48:Int))))) (10:Int)))))=true->((Value.int .i64 (0:Int)=Value.int .i64 ((AC s).getD 0))/\(Value.bool false=Value.bool ((AC s).isSome))))/\((decide ((-((dvF 0 ((tOf (AB s) s).data.toList.take x1):Nat):Int))<(IntKind.i64.wrap (Int.tdiv (IntKind.i64.wrap ((-9223372036854775808:Int)+(IntKind.i64.wrap ((IntKind.i64.wrap (((tOf (AB s) s).get! x1).toNat:Int))-(48:Int))))) (10:Int)))))=false->(∃ y6:Nat,(y6<=(tOf (AB s) s).size/\dvF 0 ((tOf (AB s) s).data.toList.take y6)<=9223372036854775808)/\((tOf (AB s) s).size-y6<(tOf (AB s) s).size-x1)/\((rf (Value.string s))/\(rf (Value.bool (AB s)))/\(rf (Value.string (tOf (AB s) s)))/\(Value.int .i64 (IntKind.i64.wrap ((IntKind.i64.wrap ((-((dvF 0 ((tOf (AB s) s).data.toList.take x1):Nat):Int))*(10:Int)))-(IntKind.i64.wrap ((IntKind.i64.wrap (((tOf (AB s) s).get! x1).toNat:Int))-(48:Int)))))=Value.int .i64 (-((dvF 0 ((tOf (AB s) s).data.toList.take y6):Nat):Int)))/\(Value.int .i64 (IntKind.i64.wrap ((x1:Int)+(1:Int)))=Value.int .i64 (y6:Int)))))))))/\((decide ((x1:Int)<(((tOf (AB s) s).size:Nat):Int)))=false->(((!(AB s))=true->((((-((dvF 0 ((tOf (AB s) s).data.toList.take x1):Nat):Int)) == (-9223372036854775808:Int))=true->((Value.int .i64 (0:Int)=Value.int .i64 ((AC s).getD 0))/\(Value.bool false=Value.bool ((AC s).isSome))))/\(((-((dvF 0 ((tOf (AB s) s).data.toList.take x1):Nat):Int)) == (-9223372036854775808:Int))=false->(∃ i8:Int,[DA.one (cI (IntKind.i64.wrap (0-(-((dvF 0 ((tOf (AB s) s).data.toList.take x1):Nat):Int)))))]=AM.args i8/\AM.pre i8/\(((!((AH i8).toList == s.toList))=true->((Value.int .i64 (0:Int)=Value.int .i64 ((AC s).getD 0))/\(Value.bool false=Value.bool ((AC s).isSome))))/\((!((AH i8).toList == s.toList))=false->((Value.int .i64 (IntKind.i64.wrap (0-(-((dvF 0 ((tOf (AB s) s).data.toList.take x1):Nat):Int))))=Value.int .i64 ((AC s).getD 0))/\(Value.bool true=Value.bool ((AC s).isSome)))))))))/\((!(AB s))=false->(∃ i9:Int,[DA.one (cI (-((dvF 0 ((tOf (AB s) s).data.toList.take x1):Nat):Int)))]=AM.args i9/\AM.pre i9/\(((!((AH i9).toList == s.toList))=true->((Value.int .i64 (0:Int)=Value.int .i64 ((AC s).getD 0))/\(Value.bool false=Value.bool ((AC s).isSome))))/\((!((AH i9).toList == s.toList))=false->((Value.int .i64 (-((dvF 0 ((tOf (AB s) s).data.toList.take x1):Nat):Int))=Value.int .i64 ((AC s).getD 0))/\(Value.bool true=Value.bool ((AC s).isSome))))))))))))))/\((!(!(AT i7)))=false->((Value.int .i64 (0:Int)=Value.int .i64 ((AC s).getD 0))/\(Value.bool false=Value.bool ((AC s).isSome)))))))) (by kernel_rfl) ?_
 refine And.symm ⟨λ c1=>?_,λ c1=>?_⟩
 ·-- c1f: (decide (((s.size : Nat) : Int) > (0 : Int))) = false
  replace c1:(decide (((s.size:Nat):Int)>(0:Int)))=false:=c1
  try simp only [nrm] at c1
  obtain ⟨hn,ht⟩:=Nb c1
  -- w107: sDig [DA.one (DC.im (Value.string s))]
  refine ⟨s,by
   rfl,by
   show s.size<=1073741824
   first|exact hpre|(rw [ByteArray.size_extract];omega)|(rw [hv];exact h64)|(rw [← hv];exact h64),?_⟩
  refine And.symm ⟨λ c110=>?_,λ c110=>?_⟩
  ·-- c110f: (!(!(AT s))) = false
   replace c110:(!(!(AT s)))=false:=c110
   try simp only [nrm] at c110
   have hno:AC s=none:=BO (.inl (by rw [ht];assumption))
   refine ⟨?_,?_⟩
   ·-- l155: Value.int .i64 (0 : Int) = Value.int .i64 ((AC s).getD 0)
    show Value.int .i64 (0:Int)=Value.int .i64 ((AC s).getD 0)
    first|(rw [hno];rfl)|(rw [hyes,hv];rfl)|(rw [hyes];rfl)
   -- l156: Value.bool false = Value.bool ((AC s).isSome)
   show Value.bool false=Value.bool ((AC s).isSome)
   first|(rw [hno];rfl)|(rw [hyes,hv];rfl)|(rw [hyes];rfl)
  -- c110t: (!(!(AT s))) = true
  replace c110:(!(!(AT s)))=true:=c110
  try simp only [nrm] at c110
  refine ⟨λ c111=>?_,λ c111=>?_⟩
  ·-- c111t: (decide (((s.size : Nat) : Int) > (19 : Int))) = true
   replace c111:(decide (((s.size:Nat):Int)>(19:Int)))=true:=c111
   try simp only [nrm] at c111
   have hno:AC s=none:=BO (.inr (.inl (by rw [ht];omega)))
   refine ⟨?_,?_⟩
   ·-- l112: Value.int .i64 (0 : Int) = Value.int .i64 ((AC s).getD 0)
    show Value.int .i64 (0:Int)=Value.int .i64 ((AC s).getD 0)
    first|(rw [hno];rfl)|(rw [hyes,hv];rfl)|(rw [hyes];rfl)
   -- l113: Value.bool false = Value.bool ((AC s).isSome)
   show Value.bool false=Value.bool ((AC s).isSome)
   first|(rw [hno];rfl)|(rw [hyes,hv];rfl)|(rw [hyes];rfl)
  -- c111f: (decide (((s.size : Nat) : Int) > (19 : Int))) = false
  replace c111:(decide (((s.size:Nat):Int)>(19:Int)))=false:=c111
  try simp only [nrm] at c111
  have hd:AT (tOf (AB s) s)=true:=by rw [ht];assumption
  have hz:(tOf (AB s) s).size<=19:=by rw [ht];omega
  -- i114
  refine ⟨⟨0,by
   exact ⟨Nat.zero_le _,by rw [List.take_zero];show 0<=_;omega⟩,?_⟩,?_⟩
  ·-- the beginning
   refine ⟨rfl,?_,?_,?_,rfl⟩
   ·-- b117: Value.bool false = Value.bool (AB s)
    show Value.bool false=Value.bool (AB s)
    first|exact congrArg Value.string ht.symm|exact congrArg Value.bool hn.symm|(rw [hn];simp [c3];done)|(simp [dvF];done)
   ·-- b118: Value.string s = Value.string (tOf (AB s) s)
    show Value.string s=Value.string (tOf (AB s) s)
    first|exact congrArg Value.string ht.symm|exact congrArg Value.bool hn.symm|(rw [hn];simp [c3];done)|(simp [dvF];done)
   -- b119: Value.int .i64 (0 : Int) = Value.int .i64 (-((dvF 0 ((tOf (AB s) s).data.toList.take 0) : Nat) : Int))
   show Value.int .i64 (0:Int)=Value.int .i64 (-((dvF 0 ((tOf (AB s) s).data.toList.take 0):Nat):Int))
   first|exact congrArg Value.string ht.symm|exact congrArg Value.bool hn.symm|(rw [hn];simp [c3];done)|(simp [dvF];done)
  intro (k:Nat) hki114
  have hki114:k<=(tOf (AB s) s).size/\dvF 0 ((tOf (AB s) s).data.toList.take k)<=9223372036854775808:=hki114
  refine ⟨λ c121=>?_,λ c121=>?_⟩
  ·-- c121t: (decide ((k : Int) < (((tOf (AB s) s).size : Nat) : Int))) = true
   replace c121:(decide ((k:Int)<(((tOf (AB s) s).size:Nat):Int)))=true:=c121
   try simp only [nrm] at c121
   refine ao (a:=0<=(k:Int)/\(k:Int)<((tOf (AB s) s).size:Int)) (by first|rfl|omega|(simp;done)|(simp;omega)) λ o122=>?_
   refine ao (a:=(10:Int)≠0) (by first|rfl|omega|(simp;done)|(simp;omega)) λ o123=>?_
   refine ⟨λ c124=>?_,λ c124=>?_⟩
   ·-- c124t: (decide ((-((dvF 0 ((tOf (AB s) s).data.toList.take k) : Nat) : Int)) < (IntKind.i64.wrap (Int.tdiv (IntKind.i64.wrap ((-9223372036854775808 : Int) + (IntKind.i64.wrap ((IntKind.i64.wrap (((tOf (AB s) s).get! k).toNat : Int)) - (48 : Int))))) (10 : Int))))) = true
    try dsimp only at c124
    try simp only [nrm] at c124
    have hno:AC s=none:=JY hd (by omega) c124
    refine ⟨?_,?_⟩
    ·-- l125: Value.int .i64 (0 : Int) = Value.int .i64 ((AC s).getD 0)
     show Value.int .i64 (0:Int)=Value.int .i64 ((AC s).getD 0)
     first|(rw [hno];rfl)|(rw [hyes,hv];rfl)|(rw [hyes];rfl)
    -- l126: Value.bool false = Value.bool ((AC s).isSome)
    show Value.bool false=Value.bool ((AC s).isSome)
    first|(rw [hno];rfl)|(rw [hyes,hv];rfl)|(rw [hyes];rfl)
   -- c124f: (decide ((-((dvF 0 ((tOf (AB s) s).data.toList.take k) : Nat) : Int)) < (IntKind.i64.wrap (Int.tdiv (IntKind.i64.wrap ((-9223372036854775808 : Int) + (IntKind.i64.wrap ((IntKind.i64.wrap (((tOf (AB s) s).get! k).toNat : Int)) - (48 : Int))))) (10 : Int))))) = false
   try dsimp only at c124
   try simp only [nrm] at c124
   obtain ⟨hb,hv⟩:=L6 hd (by omega) c124
   -- n127
   refine ⟨k+1,by
    exact ⟨by omega,hb⟩,by
    first|omega|(simp;omega),?_⟩
   refine ⟨rfl,rfl,rfl,?_,?_⟩
   ·-- e133: Value.int .i64 (IntKind.i64.wrap ((IntKind.i64.wrap ((-((dvF 0 ((tOf (AB s) s).data.toList.take k) : Nat) : Int)) * (10 : Int))) - (IntKind.i64.wrap ((IntKind.i64.wrap (((tOf (AB s) s).get! k).toNat : Int)) - (48 : Int))))) = Value.int .i64 (-((dvF 0 ((tOf (AB s) s).data.toList.take (k + 1)) : Nat) : Int))
    show Value.int .i64 (IntKind.i64.wrap ((IntKind.i64.wrap ((-((dvF 0 ((tOf (AB s) s).data.toList.take k):Nat):Int))*(10:Int)))-(IntKind.i64.wrap ((IntKind.i64.wrap (((tOf (AB s) s).get! k).toNat:Int))-(48:Int)))))=Value.int .i64 (-((dvF 0 ((tOf (AB s) s).data.toList.take (k+1)):Nat):Int))
    rw [hv]
   -- e134: Value.int .i64 (IntKind.i64.wrap ((k : Int) + (1 : Int))) = Value.int .i64 ((k + 1) : Int)
   show Value.int .i64 (IntKind.i64.wrap ((k:Int)+(1:Int)))=Value.int .i64 ((k+1):Int)
   exact B8 (AU (by omega) (by omega))
  -- c121f: (decide ((k : Int) < (((tOf (AB s) s).size : Nat) : Int))) = false
  replace c121:(decide ((k:Int)<(((tOf (AB s) s).size:Nat):Int)))=false:=c121
  try simp only [nrm] at c121
  refine And.symm ⟨λ c135=>?_,λ c135=>?_⟩
  ·-- c135f: (!(AB s)) = false
   replace c135:(!(AB s))=false:=c135
   try simp only [nrm] at c135
   obtain ⟨hv,h64⟩:=Ha c135 (by omega) hki114.2
   -- w147: sFmtInt [DA.one (DC.im (Value.int .i64 (-((dvF 0 ((tOf (AB s) s).data.toList.take k) : Nat) : Int))))]
   refine ⟨(-((dvF 0 ((tOf (AB s) s).data.toList.take k):Nat):Int)),by
    rfl,by
    show -9223372036854775808<=(-((dvF 0 ((tOf (AB s) s).data.toList.take k):Nat):Int))/\(-((dvF 0 ((tOf (AB s) s).data.toList.take k):Nat):Int))<=9223372036854775807
    first|exact hpre|(rw [ByteArray.size_extract];omega)|(rw [hv];exact h64)|(rw [← hv];exact h64),?_⟩
   refine ⟨λ c150=>?_,λ c150=>?_⟩
   ·-- c150t: (!((AH (-((dvF 0 ((tOf (AB s) s).data.toList.take k) : Nat) : Int))).toList == s.toList)) = true
    replace c150:(!((AH (-((dvF 0 ((tOf (AB s) s).data.toList.take k):Nat):Int))).toList == s.toList))=true:=c150
    try simp only [nrm] at c150
    have hno:AC s=none:=C9 (Er (by rw [hv];exact c150))
    refine ⟨?_,?_⟩
    ·-- l151: Value.int .i64 (0 : Int) = Value.int .i64 ((AC s).getD 0)
     show Value.int .i64 (0:Int)=Value.int .i64 ((AC s).getD 0)
     first|(rw [hno];rfl)|(rw [hyes,hv];rfl)|(rw [hyes];rfl)
    -- l152: Value.bool false = Value.bool ((AC s).isSome)
    show Value.bool false=Value.bool ((AC s).isSome)
    first|(rw [hno];rfl)|(rw [hyes,hv];rfl)|(rw [hyes];rfl)
   -- c150f: (!((AH (-((dvF 0 ((tOf (AB s) s).data.toList.take k) : Nat) : Int))).toList == s.toList)) = false
   replace c150:(!((AH (-((dvF 0 ((tOf (AB s) s).data.toList.take k):Nat):Int))).toList == s.toList))=false:=c150
   try simp only [nrm] at c150
   have hyes:AC s=some (nOf s):=CL (Es (by rw [hv];exact c150)) h64
   refine ⟨?_,?_⟩
   ·-- l153: Value.int .i64 (-((dvF 0 ((tOf (AB s) s).data.toList.take k) : Nat) : Int)) = Value.int .i64 ((AC s).getD 0)
    show Value.int .i64 (-((dvF 0 ((tOf (AB s) s).data.toList.take k):Nat):Int))=Value.int .i64 ((AC s).getD 0)
    first|(rw [hno];rfl)|(rw [hyes,hv];rfl)|(rw [hyes];rfl)
   -- l154: Value.bool true = Value.bool ((AC s).isSome)
   show Value.bool true=Value.bool ((AC s).isSome)
   first|(rw [hno];rfl)|(rw [hyes,hv];rfl)|(rw [hyes];rfl)
  -- c135t: (!(AB s)) = true
  replace c135:(!(AB s))=true:=c135
  try simp only [nrm] at c135
  obtain ⟨hv1,hv2⟩:=Hb c135 (by omega) hki114.2
  refine ⟨λ c136=>?_,λ c136=>?_⟩
  ·-- c136t: ((-((dvF 0 ((tOf (AB s) s).data.toList.take k) : Nat) : Int)) == (-9223372036854775808 : Int)) = true
   replace c136:((-((dvF 0 ((tOf (AB s) s).data.toList.take k):Nat):Int)) == (-9223372036854775808:Int))=true:=c136
   try simp only [nrm] at c136
   have hno:=hv1 c136
   refine ⟨?_,?_⟩
   ·-- l137: Value.int .i64 (0 : Int) = Value.int .i64 ((AC s).getD 0)
    show Value.int .i64 (0:Int)=Value.int .i64 ((AC s).getD 0)
    first|(rw [hno];rfl)|(rw [hyes,hv];rfl)|(rw [hyes];rfl)
   -- l138: Value.bool false = Value.bool ((AC s).isSome)
   show Value.bool false=Value.bool ((AC s).isSome)
   first|(rw [hno];rfl)|(rw [hyes,hv];rfl)|(rw [hyes];rfl)
  -- c136f: ((-((dvF 0 ((tOf (AB s) s).data.toList.take k) : Nat) : Int)) == (-9223372036854775808 : Int)) = false
  replace c136:((-((dvF 0 ((tOf (AB s) s).data.toList.take k):Nat):Int)) == (-9223372036854775808:Int))=false:=c136
  try simp only [nrm] at c136
  obtain ⟨hv,h64⟩:=hv2 c136
  -- w139: sFmtInt [DA.one (DC.im (Value.int .i64 (IntKind.i64.wrap (0 - (-((dvF 0 ((tOf (AB s) s).data.toList.take k) : Nat) : Int))))))]
  refine ⟨(IntKind.i64.wrap (0-(-((dvF 0 ((tOf (AB s) s).data.toList.take k):Nat):Int)))),by
   rfl,by
   try dsimp only [AM]
   first|exact hpre|(rw [ByteArray.size_extract];omega)|(rw [hv];exact h64)|(rw [← hv];exact h64),?_⟩
  refine ⟨λ c142=>?_,λ c142=>?_⟩
  ·-- c142t: (!((AH (IntKind.i64.wrap (0 - (-((dvF 0 ((tOf (AB s) s).data.toList.take k) : Nat) : Int))))).toList == s.toList)) = true
   replace c142:(!((AH (IntKind.i64.wrap (0-(-((dvF 0 ((tOf (AB s) s).data.toList.take k):Nat):Int))))).toList == s.toList))=true:=c142
   try simp only [nrm] at c142
   have hno:AC s=none:=C9 (Er (by rw [← hv];exact c142))
   refine ⟨?_,?_⟩
   ·-- l143: Value.int .i64 (0 : Int) = Value.int .i64 ((AC s).getD 0)
    show Value.int .i64 (0:Int)=Value.int .i64 ((AC s).getD 0)
    first|(rw [hno];rfl)|(rw [hyes,hv];rfl)|(rw [hyes];rfl)
   -- l144: Value.bool false = Value.bool ((AC s).isSome)
   show Value.bool false=Value.bool ((AC s).isSome)
   first|(rw [hno];rfl)|(rw [hyes,hv];rfl)|(rw [hyes];rfl)
  -- c142f: (!((AH (IntKind.i64.wrap (0 - (-((dvF 0 ((tOf (AB s) s).data.toList.take k) : Nat) : Int))))).toList == s.toList)) = false
  replace c142:(!((AH (IntKind.i64.wrap (0-(-((dvF 0 ((tOf (AB s) s).data.toList.take k):Nat):Int))))).toList == s.toList))=false:=c142
  try simp only [nrm] at c142
  have hyes:AC s=some (nOf s):=CL (Es (by rw [← hv];exact c142)) h64
  refine ⟨?_,?_⟩
  ·-- l145: Value.int .i64 (IntKind.i64.wrap (0 - (-((dvF 0 ((tOf (AB s) s).data.toList.take k) : Nat) : Int)))) = Value.int .i64 ((AC s).getD 0)
   show Value.int .i64 (IntKind.i64.wrap (0-(-((dvF 0 ((tOf (AB s) s).data.toList.take k):Nat):Int))))=Value.int .i64 ((AC s).getD 0)
   first|(rw [hno];rfl)|(rw [hyes,hv];rfl)|(rw [hyes];rfl)
  -- l146: Value.bool true = Value.bool ((AC s).isSome)
  show Value.bool true=Value.bool ((AC s).isSome)
  first|(rw [hno];rfl)|(rw [hyes,hv];rfl)|(rw [hyes];rfl)
 -- c1t: (decide (((s.size : Nat) : Int) > (0 : Int))) = true
 replace c1:(decide (((s.size:Nat):Int)>(0:Int)))=true:=c1
 try simp only [nrm] at c1
 refine ao (a:=0<=(0:Int)/\(0:Int)<(s.size:Int)) (by first|rfl|omega|(simp;done)|(simp;omega)) λ o2=>?_
 refine And.symm ⟨λ c3=>?_,λ c3=>?_⟩
 ·-- c3f: (((s.get! 0).toNat : Int) == (45 : Int)) = false
  replace c3:(((s.get! 0).toNat:Int) == (45:Int))=false:=c3
  try simp only [nrm] at c3
  obtain ⟨hn,ht⟩:=Nc c3
  -- w57: sDig [DA.one (DC.im (Value.string s))]
  refine ⟨s,by
   rfl,by
   show s.size<=1073741824
   first|exact hpre|(rw [ByteArray.size_extract];omega)|(rw [hv];exact h64)|(rw [← hv];exact h64),?_⟩
  refine And.symm ⟨λ c60=>?_,λ c60=>?_⟩
  ·-- c60f: (!(!(AT s))) = false
   replace c60:(!(!(AT s)))=false:=c60
   try simp only [nrm] at c60
   have hno:AC s=none:=BO (.inl (by rw [ht];assumption))
   refine ⟨?_,?_⟩
   ·-- l105: Value.int .i64 (0 : Int) = Value.int .i64 ((AC s).getD 0)
    show Value.int .i64 (0:Int)=Value.int .i64 ((AC s).getD 0)
    first|(rw [hno];rfl)|(rw [hyes,hv];rfl)|(rw [hyes];rfl)
   -- l106: Value.bool false = Value.bool ((AC s).isSome)
   show Value.bool false=Value.bool ((AC s).isSome)
   first|(rw [hno];rfl)|(rw [hyes,hv];rfl)|(rw [hyes];rfl)
  -- c60t: (!(!(AT s))) = true
  replace c60:(!(!(AT s)))=true:=c60
  try simp only [nrm] at c60
  refine ⟨λ c61=>?_,λ c61=>?_⟩
  ·-- c61t: (decide (((s.size : Nat) : Int) > (19 : Int))) = true
   replace c61:(decide (((s.size:Nat):Int)>(19:Int)))=true:=c61
   try simp only [nrm] at c61
   have hno:AC s=none:=BO (.inr (.inl (by rw [ht];omega)))
   refine ⟨?_,?_⟩
   ·-- l62: Value.int .i64 (0 : Int) = Value.int .i64 ((AC s).getD 0)
    show Value.int .i64 (0:Int)=Value.int .i64 ((AC s).getD 0)
    first|(rw [hno];rfl)|(rw [hyes,hv];rfl)|(rw [hyes];rfl)
   -- l63: Value.bool false = Value.bool ((AC s).isSome)
   show Value.bool false=Value.bool ((AC s).isSome)
   first|(rw [hno];rfl)|(rw [hyes,hv];rfl)|(rw [hyes];rfl)
  -- c61f: (decide (((s.size : Nat) : Int) > (19 : Int))) = false
  replace c61:(decide (((s.size:Nat):Int)>(19:Int)))=false:=c61
  try simp only [nrm] at c61
  have hd:AT (tOf (AB s) s)=true:=by rw [ht];assumption
  have hz:(tOf (AB s) s).size<=19:=by rw [ht];omega
  -- i64
  refine ⟨⟨0,by
   exact ⟨Nat.zero_le _,by rw [List.take_zero];show 0<=_;omega⟩,?_⟩,?_⟩
  ·-- the beginning
   refine ⟨rfl,?_,?_,?_,rfl⟩
   ·-- b67: Value.bool (((s.get! 0).toNat : Int) == (45 : Int)) = Value.bool (AB s)
    show Value.bool (((s.get! 0).toNat:Int) == (45:Int))=Value.bool (AB s)
    first|exact congrArg Value.string ht.symm|exact congrArg Value.bool hn.symm|(rw [hn];simp [c3];done)|(simp [dvF];done)
   ·-- b68: Value.string s = Value.string (tOf (AB s) s)
    show Value.string s=Value.string (tOf (AB s) s)
    first|exact congrArg Value.string ht.symm|exact congrArg Value.bool hn.symm|(rw [hn];simp [c3];done)|(simp [dvF];done)
   -- b69: Value.int .i64 (0 : Int) = Value.int .i64 (-((dvF 0 ((tOf (AB s) s).data.toList.take 0) : Nat) : Int))
   show Value.int .i64 (0:Int)=Value.int .i64 (-((dvF 0 ((tOf (AB s) s).data.toList.take 0):Nat):Int))
   first|exact congrArg Value.string ht.symm|exact congrArg Value.bool hn.symm|(rw [hn];simp [c3];done)|(simp [dvF];done)
  intro (k:Nat) hki64
  have hki64:k<=(tOf (AB s) s).size/\dvF 0 ((tOf (AB s) s).data.toList.take k)<=9223372036854775808:=hki64
  refine ⟨λ c71=>?_,λ c71=>?_⟩
  ·-- c71t: (decide ((k : Int) < (((tOf (AB s) s).size : Nat) : Int))) = true
   replace c71:(decide ((k:Int)<(((tOf (AB s) s).size:Nat):Int)))=true:=c71
   try simp only [nrm] at c71
   refine ao (a:=0<=(k:Int)/\(k:Int)<((tOf (AB s) s).size:Int)) (by first|rfl|omega|(simp;done)|(simp;omega)) λ o72=>?_
   refine ao (a:=(10:Int)≠0) (by first|rfl|omega|(simp;done)|(simp;omega)) λ o73=>?_
   refine ⟨λ c74=>?_,λ c74=>?_⟩
   ·-- c74t: (decide ((-((dvF 0 ((tOf (AB s) s).data.toList.take k) : Nat) : Int)) < (IntKind.i64.wrap (Int.tdiv (IntKind.i64.wrap ((-9223372036854775808 : Int) + (IntKind.i64.wrap ((IntKind.i64.wrap (((tOf (AB s) s).get! k).toNat : Int)) - (48 : Int))))) (10 : Int))))) = true
    try dsimp only at c74
    try simp only [nrm] at c74
    have hno:AC s=none:=JY hd (by omega) c74
    refine ⟨?_,?_⟩
    ·-- l75: Value.int .i64 (0 : Int) = Value.int .i64 ((AC s).getD 0)
     show Value.int .i64 (0:Int)=Value.int .i64 ((AC s).getD 0)
     first|(rw [hno];rfl)|(rw [hyes,hv];rfl)|(rw [hyes];rfl)
    -- l76: Value.bool false = Value.bool ((AC s).isSome)
    show Value.bool false=Value.bool ((AC s).isSome)
    first|(rw [hno];rfl)|(rw [hyes,hv];rfl)|(rw [hyes];rfl)
   -- c74f: (decide ((-((dvF 0 ((tOf (AB s) s).data.toList.take k) : Nat) : Int)) < (IntKind.i64.wrap (Int.tdiv (IntKind.i64.wrap ((-9223372036854775808 : Int) + (IntKind.i64.wrap ((IntKind.i64.wrap (((tOf (AB s) s).get! k).toNat : Int)) - (48 : Int))))) (10 : Int))))) = false
   try dsimp only at c74
   try simp only [nrm] at c74
   obtain ⟨hb,hv⟩:=L6 hd (by omega) c74
   -- n77
   refine ⟨k+1,by
    exact ⟨by omega,hb⟩,by
    first|omega|(simp;omega),?_⟩
   refine ⟨rfl,rfl,rfl,?_,?_⟩
   ·-- e83: Value.int .i64 (IntKind.i64.wrap ((IntKind.i64.wrap ((-((dvF 0 ((tOf (AB s) s).data.toList.take k) : Nat) : Int)) * (10 : Int))) - (IntKind.i64.wrap ((IntKind.i64.wrap (((tOf (AB s) s).get! k).toNat : Int)) - (48 : Int))))) = Value.int .i64 (-((dvF 0 ((tOf (AB s) s).data.toList.take (k + 1)) : Nat) : Int))
    show Value.int .i64 (IntKind.i64.wrap ((IntKind.i64.wrap ((-((dvF 0 ((tOf (AB s) s).data.toList.take k):Nat):Int))*(10:Int)))-(IntKind.i64.wrap ((IntKind.i64.wrap (((tOf (AB s) s).get! k).toNat:Int))-(48:Int)))))=Value.int .i64 (-((dvF 0 ((tOf (AB s) s).data.toList.take (k+1)):Nat):Int))
    rw [hv]
   -- e84: Value.int .i64 (IntKind.i64.wrap ((k : Int) + (1 : Int))) = Value.int .i64 ((k + 1) : Int)
   show Value.int .i64 (IntKind.i64.wrap ((k:Int)+(1:Int)))=Value.int .i64 ((k+1):Int)
   exact B8 (AU (by omega) (by omega))
  -- c71f: (decide ((k : Int) < (((tOf (AB s) s).size : Nat) : Int))) = false
  replace c71:(decide ((k:Int)<(((tOf (AB s) s).size:Nat):Int)))=false:=c71
  try simp only [nrm] at c71
  refine And.symm ⟨λ c85=>?_,λ c85=>?_⟩
  ·-- c85f: (!(AB s)) = false
   replace c85:(!(AB s))=false:=c85
   try simp only [nrm] at c85
   obtain ⟨hv,h64⟩:=Ha c85 (by omega) hki64.2
   -- w97: sFmtInt [DA.one (DC.im (Value.int .i64 (-((dvF 0 ((tOf (AB s) s).data.toList.take k) : Nat) : Int))))]
   refine ⟨(-((dvF 0 ((tOf (AB s) s).data.toList.take k):Nat):Int)),by
    rfl,by
    show -9223372036854775808<=(-((dvF 0 ((tOf (AB s) s).data.toList.take k):Nat):Int))/\(-((dvF 0 ((tOf (AB s) s).data.toList.take k):Nat):Int))<=9223372036854775807
    first|exact hpre|(rw [ByteArray.size_extract];omega)|(rw [hv];exact h64)|(rw [← hv];exact h64),?_⟩
   refine ⟨λ c100=>?_,λ c100=>?_⟩
   ·-- c100t: (!((AH (-((dvF 0 ((tOf (AB s) s).data.toList.take k) : Nat) : Int))).toList == s.toList)) = true
    replace c100:(!((AH (-((dvF 0 ((tOf (AB s) s).data.toList.take k):Nat):Int))).toList == s.toList))=true:=c100
    try simp only [nrm] at c100
    have hno:AC s=none:=C9 (Er (by rw [hv];exact c100))
    refine ⟨?_,?_⟩
    ·-- l101: Value.int .i64 (0 : Int) = Value.int .i64 ((AC s).getD 0)
     show Value.int .i64 (0:Int)=Value.int .i64 ((AC s).getD 0)
     first|(rw [hno];rfl)|(rw [hyes,hv];rfl)|(rw [hyes];rfl)
    -- l102: Value.bool false = Value.bool ((AC s).isSome)
    show Value.bool false=Value.bool ((AC s).isSome)
    first|(rw [hno];rfl)|(rw [hyes,hv];rfl)|(rw [hyes];rfl)
   -- c100f: (!((AH (-((dvF 0 ((tOf (AB s) s).data.toList.take k) : Nat) : Int))).toList == s.toList)) = false
   replace c100:(!((AH (-((dvF 0 ((tOf (AB s) s).data.toList.take k):Nat):Int))).toList == s.toList))=false:=c100
   try simp only [nrm] at c100
   have hyes:AC s=some (nOf s):=CL (Es (by rw [hv];exact c100)) h64
   refine ⟨?_,?_⟩
   ·-- l103: Value.int .i64 (-((dvF 0 ((tOf (AB s) s).data.toList.take k) : Nat) : Int)) = Value.int .i64 ((AC s).getD 0)
    show Value.int .i64 (-((dvF 0 ((tOf (AB s) s).data.toList.take k):Nat):Int))=Value.int .i64 ((AC s).getD 0)
    first|(rw [hno];rfl)|(rw [hyes,hv];rfl)|(rw [hyes];rfl)
   -- l104: Value.bool true = Value.bool ((AC s).isSome)
   show Value.bool true=Value.bool ((AC s).isSome)
   first|(rw [hno];rfl)|(rw [hyes,hv];rfl)|(rw [hyes];rfl)
  -- c85t: (!(AB s)) = true
  replace c85:(!(AB s))=true:=c85
  try simp only [nrm] at c85
  obtain ⟨hv1,hv2⟩:=Hb c85 (by omega) hki64.2
  refine ⟨λ c86=>?_,λ c86=>?_⟩
  ·-- c86t: ((-((dvF 0 ((tOf (AB s) s).data.toList.take k) : Nat) : Int)) == (-9223372036854775808 : Int)) = true
   replace c86:((-((dvF 0 ((tOf (AB s) s).data.toList.take k):Nat):Int)) == (-9223372036854775808:Int))=true:=c86
   try simp only [nrm] at c86
   have hno:=hv1 c86
   refine ⟨?_,?_⟩
   ·-- l87: Value.int .i64 (0 : Int) = Value.int .i64 ((AC s).getD 0)
    show Value.int .i64 (0:Int)=Value.int .i64 ((AC s).getD 0)
    first|(rw [hno];rfl)|(rw [hyes,hv];rfl)|(rw [hyes];rfl)
   -- l88: Value.bool false = Value.bool ((AC s).isSome)
   show Value.bool false=Value.bool ((AC s).isSome)
   first|(rw [hno];rfl)|(rw [hyes,hv];rfl)|(rw [hyes];rfl)
  -- c86f: ((-((dvF 0 ((tOf (AB s) s).data.toList.take k) : Nat) : Int)) == (-9223372036854775808 : Int)) = false
  replace c86:((-((dvF 0 ((tOf (AB s) s).data.toList.take k):Nat):Int)) == (-9223372036854775808:Int))=false:=c86
  try simp only [nrm] at c86
  obtain ⟨hv,h64⟩:=hv2 c86
  -- w89: sFmtInt [DA.one (DC.im (Value.int .i64 (IntKind.i64.wrap (0 - (-((dvF 0 ((tOf (AB s) s).data.toList.take k) : Nat) : Int))))))]
  refine ⟨(IntKind.i64.wrap (0-(-((dvF 0 ((tOf (AB s) s).data.toList.take k):Nat):Int)))),by
   rfl,by
   try dsimp only [AM]
   first|exact hpre|(rw [ByteArray.size_extract];omega)|(rw [hv];exact h64)|(rw [← hv];exact h64),?_⟩
  refine ⟨λ c92=>?_,λ c92=>?_⟩
  ·-- c92t: (!((AH (IntKind.i64.wrap (0 - (-((dvF 0 ((tOf (AB s) s).data.toList.take k) : Nat) : Int))))).toList == s.toList)) = true
   replace c92:(!((AH (IntKind.i64.wrap (0-(-((dvF 0 ((tOf (AB s) s).data.toList.take k):Nat):Int))))).toList == s.toList))=true:=c92
   try simp only [nrm] at c92
   have hno:AC s=none:=C9 (Er (by rw [← hv];exact c92))
   refine ⟨?_,?_⟩
   ·-- l93: Value.int .i64 (0 : Int) = Value.int .i64 ((AC s).getD 0)
    show Value.int .i64 (0:Int)=Value.int .i64 ((AC s).getD 0)
    first|(rw [hno];rfl)|(rw [hyes,hv];rfl)|(rw [hyes];rfl)
   -- l94: Value.bool false = Value.bool ((AC s).isSome)
   show Value.bool false=Value.bool ((AC s).isSome)
   first|(rw [hno];rfl)|(rw [hyes,hv];rfl)|(rw [hyes];rfl)
  -- c92f: (!((AH (IntKind.i64.wrap (0 - (-((dvF 0 ((tOf (AB s) s).data.toList.take k) : Nat) : Int))))).toList == s.toList)) = false
  replace c92:(!((AH (IntKind.i64.wrap (0-(-((dvF 0 ((tOf (AB s) s).data.toList.take k):Nat):Int))))).toList == s.toList))=false:=c92
  try simp only [nrm] at c92
  have hyes:AC s=some (nOf s):=CL (Es (by rw [← hv];exact c92)) h64
  refine ⟨?_,?_⟩
  ·-- l95: Value.int .i64 (IntKind.i64.wrap (0 - (-((dvF 0 ((tOf (AB s) s).data.toList.take k) : Nat) : Int)))) = Value.int .i64 ((AC s).getD 0)
   show Value.int .i64 (IntKind.i64.wrap (0-(-((dvF 0 ((tOf (AB s) s).data.toList.take k):Nat):Int))))=Value.int .i64 ((AC s).getD 0)
   first|(rw [hno];rfl)|(rw [hyes,hv];rfl)|(rw [hyes];rfl)
  -- l96: Value.bool true = Value.bool ((AC s).isSome)
  show Value.bool true=Value.bool ((AC s).isSome)
  first|(rw [hno];rfl)|(rw [hyes,hv];rfl)|(rw [hyes];rfl)
 -- c3t: (((s.get! 0).toNat : Int) == (45 : Int)) = true
 replace c3:(((s.get! 0).toNat:Int) == (45:Int))=true:=c3
 try simp only [nrm] at c3
 obtain ⟨hn,ht⟩:=Nd c1 c3
 refine ao (a:=0<=(1:Int)) (by first|rfl|omega|(simp;done)|(simp;omega)) λ o4=>?_
 refine ao (a:=(1:Int)<=(s.size:Int)) (by first|rfl|omega|(simp;done)|(simp;omega)) λ o5=>?_
 refine ao (a:=(s.size:Int)<=(s.size:Int)) (by first|rfl|omega|(simp;done)|(simp;omega)) λ o6=>?_
 -- w7: sDig [DA.one (DC.im (Value.string (s.extract 1 s.size)))]
 refine ⟨(s.extract 1 s.size),by
  rfl,by
  show (s.extract 1 s.size).size<=1073741824
  first|exact hpre|(rw [ByteArray.size_extract];omega)|(rw [hv];exact h64)|(rw [← hv];exact h64),?_⟩
 refine And.symm ⟨λ c10=>?_,λ c10=>?_⟩
 ·-- c10f: (!(!(AT (s.extract 1 s.size)))) = false
  replace c10:(!(!(AT (s.extract 1 s.size))))=false:=c10
  try simp only [nrm] at c10
  have hno:AC s=none:=BO (.inl (by rw [ht];assumption))
  refine ⟨?_,?_⟩
  ·-- l55: Value.int .i64 (0 : Int) = Value.int .i64 ((AC s).getD 0)
   show Value.int .i64 (0:Int)=Value.int .i64 ((AC s).getD 0)
   first|(rw [hno];rfl)|(rw [hyes,hv];rfl)|(rw [hyes];rfl)
  -- l56: Value.bool false = Value.bool ((AC s).isSome)
  show Value.bool false=Value.bool ((AC s).isSome)
  first|(rw [hno];rfl)|(rw [hyes,hv];rfl)|(rw [hyes];rfl)
 -- c10t: (!(!(AT (s.extract 1 s.size)))) = true
 replace c10:(!(!(AT (s.extract 1 s.size))))=true:=c10
 try simp only [nrm] at c10
 refine ⟨λ c11=>?_,λ c11=>?_⟩
 ·-- c11t: (decide ((((s.extract 1 s.size).size : Nat) : Int) > (19 : Int))) = true
  replace c11:(decide ((((s.extract 1 s.size).size:Nat):Int)>(19:Int)))=true:=c11
  try simp only [nrm] at c11
  have hno:AC s=none:=BO (.inr (.inl (by rw [ht];omega)))
  refine ⟨?_,?_⟩
  ·-- l12: Value.int .i64 (0 : Int) = Value.int .i64 ((AC s).getD 0)
   show Value.int .i64 (0:Int)=Value.int .i64 ((AC s).getD 0)
   first|(rw [hno];rfl)|(rw [hyes,hv];rfl)|(rw [hyes];rfl)
  -- l13: Value.bool false = Value.bool ((AC s).isSome)
  show Value.bool false=Value.bool ((AC s).isSome)
  first|(rw [hno];rfl)|(rw [hyes,hv];rfl)|(rw [hyes];rfl)
 -- c11f: (decide ((((s.extract 1 s.size).size : Nat) : Int) > (19 : Int))) = false
 replace c11:(decide ((((s.extract 1 s.size).size:Nat):Int)>(19:Int)))=false:=c11
 try simp only [nrm] at c11
 have hd:AT (tOf (AB s) s)=true:=by rw [ht];assumption
 have hz:(tOf (AB s) s).size<=19:=by rw [ht];omega
 -- i14
 refine ⟨⟨0,by
  exact ⟨Nat.zero_le _,by rw [List.take_zero];show 0<=_;omega⟩,?_⟩,?_⟩
 ·-- the beginning
  refine ⟨rfl,?_,?_,?_,rfl⟩
  ·-- b17: Value.bool (((s.get! 0).toNat : Int) == (45 : Int)) = Value.bool (AB s)
   show Value.bool (((s.get! 0).toNat:Int) == (45:Int))=Value.bool (AB s)
   first|exact congrArg Value.string ht.symm|exact congrArg Value.bool hn.symm|(rw [hn];simp [c3];done)|(simp [dvF];done)
  ·-- b18: Value.string (s.extract 1 s.size) = Value.string (tOf (AB s) s)
   show Value.string (s.extract 1 s.size)=Value.string (tOf (AB s) s)
   first|exact congrArg Value.string ht.symm|exact congrArg Value.bool hn.symm|(rw [hn];simp [c3];done)|(simp [dvF];done)
  -- b19: Value.int .i64 (0 : Int) = Value.int .i64 (-((dvF 0 ((tOf (AB s) s).data.toList.take 0) : Nat) : Int))
  show Value.int .i64 (0:Int)=Value.int .i64 (-((dvF 0 ((tOf (AB s) s).data.toList.take 0):Nat):Int))
  first|exact congrArg Value.string ht.symm|exact congrArg Value.bool hn.symm|(rw [hn];simp [c3];done)|(simp [dvF];done)
 intro (k:Nat) hki14
 have hki14:k<=(tOf (AB s) s).size/\dvF 0 ((tOf (AB s) s).data.toList.take k)<=9223372036854775808:=hki14
 refine ⟨λ c21=>?_,λ c21=>?_⟩
 ·-- c21t: (decide ((k : Int) < (((tOf (AB s) s).size : Nat) : Int))) = true
  replace c21:(decide ((k:Int)<(((tOf (AB s) s).size:Nat):Int)))=true:=c21
  try simp only [nrm] at c21
  refine ao (a:=0<=(k:Int)/\(k:Int)<((tOf (AB s) s).size:Int)) (by first|rfl|omega|(simp;done)|(simp;omega)) λ o22=>?_
  refine ao (a:=(10:Int)≠0) (by first|rfl|omega|(simp;done)|(simp;omega)) λ o23=>?_
  refine ⟨λ c24=>?_,λ c24=>?_⟩
  ·-- c24t: (decide ((-((dvF 0 ((tOf (AB s) s).data.toList.take k) : Nat) : Int)) < (IntKind.i64.wrap (Int.tdiv (IntKind.i64.wrap ((-9223372036854775808 : Int) + (IntKind.i64.wrap ((IntKind.i64.wrap (((tOf (AB s) s).get! k).toNat : Int)) - (48 : Int))))) (10 : Int))))) = true
   try dsimp only at c24
   try simp only [nrm] at c24
   have hno:AC s=none:=JY hd (by omega) c24
   refine ⟨?_,?_⟩
   ·-- l25: Value.int .i64 (0 : Int) = Value.int .i64 ((AC s).getD 0)
    show Value.int .i64 (0:Int)=Value.int .i64 ((AC s).getD 0)
    first|(rw [hno];rfl)|(rw [hyes,hv];rfl)|(rw [hyes];rfl)
   -- l26: Value.bool false = Value.bool ((AC s).isSome)
   show Value.bool false=Value.bool ((AC s).isSome)
   first|(rw [hno];rfl)|(rw [hyes,hv];rfl)|(rw [hyes];rfl)
  -- c24f: (decide ((-((dvF 0 ((tOf (AB s) s).data.toList.take k) : Nat) : Int)) < (IntKind.i64.wrap (Int.tdiv (IntKind.i64.wrap ((-9223372036854775808 : Int) + (IntKind.i64.wrap ((IntKind.i64.wrap (((tOf (AB s) s).get! k).toNat : Int)) - (48 : Int))))) (10 : Int))))) = false
  try dsimp only at c24
  try simp only [nrm] at c24
  obtain ⟨hb,hv⟩:=L6 hd (by omega) c24
  -- n27
  refine ⟨k+1,by
   exact ⟨by omega,hb⟩,by
   first|omega|(simp;omega),?_⟩
  refine ⟨rfl,rfl,rfl,?_,?_⟩
  ·-- e33: Value.int .i64 (IntKind.i64.wrap ((IntKind.i64.wrap ((-((dvF 0 ((tOf (AB s) s).data.toList.take k) : Nat) : Int)) * (10 : Int))) - (IntKind.i64.wrap ((IntKind.i64.wrap (((tOf (AB s) s).get! k).toNat : Int)) - (48 : Int))))) = Value.int .i64 (-((dvF 0 ((tOf (AB s) s).data.toList.take (k + 1)) : Nat) : Int))
   show Value.int .i64 (IntKind.i64.wrap ((IntKind.i64.wrap ((-((dvF 0 ((tOf (AB s) s).data.toList.take k):Nat):Int))*(10:Int)))-(IntKind.i64.wrap ((IntKind.i64.wrap (((tOf (AB s) s).get! k).toNat:Int))-(48:Int)))))=Value.int .i64 (-((dvF 0 ((tOf (AB s) s).data.toList.take (k+1)):Nat):Int))
   rw [hv]
  -- e34: Value.int .i64 (IntKind.i64.wrap ((k : Int) + (1 : Int))) = Value.int .i64 ((k + 1) : Int)
  show Value.int .i64 (IntKind.i64.wrap ((k:Int)+(1:Int)))=Value.int .i64 ((k+1):Int)
  exact B8 (AU (by omega) (by omega))
 -- c21f: (decide ((k : Int) < (((tOf (AB s) s).size : Nat) : Int))) = false
 replace c21:(decide ((k:Int)<(((tOf (AB s) s).size:Nat):Int)))=false:=c21
 try simp only [nrm] at c21
 refine And.symm ⟨λ c35=>?_,λ c35=>?_⟩
 ·-- c35f: (!(AB s)) = false
  replace c35:(!(AB s))=false:=c35
  try simp only [nrm] at c35
  obtain ⟨hv,h64⟩:=Ha c35 (by omega) hki14.2
  -- w47: sFmtInt [DA.one (DC.im (Value.int .i64 (-((dvF 0 ((tOf (AB s) s).data.toList.take k) : Nat) : Int))))]
  refine ⟨(-((dvF 0 ((tOf (AB s) s).data.toList.take k):Nat):Int)),by
   rfl,by
   show -9223372036854775808<=(-((dvF 0 ((tOf (AB s) s).data.toList.take k):Nat):Int))/\(-((dvF 0 ((tOf (AB s) s).data.toList.take k):Nat):Int))<=9223372036854775807
   first|exact hpre|(rw [ByteArray.size_extract];omega)|(rw [hv];exact h64)|(rw [← hv];exact h64),?_⟩
  refine ⟨λ c50=>?_,λ c50=>?_⟩
  ·-- c50t: (!((AH (-((dvF 0 ((tOf (AB s) s).data.toList.take k) : Nat) : Int))).toList == s.toList)) = true
   replace c50:(!((AH (-((dvF 0 ((tOf (AB s) s).data.toList.take k):Nat):Int))).toList == s.toList))=true:=c50
   try simp only [nrm] at c50
   have hno:AC s=none:=C9 (Er (by rw [hv];exact c50))
   refine ⟨?_,?_⟩
   ·-- l51: Value.int .i64 (0 : Int) = Value.int .i64 ((AC s).getD 0)
    show Value.int .i64 (0:Int)=Value.int .i64 ((AC s).getD 0)
    first|(rw [hno];rfl)|(rw [hyes,hv];rfl)|(rw [hyes];rfl)
   -- l52: Value.bool false = Value.bool ((AC s).isSome)
   show Value.bool false=Value.bool ((AC s).isSome)
   first|(rw [hno];rfl)|(rw [hyes,hv];rfl)|(rw [hyes];rfl)
  -- c50f: (!((AH (-((dvF 0 ((tOf (AB s) s).data.toList.take k) : Nat) : Int))).toList == s.toList)) = false
  replace c50:(!((AH (-((dvF 0 ((tOf (AB s) s).data.toList.take k):Nat):Int))).toList == s.toList))=false:=c50
  try simp only [nrm] at c50
  have hyes:AC s=some (nOf s):=CL (Es (by rw [hv];exact c50)) h64
  refine ⟨?_,?_⟩
  ·-- l53: Value.int .i64 (-((dvF 0 ((tOf (AB s) s).data.toList.take k) : Nat) : Int)) = Value.int .i64 ((AC s).getD 0)
   show Value.int .i64 (-((dvF 0 ((tOf (AB s) s).data.toList.take k):Nat):Int))=Value.int .i64 ((AC s).getD 0)
   first|(rw [hno];rfl)|(rw [hyes,hv];rfl)|(rw [hyes];rfl)
  -- l54: Value.bool true = Value.bool ((AC s).isSome)
  show Value.bool true=Value.bool ((AC s).isSome)
  first|(rw [hno];rfl)|(rw [hyes,hv];rfl)|(rw [hyes];rfl)
 -- c35t: (!(AB s)) = true
 replace c35:(!(AB s))=true:=c35
 try simp only [nrm] at c35
 obtain ⟨hv1,hv2⟩:=Hb c35 (by omega) hki14.2
 refine ⟨λ c36=>?_,λ c36=>?_⟩
 ·-- c36t: ((-((dvF 0 ((tOf (AB s) s).data.toList.take k) : Nat) : Int)) == (-9223372036854775808 : Int)) = true
  replace c36:((-((dvF 0 ((tOf (AB s) s).data.toList.take k):Nat):Int)) == (-9223372036854775808:Int))=true:=c36
  try simp only [nrm] at c36
  have hno:=hv1 c36
  refine ⟨?_,?_⟩
  ·-- l37: Value.int .i64 (0 : Int) = Value.int .i64 ((AC s).getD 0)
   show Value.int .i64 (0:Int)=Value.int .i64 ((AC s).getD 0)
   first|(rw [hno];rfl)|(rw [hyes,hv];rfl)|(rw [hyes];rfl)
  -- l38: Value.bool false = Value.bool ((AC s).isSome)
  show Value.bool false=Value.bool ((AC s).isSome)
  first|(rw [hno];rfl)|(rw [hyes,hv];rfl)|(rw [hyes];rfl)
 -- c36f: ((-((dvF 0 ((tOf (AB s) s).data.toList.take k) : Nat) : Int)) == (-9223372036854775808 : Int)) = false
 replace c36:((-((dvF 0 ((tOf (AB s) s).data.toList.take k):Nat):Int)) == (-9223372036854775808:Int))=false:=c36
 try simp only [nrm] at c36
 obtain ⟨hv,h64⟩:=hv2 c36
 -- w39: sFmtInt [DA.one (DC.im (Value.int .i64 (IntKind.i64.wrap (0 - (-((dvF 0 ((tOf (AB s) s).data.toList.take k) : Nat) : Int))))))]
 refine ⟨(IntKind.i64.wrap (0-(-((dvF 0 ((tOf (AB s) s).data.toList.take k):Nat):Int)))),by
  rfl,by
  try dsimp only [AM]
  first|exact hpre|(rw [ByteArray.size_extract];omega)|(rw [hv];exact h64)|(rw [← hv];exact h64),?_⟩
 refine ⟨λ c42=>?_,λ c42=>?_⟩
 ·-- c42t: (!((AH (IntKind.i64.wrap (0 - (-((dvF 0 ((tOf (AB s) s).data.toList.take k) : Nat) : Int))))).toList == s.toList)) = true
  replace c42:(!((AH (IntKind.i64.wrap (0-(-((dvF 0 ((tOf (AB s) s).data.toList.take k):Nat):Int))))).toList == s.toList))=true:=c42
  try simp only [nrm] at c42
  have hno:AC s=none:=C9 (Er (by rw [← hv];exact c42))
  refine ⟨?_,?_⟩
  ·-- l43: Value.int .i64 (0 : Int) = Value.int .i64 ((AC s).getD 0)
   show Value.int .i64 (0:Int)=Value.int .i64 ((AC s).getD 0)
   first|(rw [hno];rfl)|(rw [hyes,hv];rfl)|(rw [hyes];rfl)
  -- l44: Value.bool false = Value.bool ((AC s).isSome)
  show Value.bool false=Value.bool ((AC s).isSome)
  first|(rw [hno];rfl)|(rw [hyes,hv];rfl)|(rw [hyes];rfl)
 -- c42f: (!((AH (IntKind.i64.wrap (0 - (-((dvF 0 ((tOf (AB s) s).data.toList.take k) : Nat) : Int))))).toList == s.toList)) = false
 replace c42:(!((AH (IntKind.i64.wrap (0-(-((dvF 0 ((tOf (AB s) s).data.toList.take k):Nat):Int))))).toList == s.toList))=false:=c42
 try simp only [nrm] at c42
 have hyes:AC s=some (nOf s):=CL (Es (by rw [← hv];exact c42)) h64
 refine ⟨?_,?_⟩
 ·-- l45: Value.int .i64 (IntKind.i64.wrap (0 - (-((dvF 0 ((tOf (AB s) s).data.toList.take k) : Nat) : Int)))) = Value.int .i64 ((AC s).getD 0)
  show Value.int .i64 (IntKind.i64.wrap (0-(-((dvF 0 ((tOf (AB s) s).data.toList.take k):Nat):Int))))=Value.int .i64 ((AC s).getD 0)
  first|(rw [hno];rfl)|(rw [hyes,hv];rfl)|(rw [hyes];rfl)
 -- l46: Value.bool true = Value.bool ((AC s).isSome)
 show Value.bool true=Value.bool ((AC s).isSome)
 first|(rw [hno];rfl)|(rw [hyes,hv];rfl)|(rw [hyes];rfl)
theorem E8 (c:UInt8) (s:ByteArray):wo c s 0=[]/\wf c s 0=0:=by
 have e:BE c (s.data.toList.take 0)=([],[]):=rfl
 unfold wf F3 wo;rw [e];exact ⟨rfl,rfl⟩
theorem M8 {c:UInt8} {s:ByteArray} {i:Nat} (hi:i<s.size) (h:((s.get! i).toNat:Int)=(((⟨#[c]⟩:ByteArray).get! 0).toNat:Int)):wo c s (i+1)=wo c s i++[s.extract (wf c s i) i]/\wf c s (i+1)=i+1:=by
 refine Lv hi ?_
 rw [← UInt8.toNat_inj]
 have h2:((⟨#[c]⟩:ByteArray).get! 0).toNat=c.toNat:=rfl
 omega
theorem Me {c:UInt8} {s:ByteArray} {i:Nat} (hi:i<s.size) (h:¬ ((s.get! i).toNat:Int)=(((⟨#[c]⟩:ByteArray).get! 0).toNat:Int)):s.get! i≠c:=λ e=>h (by rw [e];rfl)
theorem A2 (l:List ByteArray) (x:ByteArray):AE l++[[Dat.str x]]=AE (l++[x]):=by rw [HT];rfl
def Bp:Con:={ ι:=ByteArray×UInt8,pre:=λ i=>i.1.size<=1073741824,args:=λ i=>[.one (.im (.string i.1)),.one (.im (.string (⟨#[i.2]⟩:ByteArray)))],res:=λ i=>⟨false,[none],[.own 9 [.str] (AE (AA i.2 i.1))]⟩ }
theorem J8:Bp.Ok Tryd.prog 9:=by
 refine fok (X:=⟨tt,[],[],44,[]⟩) mixed DK (CTok.nil _) Tryd.func9 (λ (i:ByteArray×UInt8)=>[(4,.mk 2 (Nat) (λ x1=>{ tm:=[(0,.one (.one (.im (Value.string i.1)))),(1,.one (.one (.im (Value.string (⟨#[i.2]⟩:ByteArray))))),(7,.one (.one (.im (Value.int .i64 (x1:Int))))),(6,.one (.one (.im (Value.int .i64 ((wf i.2 i.1 x1:Nat):Int))))),(5,.one (.one (.ext 1)))],en:=[(1,.own 9 [.str] (AE (wo i.2 i.1 x1)))] }) (λ x1=>x1<=i.1.size) (λ x1=>i.1.size-x1) (λ x1=>[(7,.mk 2 (Nat) (λ x2=>{ tm:=[(0,.one (.one (.im (Value.string i.1)))),(1,.one (.one (.im (Value.string (⟨#[i.2]⟩:ByteArray))))),(7,.one (.one (.im (Value.int .i64 (x1:Int))))),(6,.one (.one (.im (Value.int .i64 ((wf i.2 i.1 x1:Nat):Int))))),(5,.one (.one (.ext 1))),(8,.one (.one (.im (Value.int .i64 (x2:Int)))))],en:=[(1,.own 9 [.str] (AE (wo i.2 i.1 x1)))] }) (λ x2=>x2<=1/\(x2=1->i.1.get! x1≠i.2)) (λ x2=>1-x2) (λ _=>[]))]))]) ?_
 rintro ⟨s,c⟩ hpre
 have hpre:s.size<=1073741824:=hpre
 refine DJ (q:=(∃ x1:Nat,(x1<=s.size)/\((rf (Value.string s))/\(rf (Value.string (⟨#[c]⟩:ByteArray)))/\(Value.int .i64 (0:Int)=Value.int .i64 (x1:Int))/\(Value.int .i64 (0:Int)=Value.int .i64 ((wf c s x1:Nat):Int))/\(([]:List (List Dat))=(AE (wo c s x1)))))/\∀ x1:Nat,(x1<=s.size)->(((decide ((x1:Int)<((s.size:Nat):Int)))=true->((∃ x2:Nat,(x2<=1/\(x2=1->s.get! x1≠c))/\((rf (Value.string s))/\(rf (Value.string (⟨#[c]⟩:ByteArray)))/\(rf (Value.int .i64 (x1:Int)))/\(rf (Value.int .i64 ((wf c s x1:Nat):Int)))/\(Value.int .i64 (0:Int)=Value.int .i64 (x2:Int))/\(rf (AE (wo c s x1)))))/\∀ x2:Nat,(x2<=1/\(x2=1->s.get! x1≠c))->(((decide ((x2:Int)<(((⟨#[c]⟩:ByteArray).size:Nat):Int)))=true->((0<=(x1:Int)/\(x1:Int)<(s.size:Int))/\((0<=(x2:Int)/\(x2:Int)<((⟨#[c]⟩:ByteArray).size:Int))/\(((((s.get! x1).toNat:Int) == (((⟨#[c]⟩:ByteArray).get! x2).toNat:Int))=true->((0<=((wf c s x1:Nat):Int))/\((((wf c s x1:Nat):Int)<=(x1:Int))/\(((x1:Int)<=(s.size:Int))/\(((AE (wo c s x1)).length+([[Dat.str (s.extract (wf c s x1) x1)]]:List (List Dat)).length<=2199023255552)/\(∃ y3:Nat,(y3<=s.size)/\(s.size-y3<s.size-x1)/\((rf (Value.string s))/\(rf (Value.string (⟨#[c]⟩:ByteArray)))/\(Value.int .i64 (IntKind.i64.wrap ((x1:Int)+(1:Int)))=Value.int .i64 (y3:Int))/\(Value.int .i64 (IntKind.i64.wrap ((x1:Int)+(1:Int)))=Value.int .i64 ((wf c s y3:Nat):Int))/\(((AE (wo c s x1))++([[Dat.str (s.extract (wf c s x1) x1)]]:List (List Dat)))=(AE (wo c s y3))))))))))/\((((s.get! x1).toNat:Int) == (((⟨#[c]⟩:ByteArray).get! x2).toNat:Int))=false->(∃ y4:Nat,(y4<=1/\(y4=1->s.get! x1≠c))/\(1-y4<1-x2)/\((rf (Value.string s))/\(rf (Value.string (⟨#[c]⟩:ByteArray)))/\(rf (Value.int .i64 (x1:Int)))/\(rf (Value.int .i64 ((wf c s x1:Nat):Int)))/\(Value.int .i64 (IntKind.i64.wrap ((x2:Int)+(1:Int)))=Value.int .i64 (y4:Int))/\(rf (AE (wo c s x1))))))))))/\((decide ((x2:Int)<(((⟨#[c]⟩:ByteArray).size:Nat):Int)))=false->(∃ y5:Nat,(y5<=s.size)/\(s.size-y5<s.size-x1)/\((rf (Value.string s))/\(rf (Value.string (⟨#[c]⟩:ByteArray)))/\(Value.int .i64 (IntKind.i64.wrap ((x1:Int)+(1:Int)))=Value.int .i64 (y5:Int))/\(Value.int .i64 ((wf c s x1:Nat):Int)=Value.int .i64 ((wf c s y5:Nat):Int))/\((AE (wo c s x1))=(AE (wo c s y5)))))))))/\((decide ((x1:Int)<((s.size:Nat):Int)))=false->((0<=((wf c s x1:Nat):Int))/\((((wf c s x1:Nat):Int)<=(s.size:Int))/\(((s.size:Int)<=(s.size:Int))/\(((AE (wo c s x1)).length+([[Dat.str (s.extract (wf c s x1) s.size)]]:List (List Dat)).length<=2199023255552)/\((((AE (wo c s x1))++([[Dat.str (s.extract (wf c s x1) s.size)]]:List (List Dat)))=AE (AA c s)))))))))) (by kernel_rfl) ?_
 have h1c:(⟨#[c]⟩:ByteArray).size=1:=rfl
 -- i1
 refine ⟨⟨0,by
  first|trivial|omega|(simp;omega),?_⟩,?_⟩
 ·-- the beginning
  refine ⟨rfl,rfl,rfl,?_,?_⟩
  ·-- b6: Value.int .i64 (0 : Int) = Value.int .i64 ((wf c s 0 : Nat) : Int)
   show Value.int .i64 (0:Int)=Value.int .i64 ((wf c s 0:Nat):Int)
   first|(rw [(E8 c s).2];rfl)|(rw [(E8 c s).1];rfl)
  -- b7: ([] : List (List Dat)) = (AE (wo c s 0))
  show ([]:List (List Dat))=(AE (wo c s 0))
  first|(rw [(E8 c s).2];rfl)|(rw [(E8 c s).1];rfl)
 intro (i:Nat) hki1
 have hki1:i<=s.size:=hki1
 refine And.symm ⟨λ c8=>?_,λ c8=>?_⟩
 ·-- c8f: (decide ((i : Int) < ((s.size : Nat) : Int))) = false
  replace c8:(decide ((i:Int)<((s.size:Nat):Int)))=false:=c8
  try simp only [nrm] at c8
  have hi:i=s.size:=by omega
  refine ao (a:=0<=((wf c s i:Nat):Int)) (by first|rfl|omega|(have:=DL c s i;omega)|(have:=BT c s (i:=i) (by omega);rw [AL];simp only [List.length_cons,List.length_nil];omega)) λ o50=>?_
  refine ao (a:=((wf c s i:Nat):Int)<=(s.size:Int)) (by first|rfl|omega|(have:=DL c s i;omega)|(have:=BT c s (i:=i) (by omega);rw [AL];simp only [List.length_cons,List.length_nil];omega)) λ o51=>?_
  refine ao (a:=(s.size:Int)<=(s.size:Int)) (by first|rfl|omega|(have:=DL c s i;omega)|(have:=BT c s (i:=i) (by omega);rw [AL];simp only [List.length_cons,List.length_nil];omega)) λ o52=>?_
  refine ao (a:=(AE (wo c s i)).length+([[Dat.str (s.extract (wf c s i) s.size)]]:List (List Dat)).length<=2199023255552) (by first|rfl|omega|(have:=DL c s i;omega)|(have:=BT c s (i:=i) (by omega);rw [AL];simp only [List.length_cons,List.length_nil];omega)) λ o53=>?_
  -- l54: ((AE (wo c s i)) ++ ([[Dat.str (s.extract (wf c s i) s.size)]] : List (List Dat))) = AE (AA c s)
  show ((AE (wo c s i))++([[Dat.str (s.extract (wf c s i) s.size)]]:List (List Dat)))=AE (AA c s)
  rw [hi,A2,Lw]
 -- c8t: (decide ((i : Int) < ((s.size : Nat) : Int))) = true
 replace c8:(decide ((i:Int)<((s.size:Nat):Int)))=true:=c8
 try simp only [nrm] at c8
 -- i9
 refine ⟨⟨0,by
  first|trivial|omega|(simp;omega),?_⟩,?_⟩
 ·-- the beginning
  exact ⟨rfl,rfl,rfl,rfl,rfl,rfl⟩
 intro (j:Nat) hki9
 have hki9:j<=1/\(j=1->s.get! i≠c):=hki9
 refine And.symm ⟨λ c17=>?_,λ c17=>?_⟩
 ·-- c17f: (decide ((j : Int) < (((⟨#[c]⟩ : ByteArray).size : Nat) : Int))) = false
  replace c17:(decide ((j:Int)<(((⟨#[c]⟩:ByteArray).size:Nat):Int)))=false:=c17
  try simp only [nrm] at c17
  obtain ⟨h1,h2⟩:=JX (i:=i) (by omega) (hki9.2 (by omega))
  -- n42
  refine ⟨i+1,by
   first|trivial|omega|(simp;omega),by
   first|omega|(simp;omega),?_⟩
  refine ⟨rfl,rfl,?_,?_,?_⟩
  ·-- e47: Value.int .i64 (IntKind.i64.wrap ((i : Int) + (1 : Int))) = Value.int .i64 ((i + 1) : Int)
   show Value.int .i64 (IntKind.i64.wrap ((i:Int)+(1:Int)))=Value.int .i64 ((i+1):Int)
   first|exact B8 (AU (by omega) (by omega))|(rw [h2];exact B8 (by rw [AU (by omega) (by omega)];omega))|(rw [h2])|(rw [h1,A2])|(rw [h1])
  ·-- e48: Value.int .i64 ((wf c s i : Nat) : Int) = Value.int .i64 ((wf c s (i + 1) : Nat) : Int)
   show Value.int .i64 ((wf c s i:Nat):Int)=Value.int .i64 ((wf c s (i+1):Nat):Int)
   first|exact B8 (AU (by omega) (by omega))|(rw [h2];exact B8 (by rw [AU (by omega) (by omega)];omega))|(rw [h2])|(rw [h1,A2])|(rw [h1])
  -- e49: (AE (wo c s i)) = (AE (wo c s (i + 1)))
  show (AE (wo c s i))=(AE (wo c s (i+1)))
  first|exact B8 (AU (by omega) (by omega))|(rw [h2];exact B8 (by rw [AU (by omega) (by omega)];omega))|(rw [h2])|(rw [h1,A2])|(rw [h1])
 -- c17t: (decide ((j : Int) < (((⟨#[c]⟩ : ByteArray).size : Nat) : Int))) = true
 replace c17:(decide ((j:Int)<(((⟨#[c]⟩:ByteArray).size:Nat):Int)))=true:=c17
 try simp only [nrm] at c17
 refine ao (a:=0<=(i:Int)/\(i:Int)<(s.size:Int)) (by first|rfl|omega|(have:=DL c s i;omega)|(have:=BT c s (i:=i) (by omega);rw [AL];simp only [List.length_cons,List.length_nil];omega)) λ o18=>?_
 refine ao (a:=0<=(j:Int)/\(j:Int)<((⟨#[c]⟩:ByteArray).size:Int)) (by first|rfl|omega|(have:=DL c s i;omega)|(have:=BT c s (i:=i) (by omega);rw [AL];simp only [List.length_cons,List.length_nil];omega)) λ o19=>?_
 refine And.symm ⟨λ c20=>?_,λ c20=>?_⟩
 ·-- c20f: (((s.get! i).toNat : Int) == (((⟨#[c]⟩ : ByteArray).get! j).toNat : Int)) = false
  replace c20:(((s.get! i).toNat:Int) == (((⟨#[c]⟩:ByteArray).get! j).toNat:Int))=false:=c20
  try simp only [nrm] at c20
  have hm:s.get! i≠c:=Me (by omega) (by rw [show j=0 by omega] at c20;exact c20)
  -- n33
  refine ⟨j+1,by
   exact ⟨by omega,λ _=>hm⟩,by
   first|omega|(simp;omega),?_⟩
  refine ⟨rfl,rfl,rfl,rfl,?_,rfl⟩
  -- e40: Value.int .i64 (IntKind.i64.wrap ((j : Int) + (1 : Int))) = Value.int .i64 ((j + 1) : Int)
  show Value.int .i64 (IntKind.i64.wrap ((j:Int)+(1:Int)))=Value.int .i64 ((j+1):Int)
  exact B8 (AU (by omega) (by omega))
 -- c20t: (((s.get! i).toNat : Int) == (((⟨#[c]⟩ : ByteArray).get! j).toNat : Int)) = true
 replace c20:(((s.get! i).toNat:Int) == (((⟨#[c]⟩:ByteArray).get! j).toNat:Int))=true:=c20
 try simp only [nrm] at c20
 obtain ⟨h1,h2⟩:=M8 (s:=s) (c:=c) (i:=i) (by omega) (by rw [show j=0 by omega] at c20;exact c20)
 refine ao (a:=0<=((wf c s i:Nat):Int)) (by first|rfl|omega|(have:=DL c s i;omega)|(have:=BT c s (i:=i) (by omega);rw [AL];simp only [List.length_cons,List.length_nil];omega)) λ o21=>?_
 refine ao (a:=((wf c s i:Nat):Int)<=(i:Int)) (by first|rfl|omega|(have:=DL c s i;omega)|(have:=BT c s (i:=i) (by omega);rw [AL];simp only [List.length_cons,List.length_nil];omega)) λ o22=>?_
 refine ao (a:=(i:Int)<=(s.size:Int)) (by first|rfl|omega|(have:=DL c s i;omega)|(have:=BT c s (i:=i) (by omega);rw [AL];simp only [List.length_cons,List.length_nil];omega)) λ o23=>?_
 refine ao (a:=(AE (wo c s i)).length+([[Dat.str (s.extract (wf c s i) i)]]:List (List Dat)).length<=2199023255552) (by first|rfl|omega|(have:=DL c s i;omega)|(have:=BT c s (i:=i) (by omega);rw [AL];simp only [List.length_cons,List.length_nil];omega)) λ o24=>?_
 -- n25
 refine ⟨i+1,by
  first|trivial|omega|(simp;omega),by
  first|omega|(simp;omega),?_⟩
 refine ⟨rfl,rfl,?_,?_,?_⟩
 ·-- e30: Value.int .i64 (IntKind.i64.wrap ((i : Int) + (1 : Int))) = Value.int .i64 ((i + 1) : Int)
  show Value.int .i64 (IntKind.i64.wrap ((i:Int)+(1:Int)))=Value.int .i64 ((i+1):Int)
  first|exact B8 (AU (by omega) (by omega))|(rw [h2];exact B8 (by rw [AU (by omega) (by omega)];omega))|(rw [h2])|(rw [h1,A2])|(rw [h1])
 ·-- e31: Value.int .i64 (IntKind.i64.wrap ((i : Int) + (1 : Int))) = Value.int .i64 ((wf c s (i + 1) : Nat) : Int)
  show Value.int .i64 (IntKind.i64.wrap ((i:Int)+(1:Int)))=Value.int .i64 ((wf c s (i+1):Nat):Int)
  first|exact B8 (AU (by omega) (by omega))|(rw [h2];exact B8 (by rw [AU (by omega) (by omega)];omega))|(rw [h2])|(rw [h1,A2])|(rw [h1])
 -- e32: ((AE (wo c s i)) ++ ([[Dat.str (s.extract (wf c s i) i)]] : List (List Dat))) = (AE (wo c s (i + 1)))
 show ((AE (wo c s i))++([[Dat.str (s.extract (wf c s i) i)]]:List (List Dat)))=(AE (wo c s (i+1)))
 first|exact B8 (AU (by omega) (by omega))|(rw [h2];exact B8 (by rw [AU (by omega) (by omega)];omega))|(rw [h2])|(rw [h1,A2])|(rw [h1])
theorem Kn (v:V2):AA 44 (Fx v)=[AH v.1,AH v.2]:=by
 have e:(Fx v).data.toList=(AH v.1).data.toList++44::(AH v.2).data.toList:=by
  unfold Fx;rw [Bl,Bl];simp
 unfold AA
 rw [e,Fz (DZ v.1),DY (DZ v.2)]
 simp [F1]
theorem In {s:ByteArray} {v:V2} (h:CU s=some v):AA 44 s=[AH v.1,AH v.2]/\AP v=true/\Fx v=s:=by
 obtain ⟨h1,rfl⟩:=Ig.1 h
 exact ⟨Kn v,h1,rfl⟩
theorem M9 {s:ByteArray} (h:¬ (AA 44 s).length=2):CU s=none:=by
 cases hp:CU s with
 | none=>rfl
 | some v=>rw [(In hp).1] at h;exact absurd rfl h
def pvw (s:ByteArray) (k:Nat):Int:=(AC ((AA 44 s).getD k ⟨#[]⟩)).getD 0
theorem Mp {s:ByteArray} (h:At (pvw s 0,pvw s 1)=(⟨#[]⟩:ByteArray)∨At (pvw s 0,pvw s 1)≠s):CU s=none:=by
 cases hp:CU s with
 | none=>rfl
 | some v=>
  exfalso
  obtain ⟨h1,h2,h3⟩:=In hp
  have e:(pvw s 0,pvw s 1)=v:=by
   unfold pvw;rw [h1]
   show ((AC (AH v.1)).getD 0,(AC (AH v.2)).getD 0)=v
   rw [BF.2 ⟨(J0 h2).1,rfl⟩,BF.2 ⟨(J0 h2).2,rfl⟩]
   rfl
  rw [e,C7 h2] at h
  rcases h with h|h
  ·have:=congrArg ByteArray.size h
   simp only [Fx,ByteArray.size_append] at this
   have e1:(⟨#[44]⟩:ByteArray).size=1:=rfl
   have e2:(⟨#[]⟩:ByteArray).size=0:=rfl
   omega
  ·exact h h3
theorem NA {s:ByteArray} (h:¬ At (pvw s 0,pvw s 1)=(⟨#[]⟩:ByteArray)) (h2:At (pvw s 0,pvw s 1)=s):CU s=some (pvw s 0,pvw s 1):=by
 have hv:AP (pvw s 0,pvw s 1)=true:=by
  cases hq:AP (pvw s 0,pvw s 1) with
  | true=>rfl
  | false=>exact absurd (Fy hq) h
 rw [C7 hv] at h2
 exact Ig.2 ⟨hv,h2⟩
def DD:Con:={ ι:=ByteArray,pre:=λ i=>i.size<=1073741824,args:=λ i=>[.one (.im (.string i))],res:=λ i=>⟨true,[some 2,none],[.im (Value.int .i64 ((vOf i).1)),.im (Value.int .i64 ((vOf i).2)),.im (Value.bool (okV i))]⟩ }
theorem L8:DD.Ok Tryd.prog 10:=by
 refine fok (X:=⟨tt,[(9,Bp),(16,Ba),(17,A7)],[],40,[]⟩) mixed DK (CTok.cons J8 (CTok.cons L7 (CTok.cons JU (CTok.nil _)))) Tryd.func10 (λ _=>[]) ?_
 intro (s:ByteArray) hpre
 have hpre:s.size<=1073741824:=hpre
 refine DJ (q:=∃ i1:ByteArray×UInt8,[DA.one (DC.im (Value.string s)),DA.one (DC.im (Value.string (⟨#[44]⟩:ByteArray)))]=Bp.args i1/\Bp.pre i1/\((((((AE (AA i1.2 i1.1)).length:Nat):Int) != (2:Int))=true->((Value.int .i64 (0:Int)=Value.int .i64 ((vOf s).1))/\(Value.int .i64 (0:Int)=Value.int .i64 ((vOf s).2))/\(Value.bool false=Value.bool (okV s))))/\(((((AE (AA i1.2 i1.1)).length:Nat):Int) != (2:Int))=false->((0<=(0:Int)/\(0:Int)<((AE (AA i1.2 i1.1)).length:Int))/\((0<(AE (AA i1.2 i1.1)).length)/\(∃ i2:ByteArray,[DA.one (DC.im (Value.string (((((AE (AA i1.2 i1.1)).getD 0 []).getD 0 (.int 0))).s)))]=Ba.args i2/\Ba.pre i2/\((0<=(1:Int)/\(1:Int)<((AE (AA i1.2 i1.1)).length:Int))/\((1<(AE (AA i1.2 i1.1)).length)/\(∃ i3:ByteArray,[DA.one (DC.im (Value.string (((((AE (AA i1.2 i1.1)).getD 1 []).getD 0 (.int 0))).s)))]=Ba.args i3/\Ba.pre i3/\(∃ i4:Int×Int,[DA.agg [cI ((AC i2).getD 0),cI ((AC i3).getD 0)]]=A7.args i4/\A7.pre i4/\(((!((At (i4.1,i4.2)).toList == (⟨#[]⟩:ByteArray).toList))=true->(∃ i5:Int×Int,[DA.agg [cI ((AC i2).getD 0),cI ((AC i3).getD 0)]]=A7.args i5/\A7.pre i5/\(((!((At (i5.1,i5.2)).toList == s.toList))=true->((Value.int .i64 (0:Int)=Value.int .i64 ((vOf s).1))/\(Value.int .i64 (0:Int)=Value.int .i64 ((vOf s).2))/\(Value.bool false=Value.bool (okV s))))/\((!((At (i5.1,i5.2)).toList == s.toList))=false->((Value.int .i64 ((AC i2).getD 0)=Value.int .i64 ((vOf s).1))/\(Value.int .i64 ((AC i3).getD 0)=Value.int .i64 ((vOf s).2))/\(Value.bool true=Value.bool (okV s)))))))/\((!((At (i4.1,i4.2)).toList == (⟨#[]⟩:ByteArray).toList))=false->((Value.int .i64 (0:Int)=Value.int .i64 ((vOf s).1))/\(Value.int .i64 (0:Int)=Value.int .i64 ((vOf s).2))/\(Value.bool false=Value.bool (okV s))))))))))))))) (by kernel_rfl) ?_
 have hsl:=AL (AA 44 s)
 -- w1: sSpl [DA.one (DC.im (Value.string s)), DA.one (DC.im (Value.string (⟨#[44]⟩ : ByteArray)))]
 refine ⟨(s,44),by
  rfl,by
  show s.size<=1073741824
  first|trivial|exact hpre|exact Nat.le_trans (BD (λ x hx=>Ag hx) _) hpre,?_⟩
 refine ⟨λ c4=>?_,λ c4=>?_⟩
 ·-- c4t: ((((AE (AA 44 s)).length : Nat) : Int) != (2 : Int)) = true
  replace c4:((((AE (AA 44 s)).length:Nat):Int) != (2:Int))=true:=c4
  try simp only [nrm] at c4
  have hno:=AD (M9 (s:=s) (by rw [hsl] at c4;omega))
  refine ⟨?_,?_,?_⟩
  ·-- l5: Value.int .i64 (0 : Int) = Value.int .i64 ((vOf s).1)
   show Value.int .i64 (0:Int)=Value.int .i64 ((vOf s).1)
   first|(rw [hno.2])|(rw [hno.1])|(rw [hyes.2];rfl)|(rw [hyes.1])
  ·-- l6: Value.int .i64 (0 : Int) = Value.int .i64 ((vOf s).2)
   show Value.int .i64 (0:Int)=Value.int .i64 ((vOf s).2)
   first|(rw [hno.2])|(rw [hno.1])|(rw [hyes.2];rfl)|(rw [hyes.1])
  -- l7: Value.bool false = Value.bool (okV s)
  show Value.bool false=Value.bool (okV s)
  first|(rw [hno.2])|(rw [hno.1])|(rw [hyes.2];rfl)|(rw [hyes.1])
 -- c4f: ((((AE (AA 44 s)).length : Nat) : Int) != (2 : Int)) = false
 replace c4:((((AE (AA 44 s)).length:Nat):Int) != (2:Int))=false:=c4
 try simp only [nrm] at c4
 refine ao (a:=0<=(0:Int)/\(0:Int)<((AE (AA 44 s)).length:Int)) (by first|rfl|omega|(simp;done)|(simp;omega)) λ o8=>?_
 refine ao (a:=0<(AE (AA 44 s)).length) (by first|rfl|omega|(simp;done)|(simp;omega)) λ o9=>?_
 -- w10: sParI [DA.one (DC.im (Value.string (((((AE (AA 44 s)).getD 0 []).getD 0 (.int 0))).s)))]
 refine ⟨((AA 44 s).getD 0 ⟨#[]⟩),by
  exact congrArg (λ x=>[DA.one (DC.im (Value.string x))]) (E6 (l:=AA 44 s) (k:=0) (by omega)),by
  show ((AA 44 s).getD 0 ⟨#[]⟩).size<=1073741824
  first|trivial|exact hpre|exact Nat.le_trans (BD (λ x hx=>Ag hx) _) hpre,?_⟩
 refine ao (a:=0<=(1:Int)/\(1:Int)<((AE (AA 44 s)).length:Int)) (by first|rfl|omega|(simp;done)|(simp;omega)) λ o13=>?_
 refine ao (a:=1<(AE (AA 44 s)).length) (by first|rfl|omega|(simp;done)|(simp;omega)) λ o14=>?_
 -- w15: sParI [DA.one (DC.im (Value.string (((((AE (AA 44 s)).getD 1 []).getD 0 (.int 0))).s)))]
 refine ⟨((AA 44 s).getD 1 ⟨#[]⟩),by
  exact congrArg (λ x=>[DA.one (DC.im (Value.string x))]) (E6 (l:=AA 44 s) (k:=1) (by omega)),by
  show ((AA 44 s).getD 1 ⟨#[]⟩).size<=1073741824
  first|trivial|exact hpre|exact Nat.le_trans (BD (λ x hx=>Ag hx) _) hpre,?_⟩
 -- w18: sFmtVec [DA.agg [DC.im (Value.int .i64 ((AC ((AA 44 s).getD 0 ⟨#[]⟩)).getD 0)), DC.im (Value.int .i64 ((AC ((AA 44 s).getD 1 ⟨#[]⟩)).getD 0))]]
 refine ⟨(((AC ((AA 44 s).getD 0 ⟨#[]⟩)).getD 0),((AC ((AA 44 s).getD 1 ⟨#[]⟩)).getD 0)),by
  rfl,by
  first|trivial|exact hpre|exact Nat.le_trans (BD (λ x hx=>Ag hx) _) hpre,?_⟩
 refine And.symm ⟨λ c21=>?_,λ c21=>?_⟩
 ·-- c21f: (!((At (((AC ((AA 44 s).getD 0 ⟨#[]⟩)).getD 0), ((AC ((AA 44 s).getD 1 ⟨#[]⟩)).getD 0))).toList == (⟨#[]⟩ : ByteArray).toList)) = false
  replace c21:(!((At (((AC ((AA 44 s).getD 0 ⟨#[]⟩)).getD 0),((AC ((AA 44 s).getD 1 ⟨#[]⟩)).getD 0))).toList == (⟨#[]⟩:ByteArray).toList))=false:=c21
  try simp only [nrm] at c21
  have hno:=AD (Mp (s:=s) (.inl (Es c21)))
  refine ⟨?_,?_,?_⟩
  ·-- l32: Value.int .i64 (0 : Int) = Value.int .i64 ((vOf s).1)
   show Value.int .i64 (0:Int)=Value.int .i64 ((vOf s).1)
   first|(rw [hno.2])|(rw [hno.1])|(rw [hyes.2];rfl)|(rw [hyes.1])
  ·-- l33: Value.int .i64 (0 : Int) = Value.int .i64 ((vOf s).2)
   show Value.int .i64 (0:Int)=Value.int .i64 ((vOf s).2)
   first|(rw [hno.2])|(rw [hno.1])|(rw [hyes.2];rfl)|(rw [hyes.1])
  -- l34: Value.bool false = Value.bool (okV s)
  show Value.bool false=Value.bool (okV s)
  first|(rw [hno.2])|(rw [hno.1])|(rw [hyes.2];rfl)|(rw [hyes.1])
 -- c21t: (!((At (((AC ((AA 44 s).getD 0 ⟨#[]⟩)).getD 0), ((AC ((AA 44 s).getD 1 ⟨#[]⟩)).getD 0))).toList == (⟨#[]⟩ : ByteArray).toList)) = true
 replace c21:(!((At (((AC ((AA 44 s).getD 0 ⟨#[]⟩)).getD 0),((AC ((AA 44 s).getD 1 ⟨#[]⟩)).getD 0))).toList == (⟨#[]⟩:ByteArray).toList))=true:=c21
 try simp only [nrm] at c21
 have hne:¬ At (pvw s 0,pvw s 1)=(⟨#[]⟩:ByteArray):=Er c21
 -- w22: sFmtVec [DA.agg [DC.im (Value.int .i64 ((AC ((AA 44 s).getD 0 ⟨#[]⟩)).getD 0)), DC.im (Value.int .i64 ((AC ((AA 44 s).getD 1 ⟨#[]⟩)).getD 0))]]
 refine ⟨(((AC ((AA 44 s).getD 0 ⟨#[]⟩)).getD 0),((AC ((AA 44 s).getD 1 ⟨#[]⟩)).getD 0)),by
  rfl,by
  first|trivial|exact hpre|exact Nat.le_trans (BD (λ x hx=>Ag hx) _) hpre,?_⟩
 refine ⟨λ c25=>?_,λ c25=>?_⟩
 ·-- c25t: (!((At (((AC ((AA 44 s).getD 0 ⟨#[]⟩)).getD 0), ((AC ((AA 44 s).getD 1 ⟨#[]⟩)).getD 0))).toList == s.toList)) = true
  replace c25:(!((At (((AC ((AA 44 s).getD 0 ⟨#[]⟩)).getD 0),((AC ((AA 44 s).getD 1 ⟨#[]⟩)).getD 0))).toList == s.toList))=true:=c25
  try simp only [nrm] at c25
  have hno:=AD (Mp (s:=s) (.inr (Er c25)))
  refine ⟨?_,?_,?_⟩
  ·-- l26: Value.int .i64 (0 : Int) = Value.int .i64 ((vOf s).1)
   show Value.int .i64 (0:Int)=Value.int .i64 ((vOf s).1)
   first|(rw [hno.2])|(rw [hno.1])|(rw [hyes.2];rfl)|(rw [hyes.1])
  ·-- l27: Value.int .i64 (0 : Int) = Value.int .i64 ((vOf s).2)
   show Value.int .i64 (0:Int)=Value.int .i64 ((vOf s).2)
   first|(rw [hno.2])|(rw [hno.1])|(rw [hyes.2];rfl)|(rw [hyes.1])
  -- l28: Value.bool false = Value.bool (okV s)
  show Value.bool false=Value.bool (okV s)
  first|(rw [hno.2])|(rw [hno.1])|(rw [hyes.2];rfl)|(rw [hyes.1])
 -- c25f: (!((At (((AC ((AA 44 s).getD 0 ⟨#[]⟩)).getD 0), ((AC ((AA 44 s).getD 1 ⟨#[]⟩)).getD 0))).toList == s.toList)) = false
 replace c25:(!((At (((AC ((AA 44 s).getD 0 ⟨#[]⟩)).getD 0),((AC ((AA 44 s).getD 1 ⟨#[]⟩)).getD 0))).toList == s.toList))=false:=c25
 try simp only [nrm] at c25
 have hyes:=AO (NA hne (Es c25))
 refine ⟨?_,?_,?_⟩
 ·-- l29: Value.int .i64 ((AC ((AA 44 s).getD 0 ⟨#[]⟩)).getD 0) = Value.int .i64 ((vOf s).1)
  show Value.int .i64 ((AC ((AA 44 s).getD 0 ⟨#[]⟩)).getD 0)=Value.int .i64 ((vOf s).1)
  first|(rw [hno.2])|(rw [hno.1])|(rw [hyes.2];rfl)|(rw [hyes.1])
 ·-- l30: Value.int .i64 ((AC ((AA 44 s).getD 1 ⟨#[]⟩)).getD 0) = Value.int .i64 ((vOf s).2)
  show Value.int .i64 ((AC ((AA 44 s).getD 1 ⟨#[]⟩)).getD 0)=Value.int .i64 ((vOf s).2)
  first|(rw [hno.2])|(rw [hno.1])|(rw [hyes.2];rfl)|(rw [hyes.1])
 -- l31: Value.bool true = Value.bool (okV s)
 show Value.bool true=Value.bool (okV s)
 first|(rw [hno.2])|(rw [hno.1])|(rw [hyes.2];rfl)|(rw [hyes.1])
def DE:Con:={ ι:=ByteArray,pre:=λ i=>i.size<=1073741824,args:=λ i=>[.one (.im (.string i))],res:=λ i=>⟨true,[none,none],[.own 31 [.int,.int] (AG (Ad i)),.im (Value.bool (okP i))]⟩ }
theorem L9:DE.Ok Tryd.prog 4:=by
 refine fok (X:=⟨tt,[(9,Bp),(10,DD),(11,Bw)],[],33,[]⟩) mixed DK (CTok.cons J8 (CTok.cons L8 (CTok.cons JT (CTok.nil _)))) Tryd.func4 (λ (i:ByteArray)=>[(3,.mk 3 (Nat) (λ x1=>{ tm:=[(11,.one (.one (.ext 1))),(12,.one (.one (.im (Value.int .i64 ((AE (AA 32 i)).length:Int))))),(13,.one (.one (.im (Value.int .i64 (x1:Int))))),(4,.one (.one (.ext 2)))],en:=[(1,.own 9 [.str] (AE (AA 32 i))),(2,.own 31 [.int,.int] (AG (((AA 32 i).take x1).map vOf)))] }) (λ x1=>x1<=(AA 32 i).length/\((AA 32 i).take x1).all okV=true) (λ x1=>(AA 32 i).length-x1) (λ _=>[]))]) ?_
 intro (s:ByteArray) hpre
 have hpre:s.size<=1073741824:=hpre
 refine DJ (q:=∃ i1:ByteArray×UInt8,[DA.one (DC.im (Value.string s)),DA.one (DC.im (Value.string (⟨#[32]⟩:ByteArray)))]=Bp.args i1/\Bp.pre i1/\((∃ x1:Nat,(x1<=(AA 32 s).length/\((AA 32 s).take x1).all okV=true)/\((Value.int .i64 (((AE (AA i1.2 i1.1)).length:Nat):Int)=Value.int .i64 ((AE (AA 32 s)).length:Int))/\(Value.int .i64 (0:Int)=Value.int .i64 (x1:Int))/\(AE (AA i1.2 i1.1)=(AE (AA 32 s)))/\(([]:List (List Dat))=(AG (((AA 32 s).take x1).map vOf)))))/\∀ x1:Nat,(x1<=(AA 32 s).length/\((AA 32 s).take x1).all okV=true)->(((decide ((x1:Int)<((AE (AA 32 s)).length:Int)))=true->((0<=(x1:Int)/\(x1:Int)<((AE (AA 32 s)).length:Int))/\((x1<(AE (AA 32 s)).length)/\(∃ i2:ByteArray,[DA.one (DC.im (Value.string (((((AE (AA 32 s)).getD x1 []).getD 0 (.int 0))).s)))]=DD.args i2/\DD.pre i2/\(((!(okV i2))=true->((([]:List (List Dat))=AG (Ad s))/\(Value.bool false=Value.bool (okP s))))/\((!(okV i2))=false->(((AG (((AA 32 s).take x1).map vOf)).length+([[Dat.int ((vOf i2).1),Dat.int ((vOf i2).2)]]:List (List Dat)).length<=2199023255552)/\(∃ y2:Nat,(y2<=(AA 32 s).length/\((AA 32 s).take y2).all okV=true)/\((AA 32 s).length-y2<(AA 32 s).length-x1)/\((rf (Value.int .i64 ((AE (AA 32 s)).length:Int)))/\(Value.int .i64 (IntKind.i64.wrap ((x1:Int)+(1:Int)))=Value.int .i64 (y2:Int))/\(rf (AE (AA 32 s)))/\(((AG (((AA 32 s).take x1).map vOf))++([[Dat.int ((vOf i2).1),Dat.int ((vOf i2).2)]]:List (List Dat)))=(AG (((AA 32 s).take y2).map vOf))))))))))))/\((decide ((x1:Int)<((AE (AA 32 s)).length:Int)))=false->(∃ i3:(List V2),[DA.one (DC.sl 31 [.int,.int] (AG (((AA 32 s).take x1).map vOf)))]=Bw.args i3/\Bw.pre i3/\(((!(AR i3))=true->((([]:List (List Dat))=AG (Ad s))/\(Value.bool false=Value.bool (okP s))))/\((!(AR i3))=false->(((AG (((AA 32 s).take x1).map vOf))=AG (Ad s))/\(Value.bool true=Value.bool (okP s)))))))))) (by kernel_rfl) ?_
 have hwl:=Db 32 s
 have hsl:=AL (AA 32 s)
 -- w1: sSpl [DA.one (DC.im (Value.string s)), DA.one (DC.im (Value.string (⟨#[32]⟩ : ByteArray)))]
 refine ⟨(s,32),by
  rfl,by
  show s.size<=1073741824
  first|trivial|exact hpre|exact Nat.le_trans (BD (λ x hx=>Ag hx) k) hpre,?_⟩
 -- i4
 refine ⟨⟨0,by
  exact ⟨Nat.zero_le _,rfl⟩,?_⟩,?_⟩
 ·-- the beginning
  refine ⟨?_,rfl,rfl,?_⟩
  ·-- b6: Value.int .i64 (((AE (AA 32 s)).length : Nat) : Int) = Value.int .i64 ((AE (AA 32 s)).length : Int)
   show Value.int .i64 (((AE (AA 32 s)).length:Nat):Int)=Value.int .i64 ((AE (AA 32 s)).length:Int)
   rfl
  -- b9: ([] : List (List Dat)) = (AG (((AA 32 s).take 0).map vOf))
  show ([]:List (List Dat))=(AG (((AA 32 s).take 0).map vOf))
  rfl
 intro (k:Nat) hki4
 have hki4:k<=(AA 32 s).length/\((AA 32 s).take k).all okV=true:=hki4
 refine And.symm ⟨λ c10=>?_,λ c10=>?_⟩
 ·-- c10f: (decide ((k : Int) < ((AE (AA 32 s)).length : Int))) = false
  replace c10:(decide ((k:Int)<((AE (AA 32 s)).length:Int)))=false:=c10
  try simp only [nrm] at c10
  have ht:(AA 32 s).take k=AA 32 s:=List.take_of_length_le (by omega)
  have hao:(AA 32 s).all okV=true:=by rw [← ht];exact hki4.2
  -- w27: sIsPoly [DA.one (DC.sl 31 [.int, .int] (AG (((AA 32 s).take k).map vOf)))]
  refine ⟨(((AA 32 s).take k).map vOf),by
   rfl,by
   first|trivial|exact hpre|exact Nat.le_trans (BD (λ x hx=>Ag hx) k) hpre,?_⟩
  refine ⟨λ c30=>?_,λ c30=>?_⟩
  ·-- c30t: (!(AR (((AA 32 s).take k).map vOf))) = true
   replace c30:(!(AR (((AA 32 s).take k).map vOf)))=true:=c30
   try simp only [nrm] at c30
   rw [ht] at c30
   have hno:okP s=false:=by rw [D0 hao];exact c30
   refine ⟨?_,?_⟩
   ·-- l31: ([] : List (List Dat)) = AG (Ad s)
    show ([]:List (List Dat))=AG (Ad s)
    first|(rw [Ak hno];rfl)|(rw [hno])|(rw [ht,Ac hyes])|(rw [hyes])
   -- l32: Value.bool false = Value.bool (okP s)
   show Value.bool false=Value.bool (okP s)
   first|(rw [Ak hno];rfl)|(rw [hno])|(rw [ht,Ac hyes])|(rw [hyes])
  -- c30f: (!(AR (((AA 32 s).take k).map vOf))) = false
  replace c30:(!(AR (((AA 32 s).take k).map vOf)))=false:=c30
  try simp only [nrm] at c30
  rw [ht] at c30
  have hyes:okP s=true:=by rw [D0 hao];exact c30
  refine ⟨?_,?_⟩
  ·-- l33: (AG (((AA 32 s).take k).map vOf)) = AG (Ad s)
   show (AG (((AA 32 s).take k).map vOf))=AG (Ad s)
   first|(rw [Ak hno];rfl)|(rw [hno])|(rw [ht,Ac hyes])|(rw [hyes])
  -- l34: Value.bool true = Value.bool (okP s)
  show Value.bool true=Value.bool (okP s)
  first|(rw [Ak hno];rfl)|(rw [hno])|(rw [ht,Ac hyes])|(rw [hyes])
 -- c10t: (decide ((k : Int) < ((AE (AA 32 s)).length : Int))) = true
 replace c10:(decide ((k:Int)<((AE (AA 32 s)).length:Int)))=true:=c10
 try simp only [nrm] at c10
 have hk:k<(AA 32 s).length:=by omega
 refine ao (a:=0<=(k:Int)/\(k:Int)<((AE (AA 32 s)).length:Int)) (by first|rfl|omega|(simp only [AL,AQ,List.length_map,List.length_take,List.length_cons,List.length_nil];omega)|(simp;omega)) λ o11=>?_
 refine ao (a:=k<(AE (AA 32 s)).length) (by first|rfl|omega|(simp only [AL,AQ,List.length_map,List.length_take,List.length_cons,List.length_nil];omega)|(simp;omega)) λ o12=>?_
 -- w13: sParV [DA.one (DC.im (Value.string (((((AE (AA 32 s)).getD k []).getD 0 (.int 0))).s)))]
 refine ⟨((AA 32 s).getD k ⟨#[]⟩),by
  exact congrArg (λ x=>[DA.one (DC.im (Value.string x))]) (E6 hk),by
  show ((AA 32 s).getD k ⟨#[]⟩).size<=1073741824
  first|trivial|exact hpre|exact Nat.le_trans (BD (λ x hx=>Ag hx) k) hpre,?_⟩
 refine ⟨λ c16=>?_,λ c16=>?_⟩
 ·-- c16t: (!(okV ((AA 32 s).getD k ⟨#[]⟩))) = true
  replace c16:(!(okV ((AA 32 s).getD k ⟨#[]⟩)))=true:=c16
  try simp only [nrm] at c16
  have hno:=Il hk c16
  refine ⟨?_,?_⟩
  ·-- l17: ([] : List (List Dat)) = AG (Ad s)
   show ([]:List (List Dat))=AG (Ad s)
   first|(rw [Ak hno];rfl)|(rw [hno])|(rw [ht,Ac hyes])|(rw [hyes])
  -- l18: Value.bool false = Value.bool (okP s)
  show Value.bool false=Value.bool (okP s)
  first|(rw [Ak hno];rfl)|(rw [hno])|(rw [ht,Ac hyes])|(rw [hyes])
 -- c16f: (!(okV ((AA 32 s).getD k ⟨#[]⟩))) = false
 replace c16:(!(okV ((AA 32 s).getD k ⟨#[]⟩)))=false:=c16
 try simp only [nrm] at c16
 refine ao (a:=(AG (((AA 32 s).take k).map vOf)).length+([[Dat.int ((vOf ((AA 32 s).getD k ⟨#[]⟩)).1),Dat.int ((vOf ((AA 32 s).getD k ⟨#[]⟩)).2)]]:List (List Dat)).length<=2199023255552) (by first|rfl|omega|(simp only [AL,AQ,List.length_map,List.length_take,List.length_cons,List.length_nil];omega)|(simp;omega)) λ o19=>?_
 -- n20
 refine ⟨k+1,by
  exact ⟨by omega,by rw [Ik hk,hki4.2,c16];rfl⟩,by
  first|omega|(simp;omega),?_⟩
 refine ⟨rfl,?_,rfl,?_⟩
 ·-- e24: Value.int .i64 (IntKind.i64.wrap ((k : Int) + (1 : Int))) = Value.int .i64 ((k + 1) : Int)
  show Value.int .i64 (IntKind.i64.wrap ((k:Int)+(1:Int)))=Value.int .i64 ((k+1):Int)
  first|exact B8 (AU (by omega) (by omega))|exact E7 hk
 -- e26: ((AG (((AA 32 s).take k).map vOf)) ++ ([[Dat.int ((vOf ((AA 32 s).getD k ⟨#[]⟩)).1), Dat.int ((vOf ((AA 32 s).getD k ⟨#[]⟩)).2)]] : List (List Dat))) = (AG (((AA 32 s).take (k + 1)).map vOf))
 show ((AG (((AA 32 s).take k).map vOf))++([[Dat.int ((vOf ((AA 32 s).getD k ⟨#[]⟩)).1),Dat.int ((vOf ((AA 32 s).getD k ⟨#[]⟩)).2)]]:List (List Dat)))=(AG (((AA 32 s).take (k+1)).map vOf))
 first|exact B8 (AU (by omega) (by omega))|exact E7 hk
end Go.Proofs.YtcpjekkiejhgpaaDoor
