import Derived.Test.YtkffpiaagjcmpaaGreatFrRkD1
import Derived.Test.YtkffpiaagjcmpaaGreatFrScW
import Derived.Test.YtkffpiaagjcmpaaGreatFrStd
namespace Go.Proofs.YtkffpiaagjcmpaaGreat
set_option linter.unusedVariables false
set_option linter.unusedSimpArgs false
open Go.RowKit
def CE:Con:={ ι:=(List V2)×Int×Int,pre:=λ i=>i.1.length<=1048576/\i.1.all AD=true,args:=λ i=>[.one (DC.sl 24 [.int,.int] (AA i.1)),DA.agg [cI i.2.1,cI i.2.2]],res:=λ i=>⟨false,[none],[.own 24 [.int,.int] (AA (Co i.1 i.2.1 i.2.2))]⟩ }
set_option maxRecDepth 100000 in
theorem Ka:CE.Ok Tryz.prog 71:=by
 refine fok (X:=⟨tt,[(126,BS)],[],52,[]⟩) mixed AN (CTok.cons N9 (CTok.nil _)) Tryz.func71 (λ (i:(List V2)×Int×Int)=>[(5,.mk 4 (Nat) (λ x1=>{ tm:=[(3,tP 1 0),(12,tX 2),(13,tI (nI ((AA i.1).length))),(14,tI (x1:Int)),(5,tX 3)],en:=[(1,.box [kI i.2.1,kI i.2.2]),(2,.view 24 [.int,.int] (AA i.1) []),(3,.own 24 [.int,.int] (AA (BU (i.1.take x1) i.2.1 i.2.2)))] }) (λ x1=>x1<=i.1.length/\(BU (i.1.take x1) i.2.1 i.2.2).all AD=true) (λ x1=>i.1.length-x1) (λ _=>[]))]) ?_
 rintro ⟨l,dx,dy⟩ hpre
 have hpre:l.length<=1048576/\l.all AD=true:=hpre
 refine AM (q:=let Z6:=nI ((AA l).length);let Z2:=(([]:List (List Dat))=AA (Co l dx dy));∃ i1:Int×Int,[DA.agg [cI dx,cI dy]]=BS.args i1/\BS.pre i1/\(ifB ((!(AD (i1.1,i1.2)))) Z2 ((∃ x1:Nat,let Z7:=BU (l.take x1) dx dy;(x1<=l.length/\Z7.all AD=true)/\((rf (vI Z6))/\(vI (0:Int)=vI (x1:Int))/\(rf (vI dx))/\(rf (vI dy))/\(rf (AA l))/\(([]:List (List Dat))=(AA Z7))))/\∀ x1:Nat,let Z3:=BU (l.take x1) dx dy;let Z1:=(AA l).getD x1 [];let Z5:=wR (((Z1.getD 1 (.int 0))).n+dy);let Z4:=wR (((Z1.getD 0 (.int 0))).n+dx);(x1<=l.length/\Z3.all AD=true)->(ifB ((decide ((x1:Int)<Z6))) ((0<=(x1:Int)/\(x1:Int)<((AA l).length:Int))/\((x1<(AA l).length)/\(∃ i2:Int×Int,[DA.agg [cI (((Z1.getD 0 (.int 0))).n),cI (((Z1.getD 1 (.int 0))).n)]]=BS.args i2/\BS.pre i2/\(ifB ((!(!(AD (i2.1,i2.2))))) (∃ i3:Int×Int,[DA.agg [cI Z4,cI Z5]]=BS.args i3/\BS.pre i3/\(ifB ((!(AD (i3.1,i3.2)))) Z2 (((AA Z3).length+([[Dat.int Z4,Dat.int Z5]]:List (List Dat)).length<=2199023255552)/\(∃ y2:Nat,let Z8:=BU (l.take y2) dx dy;(y2<=l.length/\Z8.all AD=true)/\(l.length-y2<l.length-x1)/\((rf (vI Z6))/\(vI (wR ((x1:Int)+(1:Int)))=vI (y2:Int))/\(rf (vI dx))/\(rf (vI dy))/\(rf (AA l))/\(((AA Z3)++([[Dat.int Z4,Dat.int Z5]]:List (List Dat)))=(AA Z8))))))) Z2)))) (((AA Z3)=AA (Co l dx dy))))))) (by kernel_rfl) ?_
 conv=>zeta
 delta ifB vI wR nI
 have hvl:=AC l
 refine ⟨(dx,dy),by
  rfl,by
  first|trivial|(first|omega|assumption|exact hpre.1|exact hpre.2|(simp;done)),?_⟩
 refine ⟨λ c4=>?_,λ c4=>?_⟩
 ·try simp only [nrm] at c4
  first|(rw [Do (.inl c4)];rfl)|(rw [Do (.inr (L3 (k:=k) (by omega) c24))];rfl)|rw [hkl,List.take_length,FS c4 hki6.2]
 try simp only [nrm] at c4
 refine ⟨⟨0,by
  first|exact ⟨Nat.zero_le _,rfl⟩|exact ⟨by omega,by rw [Jl (by omega),List.all_append,hki6.2];simp only [Bool.true_and,List.all_cons,List.all_nil,Bool.and_true];exact c24⟩|omega,?_⟩,?_⟩
 ·refine ⟨rfl,rfl,rfl,rfl,rfl,?_⟩
  first|rfl|(rw [AC])
 intro (k:Nat) hki6
 have hki6:k<=l.length/\(BU (l.take k) dx dy).all AD=true:=hki6
 have hml:(AA (BU (l.take k) dx dy)).length=k:=by rw [AC,Cp,List.length_take];omega
 refine And.symm ⟨λ c14=>?_,λ c14=>?_⟩
 ·try simp only [nrm] at c14
  have hkl:k=l.length:=by omega
  rw [hkl,List.take_length] at hki6
  first|(rw [Do (.inl c4)];rfl)|(rw [Do (.inr (L3 (k:=k) (by omega) c24))];rfl)|rw [hkl,List.take_length,FS c4 hki6.2]
 try simp only [nrm] at c14
 refine ao (by first|rfl|omega|(rw [AC];omega)|(rw [AC];exact_mod_cast (by omega))|(simp [AC,Cp];omega)) λ o15=>?_
 refine ao (by first|rfl|omega|(rw [AC];omega)|(rw [AC];exact_mod_cast (by omega))|(simp [AC,Cp];omega)) λ o16=>?_
 refine ⟨(((((AA l).getD k []).getD 0 (.int 0))).n,((((AA l).getD k []).getD 1 (.int 0))).n),by
  rfl,by
  first|trivial|(first|omega|assumption|exact hpre.1|exact hpre.2|(simp;done)),?_⟩
 refine And.symm ⟨λ c20=>?_,λ c20=>?_⟩
 ·try simp only [nrm] at c20
  rw [Ai (by omega),Aj (by omega)] at c20
  have q:=Ak hpre.2 (show k<l.length by omega)
  have q:AD ((l.getD k (0,0)).1,(l.getD k (0,0)).2)=true:=q
  rw [q] at c20
  exact absurd c20 (by simp) -- done
 try simp only [nrm] at c20
 refine ⟨((IntKind.i64.wrap (((((AA l).getD k []).getD 0 (.int 0))).n+dx)),(IntKind.i64.wrap (((((AA l).getD k []).getD 1 (.int 0))).n+dy))),by
  rfl,by
  first|trivial|(first|omega|assumption|exact hpre.1|exact hpre.2|(simp;done)),?_⟩
 refine ⟨λ c24=>?_,λ c24=>?_⟩
 ·try simp only [nrm] at c24
  rw [Ai (by omega),Aj (by omega)] at c24
  first|(rw [Do (.inl c4)];rfl)|(rw [Do (.inr (L3 (k:=k) (by omega) c24))];rfl)|rw [hkl,List.take_length,FS c4 hki6.2]
 try simp only [nrm] at c24
 rw [Ai (by omega),Aj (by omega)] at c24
 refine ao (by first|rfl|omega|(rw [AC];omega)|(rw [AC];exact_mod_cast (by omega))|(simp [AC,Cp];omega)) λ o26=>?_
 refine ⟨k+1,by
  first|exact ⟨Nat.zero_le _,rfl⟩|exact ⟨by omega,by rw [Jl (by omega),List.all_append,hki6.2];simp only [Bool.true_and,List.all_cons,List.all_nil,Bool.and_true];exact c24⟩|omega,by
  first|omega|(simp;omega),?_⟩
 refine ⟨rfl,?_,rfl,rfl,rfl,?_⟩
 ·first|rfl|exact AR (AE (by omega) (by omega))|exact Jm (by omega)
 first|rfl|exact AR (AE (by omega) (by omega))|exact Jm (by omega)
end Go.Proofs.YtkffpiaagjcmpaaGreat
namespace Go.Proofs.YtkffpiaagjcmpaaGreat
set_option maxRecDepth 100000
set_option linter.unusedVariables false
set_option linter.unusedSimpArgs false
open Go.RowKit
def ABd (b:List UInt8) (k:Nat) (h:Int):Int:=Mn .i64 (IntKind.i64.wrap (IntKind.i64.wrap (IntKind.i64.wrap (h*61)+IntKind.i64.wrap (((b.getD k 0).toNat:Nat):Int))+7)) 1073741823
def ED (b:List UInt8):Nat->Int
 | 0=>1952+(b.length:Int)
 | k+1=>ABd b k (ED b k)
def BE (b:List UInt8):Cur:=⟨0,ED b (min b.length 4000)⟩
def BF (b:List UInt8):Nat->Cur
 | 0=>BE b
 | k+1=>byC b (BF b k)
theorem Jw {b:List UInt8} (h:b.length<=1048576):Ac b (BE b):=⟨h,Int.le_refl _,by show (0:Int)<=_;omega⟩
theorem Cu {b:List UInt8} (h:b.length<=1048576):∀ k,Ac b (BF b k)
 | 0=>Jw h
 | k+1=>FR (Cu h k)
def Q8:(List UInt8)->List PC:=λ i=>[.bt i,.im (.int .i64 ((BE i).i)),.im (.int .i64 ((BE i).h))]
def C4:Con:={ ι:=(List UInt8),pre:=λ i=>i.length<=1048576,args:=λ i=>[.one (.ro (.bytes i))],newp:=some Q8,res:=λ i=>⟨false,[],[]⟩ }
theorem Q9:C4.OkN Tryz.prog 31 Q8:=by
 refine ABS (X:=⟨tt,[],[4000001],32,[]⟩) mixed AN (CTok.nil _) Tryz.func31 (λ (i:(List UInt8))=>[(3,.mk 2 (Nat) (λ x1=>{ tm:=[(0,tX 1),(3,tI (ED i x1)),(4,tI (x1:Int))],en:=[(1,.ro (.bytes i) [])] }) (λ x1=>x1<=i.length/\x1<=4000) (λ x1=>4000-x1) (λ _=>[]))]) ?_
 intro (b:List UInt8) hpre
 have hpre:b.length<=1048576:=hpre
 refine AM (q:=let Z2:=(.bytes b:RO)=.bytes b;(∃ x1:Nat,(x1<=b.length/\x1<=4000)/\((vI (wR ((1952:Int)+(nI b.length)))=vI (ED b x1))/\(vI (0:Int)=vI (x1:Int))/\Z2))/\∀ x1:Nat,let Z1:=(vI (0:Int)=vI ((BE b).i))/\(vI (ED b x1)=vI ((BE b).h));(x1<=b.length/\x1<=4000)->(ifB ((decide ((x1:Int)<(nI b.length)))) (ifB ((decide ((x1:Int)<(4000:Int)))) ((0<=(x1:Int)/\(x1:Int)<(b.length:Int))/\((x1<b.length)/\(∃ y2:Nat,(y2<=b.length/\y2<=4000)/\(4000-y2<4000-x1)/\((vI (Mn .i64 (wR ((wR ((wR ((ED b x1)*(61:Int)))+(wR (nI ((b.getD x1 0).toNat)))))+(7:Int))) (1073741823:Int))=vI (ED b y2))/\(vI (wR ((x1:Int)+(1:Int)))=vI (y2:Int))/\Z2)))) Z1) Z1)) (by kernel_rfl) ?_
 conv=>zeta
 delta ifB vI wR nI
 refine ⟨⟨0,by
  first|omega|trivial,?_⟩,?_⟩
 ·refine ⟨?_,rfl,?_⟩
  ·exact AR (AE (by omega) (by omega))
  first|rfl|exact AR (AE (by omega) (by omega))
 intro (k:Nat) hki1
 have hki1:k<=b.length/\k<=4000:=hki1
 refine And.symm ⟨λ c6=>?_,λ c6=>?_⟩
 ·try simp only [nrm] at c6
  refine ⟨?_,?_⟩
  ·first|rfl|exact AR (by show ED b k=ED b (min b.length 4000);rw [show min b.length 4000=k by omega])
  first|rfl|exact AR (by show ED b k=ED b (min b.length 4000);rw [show min b.length 4000=k by omega])
 try simp only [nrm] at c6
 refine And.symm ⟨λ c7=>?_,λ c7=>?_⟩
 ·try simp only [nrm] at c7
  refine ⟨?_,?_⟩
  ·first|rfl|exact AR (by show ED b k=ED b (min b.length 4000);rw [show min b.length 4000=k by omega])
  first|rfl|exact AR (by show ED b k=ED b (min b.length 4000);rw [show min b.length 4000=k by omega])
 try simp only [nrm] at c7
 refine ao (by first|rfl|omega|(simp;done)|(simp;omega)) λ o8=>?_
 refine ao (by first|rfl|omega|(simp;done)|(simp;omega)) λ o9=>?_
 refine ⟨k+1,by
  first|omega|trivial,by
  first|omega|(simp;omega),?_⟩
 refine ⟨?_,?_,?_⟩
 ·first|rfl|exact AR (AE (by omega) (by omega))
 ·first|rfl|exact AR (AE (by omega) (by omega))
 first|rfl|exact AR (AE (by omega) (by omega))
def RA:(List UInt8)×Nat->List PC:=λ i=>[.bt i.1,.im (.int .i64 ((BF i.1 i.2).i)),.im (.int .i64 ((BF i.1 i.2).h))]
def G9:Con:={ ι:=(List UInt8)×Nat,pre:=λ i=>i.1.length<=1048576/\i.2<=1000,args:=λ i=>[.one (.ro (.bytes i.1)),.one (cI (i.2:Int))],newp:=some RA,res:=λ i=>⟨false,[],[]⟩ }
theorem YF:G9.OkN Tryz.prog 32 RA:=by
 refine ABS (X:=⟨tt,[(31,C4),(33,A1)],[4000001],17,[]⟩) mixed AN (CTok.consN Q9 (CTok.consP Oi (CTok.nil _))) Tryz.func32 (λ (i:(List UInt8)×Nat)=>[(3,.mk 3 (Nat) (λ x1=>{ tm:=[(0,tX 1),(1,tI (i.2:Int)),(5,tP 2 0),(6,tI (x1:Int))],en:=[(2,.box [.ext 1,kI ((BF i.1 x1).i),kI ((BF i.1 x1).h)]),(1,.ro (.bytes i.1) [])] }) (λ x1=>x1<=i.2) (λ x1=>i.2-x1) (λ _=>[]))]) ?_
 rintro ⟨b,n⟩ hpre
 have hpre:b.length<=1048576/\n<=1000:=hpre
 refine AM (q:=let Z2:=(.bytes b:RO)=.bytes b;∃ i1:(List UInt8),[DA.one (DC.ro (.bytes b))]=C4.args i1/\C4.pre i1/\((∃ x1:Nat,(x1<=n)/\((rf (vI (n:Int)))/\(vI (0:Int)=vI (x1:Int))/\(vI ((BE i1).i)=vI ((BF b x1).i))/\(vI ((BE i1).h)=vI ((BF b x1).h))/\Z2))/\∀ x1:Nat,let Z1:=BF b x1;(x1<=n)->(ifB ((decide ((x1:Int)<(n:Int)))) (∃ i2:(List UInt8)×Cur,[]=A1.args i2/\[PC.bt b,PC.im (vI (Z1.i)),PC.im (vI (Z1.h))]=C8 i2/\A1.pre i2/\(∃ y2:Nat,(y2<=n)/\(n-y2<n-x1)/\((rf (vI (n:Int)))/\(vI (wR ((x1:Int)+(1:Int)))=vI (y2:Int))/\(vI ((byC i2.1 i2.2).i)=vI ((BF b y2).i))/\(vI ((byC i2.1 i2.2).h)=vI ((BF b y2).h))/\Z2))) ((vI (Z1.i)=vI ((BF b n).i))/\(vI (Z1.h)=vI ((BF b n).h)))))) (by kernel_rfl) ?_
 conv=>zeta
 delta ifB vI wR
 refine ⟨b,by
  rfl,by
  show b.length<=1048576
  first|exact hpre.1|exact Cu hpre.1 k,?_⟩
 refine ⟨⟨0,by
  first|omega|trivial,?_⟩,?_⟩
 ·refine ⟨rfl,rfl,?_,?_,?_⟩
  ·first|rfl|exact AR (AE (by omega) (by omega))
  ·first|rfl|exact AR (AE (by omega) (by omega))
  first|rfl|exact AR (AE (by omega) (by omega))
 intro (k:Nat) hki4
 have hki4:k<=n:=hki4
 refine And.symm ⟨λ c11=>?_,λ c11=>?_⟩
 ·try simp only [nrm] at c11
  refine ⟨?_,?_⟩
  ·first|rfl|(rw [show n=k by omega])
  first|rfl|(rw [show n=k by omega])
 try simp only [nrm] at c11
 refine ⟨(b,(BF b k)),by
  rfl,rfl,by
  show Ac b (BF b k)
  first|exact hpre.1|exact Cu hpre.1 k,?_⟩
 refine ⟨k+1,by
  first|omega|trivial,by
  first|omega|(simp;omega),?_⟩
 refine ⟨rfl,?_,?_,?_,?_⟩
 ·first|rfl|exact AR (AE (by omega) (by omega))
 ·show Value.int .i64 ((byC b (BF b k)).i)=Value.int .i64 ((BF b (k+1)).i)
  first|rfl|exact AR (AE (by omega) (by omega))
 ·show Value.int .i64 ((byC b (BF b k)).h)=Value.int .i64 ((BF b (k+1)).h)
  first|rfl|exact AR (AE (by omega) (by omega))
 first|rfl|exact AR (AE (by omega) (by omega))
def O6:(List UInt8)×Cur×Int->List PC:=λ i=>[.bt i.1,.im (.int .i64 i.2.1.i),.im (.int .i64 i.2.1.h)]
def UW:(List UInt8)×Cur×Int->List PC:=λ i=>[.bt i.1,.im (.int .i64 ((blC i.1 i.2.1 i.2.2).i)),.im (.int .i64 ((blC i.1 i.2.1 i.2.2).h))]
def Iu:Con:={ ι:=(List UInt8)×Cur×Int,pre:=λ i=>Ac i.1 i.2.1,args:=λ i=>[.one (cI i.2.2)],ptr:=some (O6,UW),res:=λ i=>⟨false,[none],[rcB (decide (blV i.1 i.2.1 i.2.2=0))]⟩ }
theorem Za:Iu.OkP Tryz.prog 72 O6 UW:=by
 refine XR (X:=⟨tt,[(69,AP)],[4000000],9,[]⟩) mixed AN (CTok.consP L1 (CTok.nil _)) Tryz.func72 (λ _=>[]) ?_
 rintro ⟨b,c,n⟩ hpre
 have hpre:Ac b c:=hpre
 refine AM (q:=∃ i1:(List UInt8)×Cur×Int,let Z1:=blC i1.1 i1.2.1 i1.2.2;[DA.one (cI n)]=AP.args i1/\[PC.bt b,PC.im (vI c.i),PC.im (vI c.h)]=BC i1/\AP.pre i1/\((vB ((blV i1.1 i1.2.1 i1.2.2) == (0:Int))=vB (decide (blV b c n=0)))/\(vI (Z1.i)=vI ((blC b c n).i))/\(vI (Z1.h)=vI ((blC b c n).h)))) (by kernel_rfl) ?_
 conv=>zeta
 delta vB vI
 refine ⟨(b,c,n),by
  rfl,rfl,by
  exact hpre,?_⟩
 refine ⟨?_,rfl,rfl⟩
 show Value.bool ((blV b c n) == (0:Int))=Value.bool (decide (blV b c n=0))
 first|rfl|simp_all
def F0 (b:List UInt8) (n:Nat):Int:=byV b (BF b n)*256+byV b (BF b (n+1))
theorem MR (b:List UInt8) (n:Nat):0<=F0 b n/\F0 b n<=65535:=by
 have:=CQ b (BF b n)
 have:=CQ b (BF b (n+1))
 unfold F0;omega
def Ch:Con:={ ι:=(List UInt8)×Nat,pre:=λ i=>i.1.length<=1048576/\i.2<=100,args:=λ i=>[.one (.ro (.bytes i.1)),.one (cI (i.2:Int))],res:=λ i=>⟨false,[none],[rcI (F0 i.1 i.2)]⟩ }
theorem YG:Ch.Ok Tryz.prog 7:=by
 refine fok (X:=⟨tt,[(32,G9),(33,A1)],[],15,[]⟩) mixed AN (CTok.consN YF (CTok.consP Oi (CTok.nil _))) Tryz.func7 (λ _=>[]) ?_
 rintro ⟨b,n⟩ hpre
 have hpre:b.length<=1048576/\n<=100:=hpre
 refine AM (q:=∃ i1:(List UInt8)×Nat,[DA.one (DC.ro (.bytes b)),DA.one (cI (n:Int))]=G9.args i1/\G9.pre i1/\(∃ i2:(List UInt8)×Cur,[]=A1.args i2/\[PC.bt b,PC.im (vI ((BF i1.1 i1.2).i)),PC.im (vI ((BF i1.1 i1.2).h))]=C8 i2/\A1.pre i2/\(∃ i3:(List UInt8)×Cur,[]=A1.args i3/\[PC.bt b,PC.im (vI ((byC i2.1 i2.2).i)),PC.im (vI ((byC i2.1 i2.2).h))]=C8 i3/\A1.pre i3/\((vI (wR ((wR ((byV i2.1 i2.2)*(256:Int)))+(byV i3.1 i3.2)))=vI (F0 b n)))))) (by kernel_rfl) ?_
 delta vI wR
 have q1:=CQ b (BF b n)
 have q2:=CQ b (BF b (n+1))
 refine ⟨(b,n),by
  rfl,by
  show b.length<=1048576/\n<=1000
  first|exact ⟨hpre.1,by omega⟩|exact Cu hpre.1 n|exact Cu hpre.1 (n+1),?_⟩
 refine ⟨(b,(BF b n)),by
  rfl,rfl,by
  show Ac b (BF b n)
  first|exact ⟨hpre.1,by omega⟩|exact Cu hpre.1 n|exact Cu hpre.1 (n+1),?_⟩
 refine ⟨(b,(byC b (BF b n))),by
  rfl,rfl,by
  show Ac b (byC b (BF b n))
  first|exact ⟨hpre.1,by omega⟩|exact Cu hpre.1 n|exact Cu hpre.1 (n+1),?_⟩
 show Value.int .i64 (IntKind.i64.wrap ((IntKind.i64.wrap ((byV b (BF b n))*(256:Int)))+(byV b (byC b (BF b n)))))=Value.int .i64 (F0 b n)
 exact AR (by rw [show byC b (BF b n)=BF b (n+1) from rfl,AE (x:=byV b (BF b n)*256) (by omega) (by omega),AE (by omega) (by omega)];rfl)
theorem O7 {l:List V2} {dx dy:Int} (h:∀ x ∈ l,(-10<=x.1/\x.1<=10)/\-10<=x.2/\x.2<=10) (hx:-100<=dx/\dx<=100) (hy:-100<=dy/\dy<=100):l.all AD=true:=by
 rw [List.all_eq_true]
 intro x hm
 have:=h x hm
 show B0 1000 x=true
 simp only [B0,Bool.and_eq_true,Az]
 omega
def obS (b:List UInt8) (p:List (List V2)×Cur):List (List V2)×Cur:=
 let q:=drP b 4 p.2
 (p.1++[Co q.1 (4+blV b q.2 16) (3+blV b (blC b q.2 16) 12)],blC b (blC b q.2 16) 12)
def obN (b:List UInt8) (c:Cur):Nat->List (List V2)×Cur
 | 0=>([],c)
 | k+1=>obS b (obN b c k)
def Zb (x:Int):List V2:=[(x,-1),(x+2,-1),(x+2,40),(x,40)]
def wlV (b:List UInt8) (p:List (List V2)×Cur):List (List V2)×Cur:=
 if blV b p.2 6=0 then (p.1++[Zb (6+blV b (blC b p.2 6) 8)],blC b (blC b p.2 6) 8) else (p.1,blC b p.2 6)
def tbS (b:List UInt8) (p:List V2×Cur):List V2×Cur:=
 (p.1++[(3+blV b p.2 18,3+blV b (blC b p.2 18) 14)],blC b (blC b p.2 18) 14)
def tbN (b:List UInt8) (c:Cur):Nat->List V2×Cur
 | 0=>([],c)
 | k+1=>tbS b (tbN b c k)
def Vu (b:List UInt8) (c:Cur):Cur:=blC b (blC b c 12) 10
def BA (b:List UInt8) (c:Cur):Cur:=(drP b 2 (Vu b c)).2
def GX (b:List UInt8) (c:Cur):Nat:=(blV b (BA b c) 3).toNat
def F1 (b:List UInt8) (c:Cur):List (List V2)×Cur:=obN b (blC b (BA b c) 3) (GX b c)
def Ar (b:List UInt8) (c:Cur):List (List V2)×Cur:=wlV b (F1 b c)
def DU (b:List UInt8) (c:Cur):Nat:=(blV b (Ar b c).2 3).toNat
def RB (b:List UInt8) (c:Cur):List V2×Cur:=tbN b (blC b (Ar b c).2 3) (DU b c)
def DV (b:List UInt8) (c:Cur):Scn:=⟨(0,0),(14+blV b c 12,12+blV b (blC b c 12) 10),(drP b 2 (Vu b c)).1,(Ar b c).1,(RB b c).1⟩
theorem HD (b:List UInt8) (c:Cur):∀ k,(obN b c k).1.length=k
 | 0=>rfl
 | k+1=>by simp [obN,obS,HD b c k]
theorem HE (b:List UInt8) (c:Cur):∀ k,(tbN b c k).1.length=k
 | 0=>rfl
 | k+1=>by simp [tbN,tbS,HE b c k]
theorem Kw {b:List UInt8} {z:Int} {c:Cur} (h:Ac b c):Ac b (drP b z c).2:=UV 8 c h
theorem O8 {b:List UInt8} {c:Cur} (h:Ac b c):∀ k,Ac b (obN b c k).2
 | 0=>h
 | k+1=>Aw _ (Aw _ (Kw (O8 h k)))
theorem O9 {b:List UInt8} {c:Cur} (h:Ac b c):∀ k,Ac b (tbN b c k).2
 | 0=>h
 | k+1=>Aw _ (Aw _ (O9 h k))
theorem Zc {b:List UInt8} {p:List (List V2)×Cur} (h:Ac b p.2):Ac b (wlV b p).2:=by
 unfold wlV
 split
 ·exact Aw _ (Aw _ h)
 ·exact Aw _ h
theorem MS (l:List (List V2)) (p:List V2):AI l++[[Dat.sl (AA p)]]=AI (l++[p]):=by simp [AI]
theorem Zd {b:List UInt8} {c:Cur} (k:Nat):(drP b 4 (obN b c k).2).1.all AD=true/\(drP b 4 (obN b c k).2).1.length<=1048576:=by
 have h:=TB (b:=b) (z:=4) (by omega) (obN b c k).2
 refine ⟨O7 (dx:=0) (dy:=0) (λ x hx=>?_) (by omega) (by omega),by omega⟩
 have:=h.2.2 x hx;omega
theorem Kx (b:List UInt8) (c:Cur):((GX b c:Nat):Int)=blV b (BA b c) 3/\GX b c<=2:=by
 have:=A8 b (BA b c) (n:=3) (by omega)
 unfold GX;omega
theorem Fh (b:List UInt8) (c:Cur):((DU b c:Nat):Int)=blV b (Ar b c).2 3/\DU b c<=2:=by
 have:=A8 b (Ar b c).2 (n:=3) (by omega)
 unfold DU;omega
theorem RD {b:List UInt8} {c:Cur} (h:blV b (F1 b c).2 6=0):Ar b c=((F1 b c).1++[Zb (6+blV b (blC b (F1 b c).2 6) 8)],blC b (blC b (F1 b c).2 6) 8):=if_pos h
theorem UX {b:List UInt8} {c:Cur} (h:¬ blV b (F1 b c).2 6=0):Ar b c=((F1 b c).1,blC b (F1 b c).2 6):=if_neg h
theorem RE (b:List UInt8) (c:Cur) (k:Nat):obN b c (k+1)=((obN b c k).1++[Co (drP b 4 (obN b c k).2).1 (4+blV b (drP b 4 (obN b c k).2).2 16) (3+blV b (blC b (drP b 4 (obN b c k).2).2 16) 12)],blC b (blC b (drP b 4 (obN b c k).2).2 16) 12):=rfl
theorem MT (b:List UInt8) (c:Cur) (k:Nat):tbN b c (k+1)=((tbN b c k).1++[(3+blV b (tbN b c k).2 18,3+blV b (blC b (tbN b c k).2 18) 14)],blC b (blC b (tbN b c k).2 18) 14):=rfl
def PA:(List UInt8)×Cur->List PC:=λ i=>[.bt i.1,.im (.int .i64 i.2.i),.im (.int .i64 i.2.h)]
def UY:(List UInt8)×Cur->List PC:=λ i=>[.bt i.1,.im (.int .i64 (((RB i.1 i.2).2).i)),.im (.int .i64 (((RB i.1 i.2).2).h))]
def Iv:Con:={ ι:=(List UInt8)×Cur,pre:=λ i=>Ac i.1 i.2,args:=λ i=>[],ptr:=some (PA,UY),res:=λ i=>⟨false,[some 7],[rcI 0,rcI 0,rcI ((DV i.1 i.2).high.1),rcI ((DV i.1 i.2).high.2),.own 24 [.int,.int] (AA (DV i.1 i.2).robot),.own 25 [.sl 24 [.int,.int]] (AI (DV i.1 i.2).obst),.own 24 [.int,.int] (AA (DV i.1 i.2).tables)]⟩ }
set_option maxHeartbeats 1600000 in
theorem Ze:Iv.OkP Tryz.prog 30 PA UY:=by
 refine XR (X:=⟨tt,[(69,AP),(70,Ds),(71,CE),(72,Iu)],[17,4000000],80,[]⟩) mixed AN (CTok.consP L1 (CTok.consP YE (CTok.cons Ka (CTok.consP Za (CTok.nil _))))) Tryz.func30 (λ (i:(List UInt8)×Cur)=>let Z6:=blC i.1 i.2 12;let Z5:=Ar i.1 i.2;let Z4:=AA (drP i.1 2 (Vu i.1 i.2)).1;let Z1:=Value.slice none 0 0;[(100010,.mk 8 (Unit) (λ x3=>{ tm:=[(0,tP 1 0),(2,tP 3 0),(3,tP 4 0)],en:=[(1,.box [.ext 2,kI ((Z5.2).i),kI ((Z5.2).h)]),(3,.box [kI (0:Int),kI (0:Int),kI (0:Int),kI (0:Int),.im Z1,.im Z1,.im Z1]),(4,.box [kI (0:Int),kI (0:Int),kI (14+blV i.1 i.2 12),kI (12+blV i.1 Z6 10),.ext 5,.ext 6,.ext 7]),(2,.ro (.bytes i.1) []),(5,.own 24 [.int,.int] Z4),(6,.own 25 [.sl 24 [.int,.int]] (AI Z5.1)),(7,.own 24 [.int,.int] ([]:List (List Dat)))] }) (λ _=>True) (λ _=>0) (λ x3=>[(11,.mk 8 (Nat) (λ x4=>let Z2:=tbN i.1 (blC i.1 Z5.2 3) x4;{ tm:=[(0,tP 1 0),(2,tP 3 0),(3,tP 4 0),(7,tI ((nI (DU i.1 i.2))-(x4:Int)))],en:=[(1,.box [.ext 2,kI ((Z2.2).i),kI ((Z2.2).h)]),(3,.box [kI (0:Int),kI (0:Int),kI (0:Int),kI (0:Int),.im Z1,.im Z1,.im Z1]),(4,.box [kI (0:Int),kI (0:Int),kI (14+blV i.1 i.2 12),kI (12+blV i.1 Z6 10),.ext 5,.ext 6,.ext 7]),(2,.ro (.bytes i.1) []),(5,.own 24 [.int,.int] Z4),(6,.own 25 [.sl 24 [.int,.int]] (AI Z5.1)),(7,.own 24 [.int,.int] (AA Z2.1))] }) (λ x4=>x4<=DU i.1 i.2) (λ x4=>DU i.1 i.2-x4) (λ _=>[]))])),(3,.mk 8 (Nat) (λ x1=>let Z3:=obN i.1 (blC i.1 (BA i.1 i.2) 3) x1;{ tm:=[(0,tP 1 0),(2,tP 3 0),(3,tP 4 0),(4,tI ((nI (GX i.1 i.2))-(x1:Int)))],en:=[(1,.box [.ext 2,kI ((Z3.2).i),kI ((Z3.2).h)]),(3,.box [kI (0:Int),kI (0:Int),kI (0:Int),kI (0:Int),.im Z1,.im Z1,.im Z1]),(4,.box [kI (0:Int),kI (0:Int),kI (14+blV i.1 i.2 12),kI (12+blV i.1 Z6 10),.ext 5,.ext 6,.ext 7]),(2,.ro (.bytes i.1) []),(5,.own 24 [.int,.int] Z4),(6,.own 25 [.sl 24 [.int,.int]] (AI Z3.1)),(7,.own 24 [.int,.int] ([]:List (List Dat)))] }) (λ x1=>x1<=GX i.1 i.2) (λ x1=>GX i.1 i.2-x1) (λ _=>[]))]) ?_
 rintro ⟨b,c⟩ hpre
 have hpre:Ac b c:=hpre
 refine AM (q:=let Z44:=cI (3:Int);let Z33:=(RB b c).2;let Z31:=nI (GX b c);let Z21:=vI (0:Int)=vI 0;let Z19:=DV b c;let Z30:=vI (14+blV b c 12)=vI (Z19.high.1);let Z22:=vI (12+blV b (blC b c 12) 10)=vI (Z19.high.2);let Z15:=(Ar b c).2;let Z14:=nI (DU b c);let Z13:=List Dat;let Z12:=blC b (BA b c) 3;let Z11:=vI (14+blV b c 12);let Z10:=List UInt8;let Z9:=AI (Ar b c).1;let Z8:=(.bytes b:RO)=.bytes b;let Z7:=vI (12+blV b (blC b c 12) 10);let Z5:=AA (drP b 2 (Vu b c)).1;let Z3:=Value.slice none 0 0;let Z2:=blC b (Ar b c).2 3;let Z1:=vI (0:Int);∃ i1:Z10×Cur×Int,let Z42:=blC i1.1 i1.2.1 i1.2.2;[DA.one (cI (12:Int))]=AP.args i1/\[PC.bt b,PC.im (vI c.i),PC.im (vI c.h)]=BC i1/\AP.pre i1/\(∃ i2:Z10×Cur×Int,let Z43:=blC i2.1 i2.2.1 i2.2.2;[DA.one (cI (10:Int))]=AP.args i2/\[PC.bt b,PC.im (vI (Z42.i)),PC.im (vI (Z42.h))]=BC i2/\AP.pre i2/\(∃ i3:Z10×Cur×Int,let Z27:=drP i3.1 i3.2.2 i3.2.1;[DA.one (cI (2:Int))]=Ds.args i3/\[PC.bt b,PC.im (vI (Z43.i)),PC.im (vI (Z43.h))]=It i3/\Ds.pre i3/\(∃ i4:Z10×Cur×Int,let Z45:=blC i4.1 i4.2.1 i4.2.2;[DA.one Z44]=AP.args i4/\[PC.bt b,PC.im (vI ((Z27.2).i)),PC.im (vI ((Z27.2).h))]=BC i4/\AP.pre i4/\((∃ x1:Nat,let Z46:=obN b Z12 x1;(x1<=GX b c)/\((vI (blV i4.1 i4.2.1 i4.2.2)=vI (Z31-(x1:Int)))/\(vI (Z45.i)=vI ((Z46.2).i))/\(vI (Z45.h)=vI ((Z46.2).h))/\(rf Z1)/\(rf Z1)/\(rf Z1)/\(rf Z1)/\(rf Z3)/\(rf Z3)/\(rf Z3)/\(rf Z1)/\(rf Z1)/\(vI (wR ((14:Int)+(blV i1.1 i1.2.1 i1.2.2)))=vI (14+blV b c 12))/\(vI (wR ((12:Int)+(blV i2.1 i2.2.1 i2.2.2)))=vI (12+blV b (blC b c 12) 10))/\Z8/\(AA Z27.1=Z5)/\(([]:List Z13)=(AI Z46.1))/\(rf ([]:List Z13))))/\∀ x1:Nat,let Z6:=obN b Z12 x1;let Z29:=AI Z6.1;(x1<=GX b c)->(ifB ((decide ((Z31-(x1:Int))>(0:Int)))) (∃ i5:Z10×Cur×Int,let Z28:=drP i5.1 i5.2.2 i5.2.1;[DA.one (cI (4:Int))]=Ds.args i5/\[PC.bt b,PC.im (vI ((Z6.2).i)),PC.im (vI ((Z6.2).h))]=It i5/\Ds.pre i5/\(∃ i6:Z10×Cur×Int,let Z47:=blC i6.1 i6.2.1 i6.2.2;[DA.one (cI (16:Int))]=AP.args i6/\[PC.bt b,PC.im (vI ((Z28.2).i)),PC.im (vI ((Z28.2).h))]=BC i6/\AP.pre i6/\(∃ i7:Z10×Cur×Int,let Z48:=blC i7.1 i7.2.1 i7.2.2;[DA.one (cI (12:Int))]=AP.args i7/\[PC.bt b,PC.im (vI (Z47.i)),PC.im (vI (Z47.h))]=BC i7/\AP.pre i7/\(∃ i8:(List V2)×Int×Int,let Z32:=AA (Co i8.1 i8.2.1 i8.2.2);[DA.one (DC.sl 24 [.int,.int] (AA Z28.1)),DA.agg [cI (wR ((4:Int)+(blV i6.1 i6.2.1 i6.2.2))),cI (wR ((3:Int)+(blV i7.1 i7.2.1 i7.2.2)))]]=CE.args i8/\CE.pre i8/\((Z29.length+([[Dat.sl Z32]]:List Z13).length<=2199023255552)/\(∃ y2:Nat,let Z49:=obN b Z12 y2;(y2<=GX b c)/\(GX b c-y2<GX b c-x1)/\((vI (wR ((Z31-(x1:Int))-(1:Int)))=vI (Z31-(y2:Int)))/\(vI (Z48.i)=vI ((Z49.2).i))/\(vI (Z48.h)=vI ((Z49.2).h))/\(rf Z1)/\(rf Z1)/\(rf Z1)/\(rf Z1)/\(rf Z3)/\(rf Z3)/\(rf Z3)/\(rf Z1)/\(rf Z1)/\(rf Z11)/\(rf Z7)/\Z8/\(rf Z5)/\((Z29++([[Dat.sl Z32]]:List Z13))=(AI Z49.1))/\(rf ([]:List Z13))))))))) (∃ i9:Z10×Cur×Int,let Z18:=blC i9.1 i9.2.1 i9.2.2;[DA.one (cI (6:Int))]=Iu.args i9/\[PC.bt b,PC.im (vI ((Z6.2).i)),PC.im (vI ((Z6.2).h))]=O6 i9/\Iu.pre i9/\(ifB ((decide (blV i9.1 i9.2.1 i9.2.2=0))) (∃ i10:Z10×Cur×Int,let Z34:=blC i10.1 i10.2.1 i10.2.2;let Z4:=wR ((6:Int)+(blV i10.1 i10.2.1 i10.2.2));let Z20:=wR (Z4+(2:Int));[DA.one (cI (8:Int))]=AP.args i10/\[PC.bt b,PC.im (vI (Z18.i)),PC.im (vI (Z18.h))]=BC i10/\AP.pre i10/\((Z29.length+([[Dat.sl ([[Dat.int Z4,Dat.int (-1:Int)],[Dat.int Z20,Dat.int (-1:Int)],[Dat.int Z20,Dat.int (40:Int)],[Dat.int Z4,Dat.int (40:Int)]]:List Z13)]]:List Z13).length<=2199023255552)/\((∃ x3:Unit,(True)/\((vI (Z34.i)=vI (Z15.i))/\(vI (Z34.h)=vI (Z15.h))/\(rf Z1)/\(rf Z1)/\(rf Z1)/\(rf Z1)/\(rf Z3)/\(rf Z3)/\(rf Z3)/\(rf Z1)/\(rf Z1)/\(rf Z11)/\(rf Z7)/\Z8/\(rf Z5)/\((Z29++([[Dat.sl ([[Dat.int Z4,Dat.int (-1:Int)],[Dat.int Z20,Dat.int (-1:Int)],[Dat.int Z20,Dat.int (40:Int)],[Dat.int Z4,Dat.int (40:Int)]]:List Z13)]]:List Z13))=Z9)/\(rf ([]:List Z13))))/\∀ x3:Unit,(True)->(∃ i11:Z10×Cur×Int,let Z35:=blC i11.1 i11.2.1 i11.2.2;[DA.one Z44]=AP.args i11/\[PC.bt b,PC.im (vI (Z15.i)),PC.im (vI (Z15.h))]=BC i11/\AP.pre i11/\((∃ x4:Nat,let Z41:=tbN b Z2 x4;(x4<=DU b c)/\((vI (blV i11.1 i11.2.1 i11.2.2)=vI (Z14-(x4:Int)))/\(vI (Z35.i)=vI ((Z41.2).i))/\(vI (Z35.h)=vI ((Z41.2).h))/\(rf Z1)/\(rf Z1)/\(rf Z1)/\(rf Z1)/\(rf Z3)/\(rf Z3)/\(rf Z3)/\(rf Z1)/\(rf Z1)/\(rf Z11)/\(rf Z7)/\Z8/\(rf Z5)/\(rf Z9)/\(([]:List Z13)=(AA Z41.1))))/\∀ x4:Nat,let Z16:=tbN b Z2 x4;(x4<=DU b c)->(ifB ((decide ((Z14-(x4:Int))>(0:Int)))) (∃ i12:Z10×Cur×Int,let Z36:=blC i12.1 i12.2.1 i12.2.2;let Z23:=wR ((3:Int)+(blV i12.1 i12.2.1 i12.2.2));[DA.one (cI (18:Int))]=AP.args i12/\[PC.bt b,PC.im (vI ((Z16.2).i)),PC.im (vI ((Z16.2).h))]=BC i12/\AP.pre i12/\(∃ i13:Z10×Cur×Int,let Z37:=blC i13.1 i13.2.1 i13.2.2;let Z24:=wR ((3:Int)+(blV i13.1 i13.2.1 i13.2.2));[DA.one (cI (14:Int))]=AP.args i13/\[PC.bt b,PC.im (vI (Z36.i)),PC.im (vI (Z36.h))]=BC i13/\AP.pre i13/\(((AA Z16.1).length+([[Dat.int Z23,Dat.int Z24]]:List Z13).length<=2199023255552)/\(∃ y5:Nat,(y5<=DU b c)/\(DU b c-y5<DU b c-x4)/\((vI (wR ((Z14-(x4:Int))-(1:Int)))=vI (Z14-(y5:Int)))/\(vI (Z37.i)=vI (((tbN b Z2 y5).2).i))/\(vI (Z37.h)=vI (((tbN b Z2 y5).2).h))/\(rf Z1)/\(rf Z1)/\(rf Z1)/\(rf Z1)/\(rf Z3)/\(rf Z3)/\(rf Z3)/\(rf Z1)/\(rf Z1)/\(rf Z11)/\(rf Z7)/\Z8/\(rf Z5)/\(rf Z9)/\(((AA Z16.1)++([[Dat.int Z23,Dat.int Z24]]:List Z13))=(AA (tbN b Z2 y5).1))))))) (Z21/\Z21/\Z30/\Z22/\(Z5=AA Z19.robot)/\(Z9=AI Z19.obst)/\((AA Z16.1)=AA Z19.tables)/\(vI ((Z16.2).i)=vI (Z33.i))/\(vI ((Z16.2).h)=vI (Z33.h))))))))) ((∃ x3:Unit,(True)/\((vI (Z18.i)=vI (Z15.i))/\(vI (Z18.h)=vI (Z15.h))/\(rf Z1)/\(rf Z1)/\(rf Z1)/\(rf Z1)/\(rf Z3)/\(rf Z3)/\(rf Z3)/\(rf Z1)/\(rf Z1)/\(rf Z11)/\(rf Z7)/\Z8/\(rf Z5)/\(Z29=Z9)/\(rf ([]:List Z13))))/\∀ x3:Unit,(True)->(∃ i14:Z10×Cur×Int,let Z38:=blC i14.1 i14.2.1 i14.2.2;[DA.one Z44]=AP.args i14/\[PC.bt b,PC.im (vI (Z15.i)),PC.im (vI (Z15.h))]=BC i14/\AP.pre i14/\((∃ x4:Nat,(x4<=DU b c)/\((vI (blV i14.1 i14.2.1 i14.2.2)=vI (Z14-(x4:Int)))/\(vI (Z38.i)=vI (((tbN b Z2 x4).2).i))/\(vI (Z38.h)=vI (((tbN b Z2 x4).2).h))/\(rf Z1)/\(rf Z1)/\(rf Z1)/\(rf Z1)/\(rf Z3)/\(rf Z3)/\(rf Z3)/\(rf Z1)/\(rf Z1)/\(rf Z11)/\(rf Z7)/\Z8/\(rf Z5)/\(rf Z9)/\(([]:List Z13)=(AA (tbN b Z2 x4).1))))/\∀ x4:Nat,let Z17:=tbN b Z2 x4;(x4<=DU b c)->(ifB ((decide ((Z14-(x4:Int))>(0:Int)))) (∃ i15:Z10×Cur×Int,let Z39:=blC i15.1 i15.2.1 i15.2.2;let Z25:=wR ((3:Int)+(blV i15.1 i15.2.1 i15.2.2));[DA.one (cI (18:Int))]=AP.args i15/\[PC.bt b,PC.im (vI ((Z17.2).i)),PC.im (vI ((Z17.2).h))]=BC i15/\AP.pre i15/\(∃ i16:Z10×Cur×Int,let Z40:=blC i16.1 i16.2.1 i16.2.2;let Z26:=wR ((3:Int)+(blV i16.1 i16.2.1 i16.2.2));[DA.one (cI (14:Int))]=AP.args i16/\[PC.bt b,PC.im (vI (Z39.i)),PC.im (vI (Z39.h))]=BC i16/\AP.pre i16/\(((AA Z17.1).length+([[Dat.int Z25,Dat.int Z26]]:List Z13).length<=2199023255552)/\(∃ y8:Nat,(y8<=DU b c)/\(DU b c-y8<DU b c-x4)/\((vI (wR ((Z14-(x4:Int))-(1:Int)))=vI (Z14-(y8:Int)))/\(vI (Z40.i)=vI (((tbN b Z2 y8).2).i))/\(vI (Z40.h)=vI (((tbN b Z2 y8).2).h))/\(rf Z1)/\(rf Z1)/\(rf Z1)/\(rf Z1)/\(rf Z3)/\(rf Z3)/\(rf Z3)/\(rf Z1)/\(rf Z1)/\(rf Z11)/\(rf Z7)/\Z8/\(rf Z5)/\(rf Z9)/\(((AA Z17.1)++([[Dat.int Z25,Dat.int Z26]]:List Z13))=(AA (tbN b Z2 y8).1))))))) (Z21/\Z21/\Z30/\Z22/\(Z5=AA Z19.robot)/\(Z9=AI Z19.obst)/\((AA Z17.1)=AA Z19.tables)/\(vI ((Z17.2).i)=vI (Z33.i))/\(vI ((Z17.2).h)=vI (Z33.h))))))))))))))) (by kernel_rfl) ?_
 conv=>zeta
 delta ifB vI wR nI
 have k1:=Aw 12 hpre
 have k2:Ac b (Vu b c):=Aw 10 k1
 have k3:Ac b (BA b c):=Kw k2
 have k4:=Aw 3 k3
 have q1:=A8 b c (n:=12) (by omega)
 have q2:=A8 b (blC b c 12) (n:=10) (by omega)
 have k5:Ac b (F1 b c).2:=O8 k4 _
 have k6:Ac b (Ar b c).2:=Zc k5
 have k7:=Aw 3 k6
 refine ⟨(b,c,(12:Int)),by
  rfl,rfl,by
  exact hpre,?_⟩
 refine ⟨(b,(blC b c (12:Int)),(10:Int)),by
  rfl,rfl,by
  exact k1,?_⟩
 refine ⟨(b,(blC b (blC b c (12:Int)) (10:Int)),(2:Int)),by
  rfl,rfl,by
  show Ac b (blC b (blC b c (12:Int)) (10:Int))/\0<=(2:Int)/\(2:Int)<=1000
  exact ⟨k2,by omega,by omega⟩,?_⟩
 refine ⟨(b,((drP b (2:Int) (blC b (blC b c (12:Int)) (10:Int))).2),(3:Int)),by
  rfl,rfl,by
  exact k3,?_⟩
 refine ⟨⟨0,by
  first|omega|trivial,?_⟩,?_⟩
 ·refine ⟨?_,?_,?_,rfl,rfl,rfl,rfl,rfl,rfl,rfl,rfl,rfl,?_,?_,?_,?_,?_,rfl⟩
  ·show Value.int .i64 (blV b ((drP b (2:Int) (blC b (blC b c (12:Int)) (10:Int))).2) (3:Int))=Value.int .i64 (((GX b c:Nat):Int)-(0:Int))
   exact AR (by rw [(Kx b c).1];exact (Int.sub_zero _).symm)
  ·show Value.int .i64 ((blC b ((drP b (2:Int) (blC b (blC b c (12:Int)) (10:Int))).2) (3:Int)).i)=Value.int .i64 (((obN b (blC b (BA b c) 3) 0).2).i)
   exact rfl
  ·show Value.int .i64 ((blC b ((drP b (2:Int) (blC b (blC b c (12:Int)) (10:Int))).2) (3:Int)).h)=Value.int .i64 (((obN b (blC b (BA b c) 3) 0).2).h)
   exact rfl
  ·show Value.int .i64 (IntKind.i64.wrap ((14:Int)+(blV b c (12:Int))))=Value.int .i64 (14+blV b c 12)
   exact AR (AE (by omega) (by omega))
  ·show Value.int .i64 (IntKind.i64.wrap ((12:Int)+(blV b (blC b c (12:Int)) (10:Int))))=Value.int .i64 (12+blV b (blC b c 12) 10)
   exact AR (AE (by omega) (by omega))
  ·exact rfl
  ·show AA (drP b (2:Int) (blC b (blC b c (12:Int)) (10:Int))).1=(AA (drP b 2 (Vu b c)).1)
   exact rfl
  exact rfl
 intro (k:Nat) hki13
 have hki13:k<=GX b c:=hki13
 have ko:=O8 k4 k
 refine ⟨λ c33=>?_,λ c33=>?_⟩
 ·try simp only [nrm] at c33
  have n1:=Kx b c
  have o1:=Zd (b:=b) (c:=blC b (BA b c) 3) k
  have r1:=A8 b (drP b 4 (obN b (blC b (BA b c) 3) k).2).2 (n:=16) (by omega)
  have r2:=A8 b (blC b (drP b 4 (obN b (blC b (BA b c) 3) k).2).2 16) (n:=12) (by omega)
  have w1:=AE (x:=4+blV b (drP b 4 (obN b (blC b (BA b c) 3) k).2).2 16) (by omega) (by omega)
  have w2:=AE (x:=3+blV b (blC b (drP b 4 (obN b (blC b (BA b c) 3) k).2).2 16) 12) (by omega) (by omega)
  refine ⟨(b,((obN b (blC b (BA b c) 3) k).2),(4:Int)),by
   rfl,rfl,by
   show Ac b ((obN b (blC b (BA b c) 3) k).2)/\0<=(4:Int)/\(4:Int)<=1000
   exact ⟨ko,by omega,by omega⟩,?_⟩
  refine ⟨(b,((drP b (4:Int) ((obN b (blC b (BA b c) 3) k).2)).2),(16:Int)),by
   rfl,rfl,by
   show Ac b ((drP b (4:Int) ((obN b (blC b (BA b c) 3) k).2)).2)
   exact Kw ko,?_⟩
  refine ⟨(b,(blC b ((drP b (4:Int) ((obN b (blC b (BA b c) 3) k).2)).2) (16:Int)),(12:Int)),by
   rfl,rfl,by
   show Ac b (blC b ((drP b (4:Int) ((obN b (blC b (BA b c) 3) k).2)).2) (16:Int))
   exact Aw 16 (Kw ko),?_⟩
  refine ⟨((drP b (4:Int) ((obN b (blC b (BA b c) 3) k).2)).1,(IntKind.i64.wrap ((4:Int)+(blV b ((drP b (4:Int) ((obN b (blC b (BA b c) 3) k).2)).2) (16:Int)))),(IntKind.i64.wrap ((3:Int)+(blV b (blC b ((drP b (4:Int) ((obN b (blC b (BA b c) 3) k).2)).2) (16:Int)) (12:Int))))),by
   rfl,by
   show ((drP b (4:Int) ((obN b (blC b (BA b c) 3) k).2)).1).length<=1048576/\((drP b (4:Int) ((obN b (blC b (BA b c) 3) k).2)).1).all AD=true
   exact ⟨o1.2,o1.1⟩,?_⟩
  refine ao (a:=(AI (obN b (blC b (BA b c) 3) k).1).length+([[Dat.sl (AA (Co ((drP b (4:Int) ((obN b (blC b (BA b c) 3) k).2)).1) (IntKind.i64.wrap ((4:Int)+(blV b ((drP b (4:Int) ((obN b (blC b (BA b c) 3) k).2)).2) (16:Int)))) (IntKind.i64.wrap ((3:Int)+(blV b (blC b ((drP b (4:Int) ((obN b (blC b (BA b c) 3) k).2)).2) (16:Int)) (12:Int))))))]]:List (List Dat)).length<=2199023255552) (by first|omega|(simp only [AC,Aq,HD,HE,List.length_cons,List.length_nil];omega)) λ o46=>?_
  refine ⟨k+1,by
   first|omega|trivial,by
   first|omega|(simp;omega),?_⟩
  refine ⟨?_,?_,?_,rfl,rfl,rfl,rfl,rfl,rfl,rfl,rfl,rfl,rfl,rfl,?_,rfl,?_,rfl⟩
  ·exact AR (by rw [AE (by omega) (by omega)];omega)
  ·show Value.int .i64 ((blC b (blC b ((drP b (4:Int) ((obN b (blC b (BA b c) 3) k).2)).2) (16:Int)) (12:Int)).i)=Value.int .i64 (((obN b (blC b (BA b c) 3) (k+1)).2).i)
   exact rfl
  ·show Value.int .i64 ((blC b (blC b ((drP b (4:Int) ((obN b (blC b (BA b c) 3) k).2)).2) (16:Int)) (12:Int)).h)=Value.int .i64 (((obN b (blC b (BA b c) 3) (k+1)).2).h)
   exact rfl
  ·exact rfl
  show ((AI (obN b (blC b (BA b c) 3) k).1)++([[Dat.sl (AA (Co ((drP b (4:Int) ((obN b (blC b (BA b c) 3) k).2)).1) (IntKind.i64.wrap ((4:Int)+(blV b ((drP b (4:Int) ((obN b (blC b (BA b c) 3) k).2)).2) (16:Int)))) (IntKind.i64.wrap ((3:Int)+(blV b (blC b ((drP b (4:Int) ((obN b (blC b (BA b c) 3) k).2)).2) (16:Int)) (12:Int))))))]]:List (List Dat)))=(AI (obN b (blC b (BA b c) 3) (k+1)).1)
  rw [w1,w2,RE];exact MS _ _
 try simp only [nrm] at c33
 have n1:=Kx b c
 have hko:k=GX b c:=by omega
 have hO:obN b (blC b (BA b c) 3) k=F1 b c:=by rw [hko];rfl
 refine ⟨(b,((obN b (blC b (BA b c) 3) k).2),(6:Int)),by
  rfl,rfl,by
  show Ac b ((obN b (blC b (BA b c) 3) k).2)
  rw [hO];exact k5,?_⟩
 refine And.symm ⟨λ c71=>?_,λ c71=>?_⟩
 ·try simp only [nrm] at c71
  rw [hO] at c71
  have hW:=UX (b:=b) (c:=c) c71
  refine ⟨⟨(),by
   first|omega|trivial,?_⟩,?_⟩
  ·refine ⟨?_,?_,rfl,rfl,rfl,rfl,rfl,rfl,rfl,rfl,rfl,rfl,rfl,?_,rfl,?_,rfl⟩
   ·show Value.int .i64 ((blC b ((obN b (blC b (BA b c) 3) k).2) (6:Int)).i)=Value.int .i64 (((Ar b c).2).i)
    rw [hO,hW]
   ·show Value.int .i64 ((blC b ((obN b (blC b (BA b c) 3) k).2) (6:Int)).h)=Value.int .i64 (((Ar b c).2).h)
    rw [hO,hW]
   ·exact rfl
   rw [hO,hW]
  rintro _ hki156
  have hki156:True:=hki156
  refine ⟨(b,((Ar b c).2),(3:Int)),by
   rfl,rfl,by
   exact k6,?_⟩
  refine ⟨⟨0,by
   first|omega|trivial,?_⟩,?_⟩
  ·refine ⟨?_,?_,?_,rfl,rfl,rfl,rfl,rfl,rfl,rfl,rfl,rfl,rfl,rfl,?_,rfl,rfl,?_⟩
   ·show Value.int .i64 (blV b ((Ar b c).2) (3:Int))=Value.int .i64 (((DU b c:Nat):Int)-(0:Int))
    exact AR (by rw [(Fh b c).1];exact (Int.sub_zero _).symm)
   ·show Value.int .i64 ((blC b ((Ar b c).2) (3:Int)).i)=Value.int .i64 (((tbN b (blC b (Ar b c).2 3) 0).2).i)
    exact rfl
   ·show Value.int .i64 ((blC b ((Ar b c).2) (3:Int)).h)=Value.int .i64 (((tbN b (blC b (Ar b c).2 3) 0).2).h)
    exact rfl
   ·exact rfl
   exact rfl
  intro (k:Nat) hki178
  have hki178:k<=DU b c:=hki178
  have kt:=O9 k7 k
  refine And.symm ⟨λ c198=>?_,λ c198=>?_⟩
  ·try simp only [nrm] at c198
   have n2:=Fh b c
   have hkt:k=DU b c:=by omega
   have hT:tbN b (blC b (Ar b c).2 3) k=RB b c:=by rw [hkt];rfl
   refine ⟨?_,?_,?_,?_,?_,?_,?_,?_,?_⟩
   ·first|(rw [hT];done)|(rw [hT];exact rfl)|exact rfl
   ·first|(rw [hT];done)|(rw [hT];exact rfl)|exact rfl
   ·first|(rw [hT];done)|(rw [hT];exact rfl)|exact rfl
   ·first|(rw [hT];done)|(rw [hT];exact rfl)|exact rfl
   ·first|(rw [hT];done)|(rw [hT];exact rfl)|exact rfl
   ·first|(rw [hT];done)|(rw [hT];exact rfl)|exact rfl
   ·first|(rw [hT];done)|(rw [hT];exact rfl)|exact rfl
   ·first|(rw [hT];done)|(rw [hT];exact rfl)|exact rfl
   first|(rw [hT];done)|(rw [hT];exact rfl)|exact rfl
  try simp only [nrm] at c198
  have n2:=Fh b c
  have r1:=A8 b (tbN b (blC b (Ar b c).2 3) k).2 (n:=18) (by omega)
  have r2:=A8 b (blC b (tbN b (blC b (Ar b c).2 3) k).2 18) (n:=14) (by omega)
  have w3:=AE (x:=3+blV b (tbN b (blC b (Ar b c).2 3) k).2 18) (by omega) (by omega)
  have w4:=AE (x:=3+blV b (blC b (tbN b (blC b (Ar b c).2 3) k).2 18) 14) (by omega) (by omega)
  refine ⟨(b,((tbN b (blC b (Ar b c).2 3) k).2),(18:Int)),by
   rfl,rfl,by
   exact kt,?_⟩
  refine ⟨(b,(blC b ((tbN b (blC b (Ar b c).2 3) k).2) (18:Int)),(14:Int)),by
   rfl,rfl,by
   show Ac b (blC b ((tbN b (blC b (Ar b c).2 3) k).2) (18:Int))
   exact Aw 18 kt,?_⟩
  refine ao (a:=(AA (tbN b (blC b (Ar b c).2 3) k).1).length+([[Dat.int (IntKind.i64.wrap ((3:Int)+(blV b ((tbN b (blC b (Ar b c).2 3) k).2) (18:Int)))),Dat.int (IntKind.i64.wrap ((3:Int)+(blV b (blC b ((tbN b (blC b (Ar b c).2 3) k).2) (18:Int)) (14:Int))))]]:List (List Dat)).length<=2199023255552) (by first|omega|(simp only [AC,Aq,HD,HE,List.length_cons,List.length_nil];omega)) λ o205=>?_
  refine ⟨k+1,by
   first|omega|trivial,by
   first|omega|(simp;omega),?_⟩
  refine ⟨?_,?_,?_,rfl,rfl,rfl,rfl,rfl,rfl,rfl,rfl,rfl,rfl,rfl,?_,rfl,rfl,?_⟩
  ·exact AR (by rw [AE (by omega) (by omega)];omega)
  ·show Value.int .i64 ((blC b (blC b ((tbN b (blC b (Ar b c).2 3) k).2) (18:Int)) (14:Int)).i)=Value.int .i64 (((tbN b (blC b (Ar b c).2 3) (k+1)).2).i)
   exact rfl
  ·show Value.int .i64 ((blC b (blC b ((tbN b (blC b (Ar b c).2 3) k).2) (18:Int)) (14:Int)).h)=Value.int .i64 (((tbN b (blC b (Ar b c).2 3) (k+1)).2).h)
   exact rfl
  ·exact rfl
  show ((AA (tbN b (blC b (Ar b c).2 3) k).1)++([[Dat.int (IntKind.i64.wrap ((3:Int)+(blV b ((tbN b (blC b (Ar b c).2 3) k).2) (18:Int)))),Dat.int (IntKind.i64.wrap ((3:Int)+(blV b (blC b ((tbN b (blC b (Ar b c).2 3) k).2) (18:Int)) (14:Int))))]]:List (List Dat)))=(AA (tbN b (blC b (Ar b c).2 3) (k+1)).1)
  rw [w3,w4,MT];exact IC _ _ _
 try simp only [nrm] at c71
 rw [hO] at c71
 have hW:=RD (b:=b) (c:=c) c71
 have r8:=A8 b (blC b (F1 b c).2 6) (n:=8) (by omega)
 have w6:=AE (x:=6+blV b (blC b (F1 b c).2 6) 8) (by omega) (by omega)
 have w8:=AE (x:=6+blV b (blC b (F1 b c).2 6) 8+2) (by omega) (by omega)
 refine ⟨(b,(blC b ((obN b (blC b (BA b c) 3) k).2) (6:Int)),(8:Int)),by
  rfl,rfl,by
  show Ac b (blC b ((obN b (blC b (BA b c) 3) k).2) (6:Int))
  rw [hO];exact Aw 6 k5,?_⟩
 refine ao (a:=(AI (obN b (blC b (BA b c) 3) k).1).length+([[Dat.sl ([[Dat.int (IntKind.i64.wrap ((6:Int)+(blV b (blC b ((obN b (blC b (BA b c) 3) k).2) (6:Int)) (8:Int)))),Dat.int (-1:Int)],[Dat.int (IntKind.i64.wrap ((IntKind.i64.wrap ((6:Int)+(blV b (blC b ((obN b (blC b (BA b c) 3) k).2) (6:Int)) (8:Int))))+(2:Int))),Dat.int (-1:Int)],[Dat.int (IntKind.i64.wrap ((IntKind.i64.wrap ((6:Int)+(blV b (blC b ((obN b (blC b (BA b c) 3) k).2) (6:Int)) (8:Int))))+(2:Int))),Dat.int (40:Int)],[Dat.int (IntKind.i64.wrap ((6:Int)+(blV b (blC b ((obN b (blC b (BA b c) 3) k).2) (6:Int)) (8:Int)))),Dat.int (40:Int)]]:List (List Dat))]]:List (List Dat)).length<=2199023255552) (by first|omega|(simp only [AC,Aq,HD,HE,List.length_cons,List.length_nil];omega)) λ o75=>?_
 refine ⟨⟨(),by
  first|omega|trivial,?_⟩,?_⟩
 ·refine ⟨?_,?_,rfl,rfl,rfl,rfl,rfl,rfl,rfl,rfl,rfl,rfl,rfl,?_,rfl,?_,rfl⟩
  ·show Value.int .i64 ((blC b (blC b ((obN b (blC b (BA b c) 3) k).2) (6:Int)) (8:Int)).i)=Value.int .i64 (((Ar b c).2).i)
   rw [hO,hW]
  ·show Value.int .i64 ((blC b (blC b ((obN b (blC b (BA b c) 3) k).2) (6:Int)) (8:Int)).h)=Value.int .i64 (((Ar b c).2).h)
   rw [hO,hW]
  ·exact rfl
  show ((AI (obN b (blC b (BA b c) 3) k).1)++([[Dat.sl ([[Dat.int (IntKind.i64.wrap ((6:Int)+(blV b (blC b ((obN b (blC b (BA b c) 3) k).2) (6:Int)) (8:Int)))),Dat.int (-1:Int)],[Dat.int (IntKind.i64.wrap ((IntKind.i64.wrap ((6:Int)+(blV b (blC b ((obN b (blC b (BA b c) 3) k).2) (6:Int)) (8:Int))))+(2:Int))),Dat.int (-1:Int)],[Dat.int (IntKind.i64.wrap ((IntKind.i64.wrap ((6:Int)+(blV b (blC b ((obN b (blC b (BA b c) 3) k).2) (6:Int)) (8:Int))))+(2:Int))),Dat.int (40:Int)],[Dat.int (IntKind.i64.wrap ((6:Int)+(blV b (blC b ((obN b (blC b (BA b c) 3) k).2) (6:Int)) (8:Int)))),Dat.int (40:Int)]]:List (List Dat))]]:List (List Dat)))=(AI (Ar b c).1)
  rw [hO,hW,w6,w8];exact MS (F1 b c).1 (Zb (6+blV b (blC b (F1 b c).2 6) 8))
 rintro _ hki76
 have hki76:True:=hki76
 refine ⟨(b,((Ar b c).2),(3:Int)),by
  rfl,rfl,by
  exact k6,?_⟩
 refine ⟨⟨0,by
  first|omega|trivial,?_⟩,?_⟩
 ·refine ⟨?_,?_,?_,rfl,rfl,rfl,rfl,rfl,rfl,rfl,rfl,rfl,rfl,rfl,?_,rfl,rfl,?_⟩
  ·show Value.int .i64 (blV b ((Ar b c).2) (3:Int))=Value.int .i64 (((DU b c:Nat):Int)-(0:Int))
   exact AR (by rw [(Fh b c).1];exact (Int.sub_zero _).symm)
  ·show Value.int .i64 ((blC b ((Ar b c).2) (3:Int)).i)=Value.int .i64 (((tbN b (blC b (Ar b c).2 3) 0).2).i)
   exact rfl
  ·show Value.int .i64 ((blC b ((Ar b c).2) (3:Int)).h)=Value.int .i64 (((tbN b (blC b (Ar b c).2 3) 0).2).h)
   exact rfl
  ·exact rfl
  exact rfl
 intro (k:Nat) hki98
 have hki98:k<=DU b c:=hki98
 have kt:=O9 k7 k
 refine And.symm ⟨λ c118=>?_,λ c118=>?_⟩
 ·try simp only [nrm] at c118
  have n2:=Fh b c
  have hkt:k=DU b c:=by omega
  have hT:tbN b (blC b (Ar b c).2 3) k=RB b c:=by rw [hkt];rfl
  refine ⟨?_,?_,?_,?_,?_,?_,?_,?_,?_⟩
  ·first|(rw [hT];done)|(rw [hT];exact rfl)|exact rfl
  ·first|(rw [hT];done)|(rw [hT];exact rfl)|exact rfl
  ·first|(rw [hT];done)|(rw [hT];exact rfl)|exact rfl
  ·first|(rw [hT];done)|(rw [hT];exact rfl)|exact rfl
  ·first|(rw [hT];done)|(rw [hT];exact rfl)|exact rfl
  ·first|(rw [hT];done)|(rw [hT];exact rfl)|exact rfl
  ·first|(rw [hT];done)|(rw [hT];exact rfl)|exact rfl
  ·first|(rw [hT];done)|(rw [hT];exact rfl)|exact rfl
  first|(rw [hT];done)|(rw [hT];exact rfl)|exact rfl
 try simp only [nrm] at c118
 have n2:=Fh b c
 have r1:=A8 b (tbN b (blC b (Ar b c).2 3) k).2 (n:=18) (by omega)
 have r2:=A8 b (blC b (tbN b (blC b (Ar b c).2 3) k).2 18) (n:=14) (by omega)
 have w3:=AE (x:=3+blV b (tbN b (blC b (Ar b c).2 3) k).2 18) (by omega) (by omega)
 have w4:=AE (x:=3+blV b (blC b (tbN b (blC b (Ar b c).2 3) k).2 18) 14) (by omega) (by omega)
 refine ⟨(b,((tbN b (blC b (Ar b c).2 3) k).2),(18:Int)),by
  rfl,rfl,by
  exact kt,?_⟩
 refine ⟨(b,(blC b ((tbN b (blC b (Ar b c).2 3) k).2) (18:Int)),(14:Int)),by
  rfl,rfl,by
  show Ac b (blC b ((tbN b (blC b (Ar b c).2 3) k).2) (18:Int))
  exact Aw 18 kt,?_⟩
 refine ao (a:=(AA (tbN b (blC b (Ar b c).2 3) k).1).length+([[Dat.int (IntKind.i64.wrap ((3:Int)+(blV b ((tbN b (blC b (Ar b c).2 3) k).2) (18:Int)))),Dat.int (IntKind.i64.wrap ((3:Int)+(blV b (blC b ((tbN b (blC b (Ar b c).2 3) k).2) (18:Int)) (14:Int))))]]:List (List Dat)).length<=2199023255552) (by first|omega|(simp only [AC,Aq,HD,HE,List.length_cons,List.length_nil];omega)) λ o125=>?_
 refine ⟨k+1,by
  first|omega|trivial,by
  first|omega|(simp;omega),?_⟩
 refine ⟨?_,?_,?_,rfl,rfl,rfl,rfl,rfl,rfl,rfl,rfl,rfl,rfl,rfl,?_,rfl,rfl,?_⟩
 ·exact AR (by rw [AE (by omega) (by omega)];omega)
 ·show Value.int .i64 ((blC b (blC b ((tbN b (blC b (Ar b c).2 3) k).2) (18:Int)) (14:Int)).i)=Value.int .i64 (((tbN b (blC b (Ar b c).2 3) (k+1)).2).i)
  exact rfl
 ·show Value.int .i64 ((blC b (blC b ((tbN b (blC b (Ar b c).2 3) k).2) (18:Int)) (14:Int)).h)=Value.int .i64 (((tbN b (blC b (Ar b c).2 3) (k+1)).2).h)
  exact rfl
 ·exact rfl
 show ((AA (tbN b (blC b (Ar b c).2 3) k).1)++([[Dat.int (IntKind.i64.wrap ((3:Int)+(blV b ((tbN b (blC b (Ar b c).2 3) k).2) (18:Int)))),Dat.int (IntKind.i64.wrap ((3:Int)+(blV b (blC b ((tbN b (blC b (Ar b c).2 3) k).2) (18:Int)) (14:Int))))]]:List (List Dat)))=(AA (tbN b (blC b (Ar b c).2 3) (k+1)).1)
 rw [w3,w4,MT];exact IC _ _ _
def HF:Con:={ ι:=(List UInt8),pre:=λ i=>i.length<=1048576,args:=λ i=>[.one (.ro (.bytes i))],res:=λ i=>⟨false,[some 7],[rcI 0,rcI 0,rcI ((DV i (BE i)).high.1),rcI ((DV i (BE i)).high.2),.own 24 [.int,.int] (AA (DV i (BE i)).robot),.own 25 [.sl 24 [.int,.int]] (AI (DV i (BE i)).obst),.own 24 [.int,.int] (AA (DV i (BE i)).tables)]⟩ }
theorem YH:HF.Ok Tryz.prog 6:=by
 refine fok (X:=⟨tt,[(31,C4),(30,Iv)],[],6,[]⟩) mixed AN (CTok.consN Q9 (CTok.consP Ze (CTok.nil _))) Tryz.func6 (λ _=>[]) ?_
 intro (b:List UInt8) hpre
 have hpre:b.length<=1048576:=hpre
 refine AM (q:=let Z1:=DV b (BE b);∃ i1:(List UInt8),[DA.one (DC.ro (.bytes b))]=C4.args i1/\C4.pre i1/\(∃ i2:(List UInt8)×Cur,let Z2:=DV i2.1 i2.2;[]=Iv.args i2/\[PC.bt b,PC.im (vI ((BE i1).i)),PC.im (vI ((BE i1).h))]=PA i2/\Iv.pre i2/\((vI 0=vI 0)/\(vI 0=vI 0)/\(vI (Z2.high.1)=vI (Z1.high.1))/\(vI (Z2.high.2)=vI (Z1.high.2))/\(AA Z2.robot=AA Z1.robot)/\(AI Z2.obst=AI Z1.obst)/\(AA Z2.tables=AA Z1.tables)))) (by kernel_rfl) ?_
 conv=>zeta
 delta vI
 refine ⟨b,by
  rfl,by
  show b.length<=1048576
  first|exact hpre|exact Jw hpre,?_⟩
 refine ⟨(b,(BE b)),by
  rfl,rfl,by
  show Ac b (BE b)
  first|exact hpre|exact Jw hpre,?_⟩
 exact ⟨rfl,rfl,rfl,rfl,rfl,rfl,rfl⟩
end Go.Proofs.YtkffpiaagjcmpaaGreat
namespace Go.Proofs.YtkffpiaagjcmpaaGreat
set_option linter.unusedVariables false
set_option linter.unusedSimpArgs false
theorem HullOk.congr {S T:V2->Prop} {h:List V2} (H:HullOk S h) (e:∀ x,S x↔T x):HullOk T h:=by
 obtain ⟨p,q,lo,up,B,h1,h2,h3⟩:=H.band
 exact ⟨H.ring.congr e,H.three,p,q,lo,up,B.congr e,h1,h2,h3⟩
theorem MU {z:Int} (hz:z<=1000) {x:V2} (h:(-z<=x.1/\x.1<=z)/\-z<=x.2/\x.2<=z):AD x=true:=by
 simp only [AD,B0,Bool.and_eq_true,Az];omega
end Go.Proofs.YtkffpiaagjcmpaaGreat
namespace Go.Proofs.YtkffpiaagjcmpaaGreat
set_option maxRecDepth 100000
set_option linter.unusedVariables false
set_option linter.unusedSimpArgs false
open Go.RowKit
theorem Bl {l:List V2} (h:AG l=true):3<=l.length/\l.length<=16/\l.all AD=true:=by
 simp only [AG,Bool.and_eq_true,Az] at h
 exact ⟨by omega,by omega,h.1.2⟩
def Dk (a b:List V2):Nat->List V2
 | 0=>[]
 | k+1=>Dk a b k++BU b (a.getD k (0,0)).1 (a.getD k (0,0)).2
theorem EE (a b:List V2):∀ k,(Dk a b k).length=k*b.length
 | 0=>by simp [Dk]
 | k+1=>by simp only [Dk,List.length_append,EE a b k,Cp,Nat.add_mul,Nat.one_mul]
def FF (a b:List V2):List V2:=BO (Dk a b a.length)
def Iw (a b:List V2):List V2:=if AG a=true/\AG b=true/\a.length*b.length<=64/\AG (FF a b)=true then FF a b else []
theorem PB {a b:List V2} (h:AG a=false∨AG b=false∨64<a.length*b.length∨AG (FF a b)=false):Iw a b=[]:=by
 unfold Iw
 rw [if_neg]
 rintro ⟨h1,h2,h3,h4⟩
 rcases h with h|h|h|h
 ·rw [h] at h1;cases h1
 ·rw [h] at h2;cases h2
 ·omega
 ·rw [h] at h4;cases h4
theorem UZ {a b:List V2} (h1:AG a=true) (h2:AG b=true) (h3:a.length*b.length<=64) (h4:AG (FF a b)=true):Iw a b=FF a b:=by unfold Iw;rw [if_pos ⟨h1,h2,h3,h4⟩]
theorem Zf {m n:Nat} (h1:m<=16) (h2:n<=16):m*n<=256/\IntKind.i64.wrap (((m:Nat):Int)*((n:Nat):Int))=((m*n:Nat):Int):=by
 have h:m*n<=16*16:=Nat.mul_le_mul h1 h2
 refine ⟨by omega,?_⟩
 rw [← Int.natCast_mul,AE (by omega) (by omega)]
theorem Zg {k m n:Nat} (h1:k<=m) (h2:m*n<=256):k*n<=256:=Nat.le_trans (Nat.mul_le_mul_right n h1) h2
theorem Vv {k m n j:Nat} (h1:k<m) (h2:m*n<=256) (h3:j<=n):k*n+j<=256:=by
 have:=Nat.mul_le_mul_right n (show k+1<=m from h1)
 rw [Nat.add_mul,Nat.one_mul] at this
 omega
def F3 (l:List V2):List V2:=l.map λ p=>(-p.1,-p.2)
def ID (l:List V2):List V2:=if l.all AD=true then F3 l else []
theorem DQ (l:List V2):(F3 l).length=l.length:=by simp [F3]
theorem PD {l:List V2} (h:l.all AD=true):ID l=F3 l:=by unfold ID;rw [if_pos h]
theorem AAx {l:List V2} (h:l.all AD=false):ID l=[]:=by unfold ID;rw [if_neg (by rw [h];simp)]
theorem YI {l:List V2} {k:Nat} (hk:k<l.length) (hv:AD (l.getD k (0,0))=true):AA (F3 (l.take k))++[[.int (IntKind.i64.wrap (0-(l.getD k (0,0)).1)),.int (IntKind.i64.wrap (0-(l.getD k (0,0)).2))]]=AA (F3 (l.take (k+1))):=by
 have b:=BW hv
 have e:l.take (k+1)=l.take k++[l.getD k (0,0)]:=by
  rw [List.take_add_one];simp [List.getD,hk]
 rw [AE (by omega) (by omega),AE (by omega) (by omega),e]
 simp [F3,AA,Hd,Int.zero_sub]
theorem YJ (l:List V2):(ID l).length<=l.length:=by unfold ID;split;rw [DQ];exact Nat.le_refl _;simp
def Hf (r o:List V2):List V2:=Iw o (ID r)
def C5:Con:={ ι:=(List V2)×Int×Int,pre:=λ i=>i.1.length<=1048576,args:=λ i=>[.one (DC.sl 24 [.int,.int] (AA i.1)),DA.agg [cI i.2.1,cI i.2.2]],res:=λ i=>⟨false,[none],[.own 24 [.int,.int] (AA (BU i.1 i.2.1 i.2.2))]⟩ }
theorem RF:C5.Ok Tryz.prog 34:=by
 refine fok (X:=⟨tt,[],[],31,[]⟩) mixed AN (CTok.nil _) Tryz.func34 (λ (i:(List V2)×Int×Int)=>[(3,.mk 4 (Nat) (λ x1=>{ tm:=[(3,tP 1 0),(9,tX 2),(10,tI (nI ((AA i.1).length))),(11,tI (x1:Int)),(5,tX 3)],en:=[(1,.box [kI i.2.1,kI i.2.2]),(2,.view 24 [.int,.int] (AA i.1) []),(3,.own 24 [.int,.int] (AA (BU (i.1.take x1) i.2.1 i.2.2)))] }) (λ x1=>x1<=i.1.length) (λ x1=>i.1.length-x1) (λ _=>[]))]) ?_
 rintro ⟨l,dx,dy⟩ hpre
 have hpre:l.length<=1048576:=hpre
 refine AM (q:=let Z3:=nI ((AA l).length);(∃ x1:Nat,(x1<=l.length)/\((rf (vI Z3))/\(vI (0:Int)=vI (x1:Int))/\(rf (vI dx))/\(rf (vI dy))/\(rf (AA l))/\(([]:List (List Dat))=(AA (BU (l.take x1) dx dy)))))/\∀ x1:Nat,let Z2:=(AA l).getD x1 [];let Z5:=wR (((Z2.getD 1 (.int 0))).n+dy);let Z4:=wR (((Z2.getD 0 (.int 0))).n+dx);let Z1:=AA (BU (l.take x1) dx dy);(x1<=l.length)->(ifB ((decide ((x1:Int)<Z3))) ((0<=(x1:Int)/\(x1:Int)<((AA l).length:Int))/\((x1<(AA l).length)/\((Z1.length+([[Dat.int Z4,Dat.int Z5]]:List (List Dat)).length<=2199023255552)/\(∃ y2:Nat,(y2<=l.length)/\(l.length-y2<l.length-x1)/\((rf (vI Z3))/\(vI (wR ((x1:Int)+(1:Int)))=vI (y2:Int))/\(rf (vI dx))/\(rf (vI dy))/\(rf (AA l))/\((Z1++([[Dat.int Z4,Dat.int Z5]]:List (List Dat)))=(AA (BU (l.take y2) dx dy)))))))) ((Z1=AA (BU l dx dy))))) (by kernel_rfl) ?_
 conv=>zeta
 delta ifB vI wR nI
 have hvl:=AC l
 refine ⟨⟨0,by
  omega,?_⟩,?_⟩
 ·refine ⟨rfl,rfl,rfl,rfl,rfl,?_⟩
  rfl
 intro (k:Nat) hki1
 have hki1:k<=l.length:=hki1
 have hml:(AA (BU (l.take k) dx dy)).length=k:=by rw [AC,Cp,List.length_take];omega
 refine And.symm ⟨λ c9=>?_,λ c9=>?_⟩
 ·try simp only [nrm] at c9
  rw [show k=l.length by omega,List.take_length]
 try simp only [nrm] at c9
 refine ao (by omega) λ o10=>?_
 refine ao (by omega) λ o11=>?_
 refine ao (by simp only [AC,Cp,DQ,EE,List.length_append,List.length_take,List.length_cons,List.length_nil];omega) λ o12=>?_
 refine ⟨k+1,by
  omega,by
  omega,?_⟩
 refine ⟨rfl,?_,rfl,rfl,rfl,?_⟩
 ·exact AR (AE (by omega) (by omega))
 exact Jm (by omega)
def Ix:Con:={ ι:=(List V2)×(List V2),pre:=λ i=>i.1.length<=1048576/\i.2.length<=1048576,args:=λ i=>[.one (DC.sl 24 [.int,.int] (AA i.1)),.one (DC.sl 24 [.int,.int] (AA i.2))],res:=λ i=>⟨false,[none],[.own 24 [.int,.int] (AA (Iw i.1 i.2))]⟩ }
theorem Zh:Ix.Ok Tryz.prog 104:=by
 refine fok (X:=⟨tt,[(10,Al),(34,C5),(147,G8)],[],44,[]⟩) mixed AN (CTok.cons H8 (CTok.cons RF (CTok.cons YB (CTok.nil _)))) Tryz.func104 (λ (i:(List V2)×(List V2))=>[(5,.mk 4 (Nat) (λ x1=>{ tm:=[(1,tX 1),(26,tX 2),(27,tI (nI ((AA i.1).length))),(28,tI (nI x1)),(5,tX 3)],en:=[(1,.view 24 [.int,.int] (AA i.2) []),(2,.view 24 [.int,.int] (AA i.1) []),(3,.own 24 [.int,.int] (AA (Dk i.1 i.2 x1)))] }) (λ x1=>x1<=i.1.length) (λ x1=>i.1.length-x1) (λ _=>[]))]) ?_
 rintro ⟨a,b⟩ hpre
 have hpre:a.length<=1048576/\b.length<=1048576:=hpre
 refine AM (q:=let Z4:=DC.sl 24 [.int,.int] (AA b);let Z2:=nI ((AA a).length);let Z1:=(([]:List (List Dat))=AA (Iw a b));∃ i1:(List V2),[DA.one (DC.sl 24 [.int,.int] (AA a))]=Al.args i1/\Al.pre i1/\(ifB ((!(!(AG i1)))) (∃ i2:(List V2),[DA.one Z4]=Al.args i2/\Al.pre i2/\(ifB ((!(!(AG i2)))) (ifB ((decide ((wR (Z2*(nI ((AA b).length))))>(64:Int)))) Z1 ((∃ x1:Nat,(x1<=a.length)/\((rf (vI Z2))/\(vI (0:Int)=vI (nI x1))/\(rf (AA b))/\(rf (AA a))/\(([]:List (List Dat))=(AA (Dk a b x1)))))/\∀ x1:Nat,let Z3:=AA (Dk a b x1);(x1<=a.length)->(ifB ((decide ((nI x1)<Z2))) ((0<=(nI x1)/\(nI x1)<((AA a).length:Int))/\((x1<(AA a).length)/\(∃ i3:(List V2)×Int×Int,let Z5:=BU i3.1 i3.2.1 i3.2.2;[DA.one Z4,DA.agg [cI (((((AA a).getD x1 []).getD 0 (.int 0))).n),cI (((((AA a).getD x1 []).getD 1 (.int 0))).n)]]=C5.args i3/\C5.pre i3/\((Z3.length+(AA Z5).length<=2199023255552)/\(∃ y2:Nat,(y2<=a.length)/\(a.length-y2<a.length-x1)/\((rf (vI Z2))/\(vI (wR ((nI x1)+(1:Int)))=vI (nI y2))/\(rf (AA b))/\(rf (AA a))/\((Z3++AA Z5)=(AA (Dk a b y2))))))))) (∃ i4:(List V2),[DA.one (DC.sl 24 [.int,.int] Z3)]=G8.args i4/\G8.pre i4/\(∃ i5:(List V2),[DA.one (DC.sl 24 [.int,.int] (AA (BO i4)))]=Al.args i5/\Al.pre i5/\(ifB ((!(AG i5))) Z1 ((AA (BO i4)=AA (Iw a b))))))))) Z1)) Z1)) (by kernel_rfl) ?_
 conv=>zeta
 delta ifB vI wR nI
 have ha:=AC a
 have hb:=AC b
 refine ⟨a,by
  rfl,by
  trivial,?_⟩
 refine And.symm ⟨λ c4=>?_,λ c4=>?_⟩
 ·try simp only [nrm] at c4
  have hE:Iw a b=[]:=PB (b:=b) (.inl c4)
  rw [hE];rfl
 try simp only [nrm] at c4
 refine ⟨b,by
  rfl,by
  trivial,?_⟩
 refine And.symm ⟨λ c8=>?_,λ c8=>?_⟩
 ·try simp only [nrm] at c8
  have hE:Iw a b=[]:=PB (.inr (.inl c8))
  rw [hE];rfl
 try simp only [nrm] at c8
 have pa:=Bl c4
 have pb:=Bl c8
 have hm:=Zf pa.2.1 pb.2.1
 refine ⟨λ c9=>?_,λ c9=>?_⟩
 ·try simp only [nrm] at c9
  rw [ha,hb,hm.2] at c9
  have hE:Iw a b=[]:=PB (.inr (.inr (.inl (by omega))))
  rw [hE];rfl
 try simp only [nrm] at c9
 rw [ha,hb,hm.2] at c9
 have h64:a.length*b.length<=64:=by omega
 refine ⟨⟨0,by
  omega,?_⟩,?_⟩
 ·refine ⟨rfl,?_,rfl,rfl,?_⟩
  ·rfl
  rfl
 intro (k:Nat) hki11
 have hki11:k<=a.length:=hki11
 refine ⟨λ c18=>?_,λ c18=>?_⟩
 ·try simp only [nrm] at c18
  have hka:k<a.length:=by omega
  have hsl:=EE a b k
  have hks:=Vv hka hm.1 (Nat.le_refl _)
  refine ao (by omega) λ o19=>?_
  refine ao (by omega) λ o20=>?_
  refine ⟨(b,(a.getD k (0,0)).1,(a.getD k (0,0)).2),by
   rw [Ai hka,Aj hka];rfl,by
   exact hpre.2,?_⟩
  refine ao (a:=(AA (Dk a b k)).length+(AA (BU b ((a.getD k (0,0)).1) ((a.getD k (0,0)).2))).length<=2199023255552) (by simp only [AC,Cp,DQ,EE,List.length_append,List.length_take,List.length_cons,List.length_nil];omega) λ o24=>?_
  refine ⟨k+1,by
   trivial,by
   omega,?_⟩
  refine ⟨rfl,?_,rfl,rfl,?_⟩
  ·exact AR (AE (by omega) (by omega))
  rw [← Ge];rfl
 try simp only [nrm] at c18
 have hk:a.length=k:=by omega
 have hS:BO (Dk a b k)=FF a b:=by unfold FF;rw [hk]
 refine ⟨(Dk a b k),by
  rfl,by
  show (Dk a b k).length<=1048576
  rw [EE];have:=Zg (show k<=a.length by omega) hm.1;omega,?_⟩
 refine ⟨(BO (Dk a b k)),by
  rfl,by
  trivial,?_⟩
 refine ⟨λ c39=>?_,λ c39=>?_⟩
 ·try simp only [nrm] at c39
  rw [hS] at c39
  have hE:Iw a b=[]:=PB (.inr (.inr (.inr c39)))
  rw [hE];rfl
 try simp only [nrm] at c39
 rw [hS] at c39
 have hE:=UZ c4 c8 h64 c39
 rw [hS,hE]
def Iy:Con:={ ι:=(List V2),pre:=λ i=>i.length<=1048576,args:=λ i=>[.one (DC.sl 24 [.int,.int] (AA i))],res:=λ i=>⟨false,[none],[.own 24 [.int,.int] (AA (ID i))]⟩ }
theorem Zi:Iy.Ok Tryz.prog 105:=by
 refine fok (X:=⟨tt,[(36,A2)],[],28,[]⟩) mixed AN (CTok.cons Fe (CTok.nil _)) Tryz.func105 (λ (i:(List V2))=>[(5,.mk 3 (Nat) (λ x1=>{ tm:=[(10,tX 1),(11,tI (nI ((AA i).length))),(12,tI (nI x1)),(3,tX 2)],en:=[(1,.view 24 [.int,.int] (AA i) []),(2,.own 24 [.int,.int] (AA (F3 (i.take x1))))] }) (λ x1=>x1<=i.length) (λ x1=>i.length-x1) (λ _=>[]))]) ?_
 intro (l:List V2) hpre
 have hpre:l.length<=1048576:=hpre
 refine AM (q:=let Z3:=nI ((AA l).length);∃ i1:(List V2),[DA.one (DC.sl 24 [.int,.int] (AA l))]=A2.args i1/\A2.pre i1/\(ifB ((!(i1.all AD))) ((([]:List (List Dat))=AA (ID l))) ((∃ x1:Nat,(x1<=l.length)/\((rf (vI Z3))/\(vI (0:Int)=vI (nI x1))/\(rf (AA l))/\(([]:List (List Dat))=(AA (F3 (l.take x1))))))/\∀ x1:Nat,let Z2:=AA (F3 (l.take x1));let Z1:=(AA l).getD x1 [];let Z5:=wR (0-((Z1.getD 1 (.int 0))).n);let Z4:=wR (0-((Z1.getD 0 (.int 0))).n);(x1<=l.length)->(ifB ((decide ((nI x1)<Z3))) ((0<=(nI x1)/\(nI x1)<((AA l).length:Int))/\((x1<(AA l).length)/\((Z2.length+([[Dat.int Z4,Dat.int Z5]]:List (List Dat)).length<=2199023255552)/\(∃ y2:Nat,(y2<=l.length)/\(l.length-y2<l.length-x1)/\((rf (vI Z3))/\(vI (wR ((nI x1)+(1:Int)))=vI (nI y2))/\(rf (AA l))/\((Z2++([[Dat.int Z4,Dat.int Z5]]:List (List Dat)))=(AA (F3 (l.take y2))))))))) ((Z2=AA (ID l))))))) (by kernel_rfl) ?_
 conv=>zeta
 delta ifB vI wR nI
 have hvl:=AC l
 refine ⟨l,by
  rfl,by
  trivial,?_⟩
 refine ⟨λ c4=>?_,λ c4=>?_⟩
 ·try simp only [nrm] at c4
  have hE:=AAx c4
  rw [hE];rfl
 try simp only [nrm] at c4
 have hE:=PD c4
 refine ⟨⟨0,by
  omega,?_⟩,?_⟩
 ·refine ⟨rfl,?_,rfl,?_⟩
  ·rfl
  rfl
 intro (k:Nat) hki6
 have hki6:k<=l.length:=hki6
 refine And.symm ⟨λ c12=>?_,λ c12=>?_⟩
 ·try simp only [nrm] at c12
  rw [hE,show k=l.length by omega,List.take_length]
 try simp only [nrm] at c12
 have hkl:k<l.length:=by omega
 have hV:=Ak c4 hkl
 refine ao (by omega) λ o13=>?_
 refine ao (by omega) λ o14=>?_
 refine ao (by simp only [AC,Cp,DQ,EE,List.length_append,List.length_take,List.length_cons,List.length_nil];omega) λ o15=>?_
 refine ⟨k+1,by
  trivial,by
  omega,?_⟩
 refine ⟨rfl,?_,rfl,?_⟩
 ·exact AR (AE (by omega) (by omega))
 rw [Ai hkl,Aj hkl];exact YI hkl hV
def Iz:Con:={ ι:=(List V2)×(List V2),pre:=λ i=>i.1.length<=1048576/\i.2.length<=1048576,args:=λ i=>[.one (DC.sl 24 [.int,.int] (AA i.1)),.one (DC.sl 24 [.int,.int] (AA i.2))],res:=λ i=>⟨false,[none],[.own 24 [.int,.int] (AA (Hf i.1 i.2))]⟩ }
theorem Zj:Iz.Ok Tryz.prog 56:=by
 refine fok (X:=⟨tt,[(105,Iy),(104,Ix)],[],9,[]⟩) mixed AN (CTok.cons Zi (CTok.cons Zh (CTok.nil _))) Tryz.func56 (λ _=>[]) ?_
 rintro ⟨a,b⟩ hpre
 have hpre:a.length<=1048576/\b.length<=1048576:=hpre
 refine AM (q:=∃ i1:(List V2),[DA.one (DC.sl 24 [.int,.int] (AA a))]=Iy.args i1/\Iy.pre i1/\(∃ i2:(List V2)×(List V2),[DA.one (DC.sl 24 [.int,.int] (AA b)),DA.one (DC.sl 24 [.int,.int] (AA (ID i1)))]=Ix.args i2/\Ix.pre i2/\((AA (Iw i2.1 i2.2)=AA (Hf a b))))) (by kernel_rfl) ?_
 have hn:=YJ a
 refine ⟨a,by
  rfl,by
  exact hpre.1,?_⟩
 refine ⟨(b,(ID a)),by
  rfl,by
  show b.length<=1048576/\(ID a).length<=1048576
  exact ⟨hpre.2,by omega⟩,?_⟩
 rfl
end Go.Proofs.YtkffpiaagjcmpaaGreat
