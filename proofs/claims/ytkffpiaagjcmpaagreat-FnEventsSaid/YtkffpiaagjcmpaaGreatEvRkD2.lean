import Derived.Test.YtkffpiaagjcmpaaGreatEvRkD1
import Derived.Test.YtkffpiaagjcmpaaGreatEvRkG
namespace Go.Proofs.YtkffpiaagjcmpaaGreat
set_option linter.unusedVariables false
set_option linter.unusedSimpArgs false
open Go.RowKit
def Cc:Con:={ ι:=(List V2)×Int×Int,pre:=λ i=>i.1.length<=1048576/\i.1.all AE=true,args:=λ i=>[.one (DC.sl 24 [.int,.int] (AA i.1)),DA.agg [cI i.2.1,cI i.2.2]],res:=λ i=>⟨false,[none],[.own 24 [.int,.int] (AA (DH i.1 i.2.1 i.2.2))]⟩ }
set_option maxRecDepth 100000 in
theorem LD:Cc.Ok Tryz.prog 71:=by
 refine fok (X:=⟨tt,[(126,Be)],[],52,[]⟩) mixed AQ (CTok.cons OS (CTok.nil _)) Tryz.func71 (λ (i:(List V2)×Int×Int)=>[(5,.mk 4 (Nat) (λ x1=>{ tm:=[(3,tP 1 0),(12,tX 2),(13,tI (nI ((AA i.1).length))),(14,tI (x1:Int)),(5,tX 3)],en:=[(1,.box [kI i.2.1,kI i.2.2]),(2,.view 24 [.int,.int] (AA i.1) []),(3,.own 24 [.int,.int] (AA (CK (i.1.take x1) i.2.1 i.2.2)))] }) (λ x1=>x1<=i.1.length/\(CK (i.1.take x1) i.2.1 i.2.2).all AE=true) (λ x1=>i.1.length-x1) (λ _=>[]))]) ?_
 rintro ⟨l,dx,dy⟩ hpre
 have hpre:l.length<=1048576/\l.all AE=true:=hpre
 refine AP (q:=let Z6:=nI ((AA l).length);let Z2:=(([]:List (List Dat))=AA (DH l dx dy));∃ i1:Int×Int,[DA.agg [cI dx,cI dy]]=Be.args i1/\Be.pre i1/\(ifB ((!(AE (i1.1,i1.2)))) Z2 ((∃ x1:Nat,let Z7:=CK (l.take x1) dx dy;(x1<=l.length/\Z7.all AE=true)/\((rf (vI Z6))/\(vI (0:Int)=vI (x1:Int))/\(rf (vI dx))/\(rf (vI dy))/\(rf (AA l))/\(([]:List (List Dat))=(AA Z7))))/\∀ x1:Nat,let Z3:=CK (l.take x1) dx dy;let Z1:=(AA l).getD x1 [];let Z5:=wR (((Z1.getD 1 (.int 0))).n+dy);let Z4:=wR (((Z1.getD 0 (.int 0))).n+dx);(x1<=l.length/\Z3.all AE=true)->(ifB ((decide ((x1:Int)<Z6))) ((0<=(x1:Int)/\(x1:Int)<((AA l).length:Int))/\((x1<(AA l).length)/\(∃ i2:Int×Int,[DA.agg [cI (((Z1.getD 0 (.int 0))).n),cI (((Z1.getD 1 (.int 0))).n)]]=Be.args i2/\Be.pre i2/\(ifB ((!(!(AE (i2.1,i2.2))))) (∃ i3:Int×Int,[DA.agg [cI Z4,cI Z5]]=Be.args i3/\Be.pre i3/\(ifB ((!(AE (i3.1,i3.2)))) Z2 (((AA Z3).length+([[Dat.int Z4,Dat.int Z5]]:List (List Dat)).length<=2199023255552)/\(∃ y2:Nat,let Z8:=CK (l.take y2) dx dy;(y2<=l.length/\Z8.all AE=true)/\(l.length-y2<l.length-x1)/\((rf (vI Z6))/\(vI (wR ((x1:Int)+(1:Int)))=vI (y2:Int))/\(rf (vI dx))/\(rf (vI dy))/\(rf (AA l))/\(((AA Z3)++([[Dat.int Z4,Dat.int Z5]]:List (List Dat)))=(AA Z8))))))) Z2)))) (((AA Z3)=AA (DH l dx dy))))))) (by kernel_rfl) ?_
 conv=>zeta
 delta ifB vI wR nI
 have hvl:=AB l
 refine ⟨(dx,dy),by
  rfl,by
  first|trivial|(first|omega|assumption|exact hpre.1|exact hpre.2|(simp;done)),?_⟩
 refine ⟨λ c4=>?_,λ c4=>?_⟩
 ·try simp only [nrm] at c4
  first|(rw [EL (.inl c4)];rfl)|(rw [EL (.inr (MY (k:=k) (by omega) c24))];rfl)|rw [hkl,List.take_length,F5 c4 hki6.2]
 try simp only [nrm] at c4
 refine ⟨⟨0,by
  first|exact ⟨Nat.zero_le _,rfl⟩|exact ⟨by omega,by rw [J7 (by omega),List.all_append,hki6.2];simp only [Bool.true_and,List.all_cons,List.all_nil,Bool.and_true];exact c24⟩|omega,?_⟩,?_⟩
 ·refine ⟨rfl,rfl,rfl,rfl,rfl,?_⟩
  first|rfl|(rw [AB])
 intro (k:Nat) hki6
 have hki6:k<=l.length/\(CK (l.take k) dx dy).all AE=true:=hki6
 have hml:(AA (CK (l.take k) dx dy)).length=k:=by rw [AB,DI,List.length_take];omega
 refine And.symm ⟨λ c14=>?_,λ c14=>?_⟩
 ·try simp only [nrm] at c14
  have hkl:k=l.length:=by omega
  rw [hkl,List.take_length] at hki6
  first|(rw [EL (.inl c4)];rfl)|(rw [EL (.inr (MY (k:=k) (by omega) c24))];rfl)|rw [hkl,List.take_length,F5 c4 hki6.2]
 try simp only [nrm] at c14
 refine ao (by first|rfl|omega|(rw [AB];omega)|(rw [AB];exact_mod_cast (by omega))|(simp [AB,DI];omega)) λ o15=>?_
 refine ao (by first|rfl|omega|(rw [AB];omega)|(rw [AB];exact_mod_cast (by omega))|(simp [AB,DI];omega)) λ o16=>?_
 refine ⟨(((((AA l).getD k []).getD 0 (.int 0))).n,((((AA l).getD k []).getD 1 (.int 0))).n),by
  rfl,by
  first|trivial|(first|omega|assumption|exact hpre.1|exact hpre.2|(simp;done)),?_⟩
 refine And.symm ⟨λ c20=>?_,λ c20=>?_⟩
 ·try simp only [nrm] at c20
  rw [Aj (by omega),Aw (by omega)] at c20
  have q:=A7 hpre.2 (show k<l.length by omega)
  have q:AE ((l.getD k (0,0)).1,(l.getD k (0,0)).2)=true:=q
  rw [q] at c20
  exact absurd c20 (by simp) -- done
 try simp only [nrm] at c20
 refine ⟨((IntKind.i64.wrap (((((AA l).getD k []).getD 0 (.int 0))).n+dx)),(IntKind.i64.wrap (((((AA l).getD k []).getD 1 (.int 0))).n+dy))),by
  rfl,by
  first|trivial|(first|omega|assumption|exact hpre.1|exact hpre.2|(simp;done)),?_⟩
 refine ⟨λ c24=>?_,λ c24=>?_⟩
 ·try simp only [nrm] at c24
  rw [Aj (by omega),Aw (by omega)] at c24
  first|(rw [EL (.inl c4)];rfl)|(rw [EL (.inr (MY (k:=k) (by omega) c24))];rfl)|rw [hkl,List.take_length,F5 c4 hki6.2]
 try simp only [nrm] at c24
 rw [Aj (by omega),Aw (by omega)] at c24
 refine ao (by first|rfl|omega|(rw [AB];omega)|(rw [AB];exact_mod_cast (by omega))|(simp [AB,DI];omega)) λ o26=>?_
 refine ⟨k+1,by
  first|exact ⟨Nat.zero_le _,rfl⟩|exact ⟨by omega,by rw [J7 (by omega),List.all_append,hki6.2];simp only [Bool.true_and,List.all_cons,List.all_nil,Bool.and_true];exact c24⟩|omega,by
  first|omega|(simp;omega),?_⟩
 refine ⟨rfl,?_,rfl,rfl,rfl,?_⟩
 ·first|rfl|exact AS (AC (by omega) (by omega))|exact J8 (by omega)
 first|rfl|exact AS (AC (by omega) (by omega))|exact J8 (by omega)
end Go.Proofs.YtkffpiaagjcmpaaGreat
namespace Go.Proofs.YtkffpiaagjcmpaaGreat
set_option maxRecDepth 100000
set_option linter.unusedVariables false
set_option linter.unusedSimpArgs false
open Go.RowKit
def ACR (b:List UInt8) (k:Nat) (h:Int):Int:=NM .i64 (IntKind.i64.wrap (IntKind.i64.wrap (IntKind.i64.wrap (h*61)+IntKind.i64.wrap (((b.getD k 0).toNat:Nat):Int))+7)) 1073741823
def Ei (b:List UInt8):Nat->Int
 | 0=>1952+(b.length:Int)
 | k+1=>ACR b k (Ei b k)
def BI (b:List UInt8):Cur:=⟨0,Ei b (min b.length 4000)⟩
def BP (b:List UInt8):Nat->Cur
 | 0=>BI b
 | k+1=>byC b (BP b k)
theorem KL {b:List UInt8} (h:b.length<=1048576):Am b (BI b):=⟨h,Int.le_refl _,by show (0:Int)<=_;omega⟩
theorem DM {b:List UInt8} (h:b.length<=1048576):∀ k,Am b (BP b k)
 | 0=>KL h
 | k+1=>GB (DM h k)
def Rk:(List UInt8)->List PC:=λ i=>[.bt i,.im (.int .i64 ((BI i).i)),.im (.int .i64 ((BI i).h))]
def Df:Con:={ ι:=(List UInt8),pre:=λ i=>i.length<=1048576,args:=λ i=>[.one (.ro (.bytes i))],newp:=some Rk,res:=λ i=>⟨false,[],[]⟩ }
theorem Rl:Df.OkN Tryz.prog 31 Rk:=by
 refine ACN (X:=⟨tt,[],[4000001],32,[]⟩) mixed AQ (CTok.nil _) Tryz.func31 (λ (i:(List UInt8))=>[(3,.mk 2 (Nat) (λ x1=>{ tm:=[(0,tX 1),(3,tI (Ei i x1)),(4,tI (x1:Int))],en:=[(1,.ro (.bytes i) [])] }) (λ x1=>x1<=i.length/\x1<=4000) (λ x1=>4000-x1) (λ _=>[]))]) ?_
 intro (b:List UInt8) hpre
 have hpre:b.length<=1048576:=hpre
 refine AP (q:=let Z2:=(.bytes b:RO)=.bytes b;(∃ x1:Nat,(x1<=b.length/\x1<=4000)/\((vI (wR ((1952:Int)+(nI b.length)))=vI (Ei b x1))/\(vI (0:Int)=vI (x1:Int))/\Z2))/\∀ x1:Nat,let Z1:=(vI (0:Int)=vI ((BI b).i))/\(vI (Ei b x1)=vI ((BI b).h));(x1<=b.length/\x1<=4000)->(ifB ((decide ((x1:Int)<(nI b.length)))) (ifB ((decide ((x1:Int)<(4000:Int)))) ((0<=(x1:Int)/\(x1:Int)<(b.length:Int))/\((x1<b.length)/\(∃ y2:Nat,(y2<=b.length/\y2<=4000)/\(4000-y2<4000-x1)/\((vI (NM .i64 (wR ((wR ((wR ((Ei b x1)*(61:Int)))+(wR (nI ((b.getD x1 0).toNat)))))+(7:Int))) (1073741823:Int))=vI (Ei b y2))/\(vI (wR ((x1:Int)+(1:Int)))=vI (y2:Int))/\Z2)))) Z1) Z1)) (by kernel_rfl) ?_
 conv=>zeta
 delta ifB vI wR nI
 refine ⟨⟨0,by
  first|omega|trivial,?_⟩,?_⟩
 ·refine ⟨?_,rfl,?_⟩
  ·exact AS (AC (by omega) (by omega))
  first|rfl|exact AS (AC (by omega) (by omega))
 intro (k:Nat) hki1
 have hki1:k<=b.length/\k<=4000:=hki1
 refine And.symm ⟨λ c6=>?_,λ c6=>?_⟩
 ·try simp only [nrm] at c6
  refine ⟨?_,?_⟩
  ·first|rfl|exact AS (by show Ei b k=Ei b (min b.length 4000);rw [show min b.length 4000=k by omega])
  first|rfl|exact AS (by show Ei b k=Ei b (min b.length 4000);rw [show min b.length 4000=k by omega])
 try simp only [nrm] at c6
 refine And.symm ⟨λ c7=>?_,λ c7=>?_⟩
 ·try simp only [nrm] at c7
  refine ⟨?_,?_⟩
  ·first|rfl|exact AS (by show Ei b k=Ei b (min b.length 4000);rw [show min b.length 4000=k by omega])
  first|rfl|exact AS (by show Ei b k=Ei b (min b.length 4000);rw [show min b.length 4000=k by omega])
 try simp only [nrm] at c7
 refine ao (by first|rfl|omega|(simp;done)|(simp;omega)) λ o8=>?_
 refine ao (by first|rfl|omega|(simp;done)|(simp;omega)) λ o9=>?_
 refine ⟨k+1,by
  first|omega|trivial,by
  first|omega|(simp;omega),?_⟩
 refine ⟨?_,?_,?_⟩
 ·first|rfl|exact AS (AC (by omega) (by omega))
 ·first|rfl|exact AS (AC (by omega) (by omega))
 first|rfl|exact AS (AC (by omega) (by omega))
def Rm:(List UInt8)×Nat->List PC:=λ i=>[.bt i.1,.im (.int .i64 ((BP i.1 i.2).i)),.im (.int .i64 ((BP i.1 i.2).h))]
def Hr:Con:={ ι:=(List UInt8)×Nat,pre:=λ i=>i.1.length<=1048576/\i.2<=1000,args:=λ i=>[.one (.ro (.bytes i.1)),.one (cI (i.2:Int))],newp:=some Rm,res:=λ i=>⟨false,[],[]⟩ }
theorem Yh:Hr.OkN Tryz.prog 32 Rm:=by
 refine ACN (X:=⟨tt,[(31,Df),(33,A9)],[4000001],17,[]⟩) mixed AQ (CTok.consN Rl (CTok.consP Pa (CTok.nil _))) Tryz.func32 (λ (i:(List UInt8)×Nat)=>[(3,.mk 3 (Nat) (λ x1=>{ tm:=[(0,tX 1),(1,tI (i.2:Int)),(5,tP 2 0),(6,tI (x1:Int))],en:=[(2,.box [.ext 1,kI ((BP i.1 x1).i),kI ((BP i.1 x1).h)]),(1,.ro (.bytes i.1) [])] }) (λ x1=>x1<=i.2) (λ x1=>i.2-x1) (λ _=>[]))]) ?_
 rintro ⟨b,n⟩ hpre
 have hpre:b.length<=1048576/\n<=1000:=hpre
 refine AP (q:=let Z2:=(.bytes b:RO)=.bytes b;∃ i1:(List UInt8),[DA.one (DC.ro (.bytes b))]=Df.args i1/\Df.pre i1/\((∃ x1:Nat,(x1<=n)/\((rf (vI (n:Int)))/\(vI (0:Int)=vI (x1:Int))/\(vI ((BI i1).i)=vI ((BP b x1).i))/\(vI ((BI i1).h)=vI ((BP b x1).h))/\Z2))/\∀ x1:Nat,let Z1:=BP b x1;(x1<=n)->(ifB ((decide ((x1:Int)<(n:Int)))) (∃ i2:(List UInt8)×Cur,[]=A9.args i2/\[PC.bt b,PC.im (vI (Z1.i)),PC.im (vI (Z1.h))]=Dn i2/\A9.pre i2/\(∃ y2:Nat,(y2<=n)/\(n-y2<n-x1)/\((rf (vI (n:Int)))/\(vI (wR ((x1:Int)+(1:Int)))=vI (y2:Int))/\(vI ((byC i2.1 i2.2).i)=vI ((BP b y2).i))/\(vI ((byC i2.1 i2.2).h)=vI ((BP b y2).h))/\Z2))) ((vI (Z1.i)=vI ((BP b n).i))/\(vI (Z1.h)=vI ((BP b n).h)))))) (by kernel_rfl) ?_
 conv=>zeta
 delta ifB vI wR
 refine ⟨b,by
  rfl,by
  show b.length<=1048576
  first|exact hpre.1|exact DM hpre.1 k,?_⟩
 refine ⟨⟨0,by
  first|omega|trivial,?_⟩,?_⟩
 ·refine ⟨rfl,rfl,?_,?_,?_⟩
  ·first|rfl|exact AS (AC (by omega) (by omega))
  ·first|rfl|exact AS (AC (by omega) (by omega))
  first|rfl|exact AS (AC (by omega) (by omega))
 intro (k:Nat) hki4
 have hki4:k<=n:=hki4
 refine And.symm ⟨λ c11=>?_,λ c11=>?_⟩
 ·try simp only [nrm] at c11
  refine ⟨?_,?_⟩
  ·first|rfl|(rw [show n=k by omega])
  first|rfl|(rw [show n=k by omega])
 try simp only [nrm] at c11
 refine ⟨(b,(BP b k)),by
  rfl,rfl,by
  show Am b (BP b k)
  first|exact hpre.1|exact DM hpre.1 k,?_⟩
 refine ⟨k+1,by
  first|omega|trivial,by
  first|omega|(simp;omega),?_⟩
 refine ⟨rfl,?_,?_,?_,?_⟩
 ·first|rfl|exact AS (AC (by omega) (by omega))
 ·show Value.int .i64 ((byC b (BP b k)).i)=Value.int .i64 ((BP b (k+1)).i)
  first|rfl|exact AS (AC (by omega) (by omega))
 ·show Value.int .i64 ((byC b (BP b k)).h)=Value.int .i64 ((BP b (k+1)).h)
  first|rfl|exact AS (AC (by omega) (by omega))
 first|rfl|exact AS (AC (by omega) (by omega))
def Pg:(List UInt8)×Cur×Int->List PC:=λ i=>[.bt i.1,.im (.int .i64 i.2.1.i),.im (.int .i64 i.2.1.h)]
def Uo:(List UInt8)×Cur×Int->List PC:=λ i=>[.bt i.1,.im (.int .i64 ((blC i.1 i.2.1 i.2.2).i)),.im (.int .i64 ((blC i.1 i.2.1 i.2.2).h))]
def JK:Con:={ ι:=(List UInt8)×Cur×Int,pre:=λ i=>Am i.1 i.2.1,args:=λ i=>[.one (cI i.2.2)],ptr:=some (Pg,Uo),res:=λ i=>⟨false,[none],[rcB (decide (blV i.1 i.2.1 i.2.2=0))]⟩ }
theorem AAN:JK.OkP Tryz.prog 72 Pg Uo:=by
 refine YN (X:=⟨tt,[(69,AT)],[4000000],9,[]⟩) mixed AQ (CTok.consP Mr (CTok.nil _)) Tryz.func72 (λ _=>[]) ?_
 rintro ⟨b,c,n⟩ hpre
 have hpre:Am b c:=hpre
 refine AP (q:=∃ i1:(List UInt8)×Cur×Int,let Z1:=blC i1.1 i1.2.1 i1.2.2;[DA.one (cI n)]=AT.args i1/\[PC.bt b,PC.im (vI c.i),PC.im (vI c.h)]=BN i1/\AT.pre i1/\((vB ((blV i1.1 i1.2.1 i1.2.2) == (0:Int))=vB (decide (blV b c n=0)))/\(vI (Z1.i)=vI ((blC b c n).i))/\(vI (Z1.h)=vI ((blC b c n).h)))) (by kernel_rfl) ?_
 conv=>zeta
 delta vB vI
 refine ⟨(b,c,n),by
  rfl,rfl,by
  exact hpre,?_⟩
 refine ⟨?_,rfl,rfl⟩
 show Value.bool ((blV b c n) == (0:Int))=Value.bool (decide (blV b c n=0))
 first|rfl|simp_all
def Ph (b:List UInt8) (n:Nat):Int:=byV b (BP b n)*256+byV b (BP b (n+1))
theorem Yi (b:List UInt8) (n:Nat):0<=Ph b n/\Ph b n<=65535:=by
 have:=Co b (BP b n)
 have:=Co b (BP b (n+1))
 unfold Ph;omega
def Hs:Con:={ ι:=(List UInt8)×Nat,pre:=λ i=>i.1.length<=1048576/\i.2<=100,args:=λ i=>[.one (.ro (.bytes i.1)),.one (cI (i.2:Int))],res:=λ i=>⟨false,[none],[rcI (Ph i.1 i.2)]⟩ }
theorem Yj:Hs.Ok Tryz.prog 7:=by
 refine fok (X:=⟨tt,[(32,Hr),(33,A9)],[],15,[]⟩) mixed AQ (CTok.consN Yh (CTok.consP Pa (CTok.nil _))) Tryz.func7 (λ _=>[]) ?_
 rintro ⟨b,n⟩ hpre
 have hpre:b.length<=1048576/\n<=100:=hpre
 refine AP (q:=∃ i1:(List UInt8)×Nat,[DA.one (DC.ro (.bytes b)),DA.one (cI (n:Int))]=Hr.args i1/\Hr.pre i1/\(∃ i2:(List UInt8)×Cur,[]=A9.args i2/\[PC.bt b,PC.im (vI ((BP i1.1 i1.2).i)),PC.im (vI ((BP i1.1 i1.2).h))]=Dn i2/\A9.pre i2/\(∃ i3:(List UInt8)×Cur,[]=A9.args i3/\[PC.bt b,PC.im (vI ((byC i2.1 i2.2).i)),PC.im (vI ((byC i2.1 i2.2).h))]=Dn i3/\A9.pre i3/\((vI (wR ((wR ((byV i2.1 i2.2)*(256:Int)))+(byV i3.1 i3.2)))=vI (Ph b n)))))) (by kernel_rfl) ?_
 delta vI wR
 have q1:=Co b (BP b n)
 have q2:=Co b (BP b (n+1))
 refine ⟨(b,n),by
  rfl,by
  show b.length<=1048576/\n<=1000
  first|exact ⟨hpre.1,by omega⟩|exact DM hpre.1 n|exact DM hpre.1 (n+1),?_⟩
 refine ⟨(b,(BP b n)),by
  rfl,rfl,by
  show Am b (BP b n)
  first|exact ⟨hpre.1,by omega⟩|exact DM hpre.1 n|exact DM hpre.1 (n+1),?_⟩
 refine ⟨(b,(byC b (BP b n))),by
  rfl,rfl,by
  show Am b (byC b (BP b n))
  first|exact ⟨hpre.1,by omega⟩|exact DM hpre.1 n|exact DM hpre.1 (n+1),?_⟩
 show Value.int .i64 (IntKind.i64.wrap ((IntKind.i64.wrap ((byV b (BP b n))*(256:Int)))+(byV b (byC b (BP b n)))))=Value.int .i64 (Ph b n)
 exact AS (by rw [show byC b (BP b n)=BP b (n+1) from rfl,AC (x:=byV b (BP b n)*256) (by omega) (by omega),AC (by omega) (by omega)];rfl)
theorem Pi {l:List V2} {dx dy:Int} (h:∀ x ∈ l,(-10<=x.1/\x.1<=10)/\-10<=x.2/\x.2<=10) (hx:-100<=dx/\dx<=100) (hy:-100<=dy/\dy<=100):l.all AE=true:=by
 rw [List.all_eq_true]
 intro x hm
 have:=h x hm
 show CV 1000 x=true
 simp only [CV,Bool.and_eq_true,BK]
 omega
def obS (b:List UInt8) (p:List (List V2)×Cur):List (List V2)×Cur:=
 let q:=drP b 4 p.2
 (p.1++[DH q.1 (4+blV b q.2 16) (3+blV b (blC b q.2 16) 12)],blC b (blC b q.2 16) 12)
def obN (b:List UInt8) (c:Cur):Nat->List (List V2)×Cur
 | 0=>([],c)
 | k+1=>obS b (obN b c k)
def AAO (x:Int):List V2:=[(x,-1),(x+2,-1),(x+2,40),(x,40)]
def wlV (b:List UInt8) (p:List (List V2)×Cur):List (List V2)×Cur:=
 if blV b p.2 6=0 then (p.1++[AAO (6+blV b (blC b p.2 6) 8)],blC b (blC b p.2 6) 8) else (p.1,blC b p.2 6)
def tbS (b:List UInt8) (p:List V2×Cur):List V2×Cur:=
 (p.1++[(3+blV b p.2 18,3+blV b (blC b p.2 18) 14)],blC b (blC b p.2 18) 14)
def tbN (b:List UInt8) (c:Cur):Nat->List V2×Cur
 | 0=>([],c)
 | k+1=>tbS b (tbN b c k)
def Td (b:List UInt8) (c:Cur):Cur:=blC b (blC b c 12) 10
def BJ (b:List UInt8) (c:Cur):Cur:=(drP b 2 (Td b c)).2
def G3 (b:List UInt8) (c:Cur):Nat:=(blV b (BJ b c) 3).toNat
def GW (b:List UInt8) (c:Cur):List (List V2)×Cur:=obN b (blC b (BJ b c) 3) (G3 b c)
def Ax (b:List UInt8) (c:Cur):List (List V2)×Cur:=wlV b (GW b c)
def D4 (b:List UInt8) (c:Cur):Nat:=(blV b (Ax b c).2 3).toNat
def Rn (b:List UInt8) (c:Cur):List V2×Cur:=tbN b (blC b (Ax b c).2 3) (D4 b c)
def GE (b:List UInt8) (c:Cur):Scn:=⟨(0,0),(14+blV b c 12,12+blV b (blC b c 12) 10),(drP b 2 (Td b c)).1,(Ax b c).1,(Rn b c).1⟩
theorem Ht (b:List UInt8) (c:Cur):∀ k,(obN b c k).1.length=k
 | 0=>rfl
 | k+1=>by simp [obN,obS,Ht b c k]
theorem Hu (b:List UInt8) (c:Cur):∀ k,(tbN b c k).1.length=k
 | 0=>rfl
 | k+1=>by simp [tbN,tbS,Hu b c k]
theorem La {b:List UInt8} {z:Int} {c:Cur} (h:Am b c):Am b (drP b z c).2:=Un 8 c h
theorem Pj {b:List UInt8} {c:Cur} (h:Am b c):∀ k,Am b (obN b c k).2
 | 0=>h
 | k+1=>A2 _ (A2 _ (La (Pj h k)))
theorem Pk {b:List UInt8} {c:Cur} (h:Am b c):∀ k,Am b (tbN b c k).2
 | 0=>h
 | k+1=>A2 _ (A2 _ (Pk h k))
theorem AAP {b:List UInt8} {p:List (List V2)×Cur} (h:Am b p.2):Am b (wlV b p).2:=by
 unfold wlV
 split
 ·exact A2 _ (A2 _ h)
 ·exact A2 _ h
theorem M0 (l:List (List V2)) (p:List V2):AM l++[[Dat.sl (AA p)]]=AM (l++[p]):=by simp [AM]
theorem AAQ {b:List UInt8} {c:Cur} (k:Nat):(drP b 4 (obN b c k).2).1.all AE=true/\(drP b 4 (obN b c k).2).1.length<=1048576:=by
 have h:=Pf (b:=b) (z:=4) (by omega) (obN b c k).2
 refine ⟨Pi (dx:=0) (dy:=0) (λ x hx=>?_) (by omega) (by omega),by omega⟩
 have:=h.2.2 x hx;omega
theorem Lb (b:List UInt8) (c:Cur):((G3 b c:Nat):Int)=blV b (BJ b c) 3/\G3 b c<=2:=by
 have:=A4 b (BJ b c) (n:=3) (by omega)
 unfold G3;omega
theorem GF (b:List UInt8) (c:Cur):((D4 b c:Nat):Int)=blV b (Ax b c).2 3/\D4 b c<=2:=by
 have:=A4 b (Ax b c).2 (n:=3) (by omega)
 unfold D4;omega
theorem Ro {b:List UInt8} {c:Cur} (h:blV b (GW b c).2 6=0):Ax b c=((GW b c).1++[AAO (6+blV b (blC b (GW b c).2 6) 8)],blC b (blC b (GW b c).2 6) 8):=if_pos h
theorem Up {b:List UInt8} {c:Cur} (h:¬ blV b (GW b c).2 6=0):Ax b c=((GW b c).1,blC b (GW b c).2 6):=if_neg h
theorem Rp (b:List UInt8) (c:Cur) (k:Nat):obN b c (k+1)=((obN b c k).1++[DH (drP b 4 (obN b c k).2).1 (4+blV b (drP b 4 (obN b c k).2).2 16) (3+blV b (blC b (drP b 4 (obN b c k).2).2 16) 12)],blC b (blC b (drP b 4 (obN b c k).2).2 16) 12):=rfl
theorem M5 (b:List UInt8) (c:Cur) (k:Nat):tbN b c (k+1)=((tbN b c k).1++[(3+blV b (tbN b c k).2 18,3+blV b (blC b (tbN b c k).2 18) 14)],blC b (blC b (tbN b c k).2 18) 14):=rfl
def Pm:(List UInt8)×Cur->List PC:=λ i=>[.bt i.1,.im (.int .i64 i.2.i),.im (.int .i64 i.2.h)]
def Uq:(List UInt8)×Cur->List PC:=λ i=>[.bt i.1,.im (.int .i64 (((Rn i.1 i.2).2).i)),.im (.int .i64 (((Rn i.1 i.2).2).h))]
def JL:Con:={ ι:=(List UInt8)×Cur,pre:=λ i=>Am i.1 i.2,args:=λ i=>[],ptr:=some (Pm,Uq),res:=λ i=>⟨false,[some 7],[rcI 0,rcI 0,rcI ((GE i.1 i.2).high.1),rcI ((GE i.1 i.2).high.2),.own 24 [.int,.int] (AA (GE i.1 i.2).robot),.own 25 [.sl 24 [.int,.int]] (AM (GE i.1 i.2).obst),.own 24 [.int,.int] (AA (GE i.1 i.2).tables)]⟩ }
set_option maxHeartbeats 1600000 in
theorem AAR:JL.OkP Tryz.prog 30 Pm Uq:=by
 refine YN (X:=⟨tt,[(69,AT),(70,EM),(71,Cc),(72,JK)],[17,4000000],80,[]⟩) mixed AQ (CTok.consP Mr (CTok.consP Yg (CTok.cons LD (CTok.consP AAN (CTok.nil _))))) Tryz.func30 (λ (i:(List UInt8)×Cur)=>let Z6:=blC i.1 i.2 12;let Z5:=Ax i.1 i.2;let Z4:=AA (drP i.1 2 (Td i.1 i.2)).1;let Z1:=Value.slice none 0 0;[(100010,.mk 8 (Unit) (λ x3=>{ tm:=[(0,tP 1 0),(2,tP 3 0),(3,tP 4 0)],en:=[(1,.box [.ext 2,kI ((Z5.2).i),kI ((Z5.2).h)]),(3,.box [kI (0:Int),kI (0:Int),kI (0:Int),kI (0:Int),.im Z1,.im Z1,.im Z1]),(4,.box [kI (0:Int),kI (0:Int),kI (14+blV i.1 i.2 12),kI (12+blV i.1 Z6 10),.ext 5,.ext 6,.ext 7]),(2,.ro (.bytes i.1) []),(5,.own 24 [.int,.int] Z4),(6,.own 25 [.sl 24 [.int,.int]] (AM Z5.1)),(7,.own 24 [.int,.int] ([]:List (List Dat)))] }) (λ _=>True) (λ _=>0) (λ x3=>[(11,.mk 8 (Nat) (λ x4=>let Z2:=tbN i.1 (blC i.1 Z5.2 3) x4;{ tm:=[(0,tP 1 0),(2,tP 3 0),(3,tP 4 0),(7,tI ((nI (D4 i.1 i.2))-(x4:Int)))],en:=[(1,.box [.ext 2,kI ((Z2.2).i),kI ((Z2.2).h)]),(3,.box [kI (0:Int),kI (0:Int),kI (0:Int),kI (0:Int),.im Z1,.im Z1,.im Z1]),(4,.box [kI (0:Int),kI (0:Int),kI (14+blV i.1 i.2 12),kI (12+blV i.1 Z6 10),.ext 5,.ext 6,.ext 7]),(2,.ro (.bytes i.1) []),(5,.own 24 [.int,.int] Z4),(6,.own 25 [.sl 24 [.int,.int]] (AM Z5.1)),(7,.own 24 [.int,.int] (AA Z2.1))] }) (λ x4=>x4<=D4 i.1 i.2) (λ x4=>D4 i.1 i.2-x4) (λ _=>[]))])),(3,.mk 8 (Nat) (λ x1=>let Z3:=obN i.1 (blC i.1 (BJ i.1 i.2) 3) x1;{ tm:=[(0,tP 1 0),(2,tP 3 0),(3,tP 4 0),(4,tI ((nI (G3 i.1 i.2))-(x1:Int)))],en:=[(1,.box [.ext 2,kI ((Z3.2).i),kI ((Z3.2).h)]),(3,.box [kI (0:Int),kI (0:Int),kI (0:Int),kI (0:Int),.im Z1,.im Z1,.im Z1]),(4,.box [kI (0:Int),kI (0:Int),kI (14+blV i.1 i.2 12),kI (12+blV i.1 Z6 10),.ext 5,.ext 6,.ext 7]),(2,.ro (.bytes i.1) []),(5,.own 24 [.int,.int] Z4),(6,.own 25 [.sl 24 [.int,.int]] (AM Z3.1)),(7,.own 24 [.int,.int] ([]:List (List Dat)))] }) (λ x1=>x1<=G3 i.1 i.2) (λ x1=>G3 i.1 i.2-x1) (λ _=>[]))]) ?_
 rintro ⟨b,c⟩ hpre
 have hpre:Am b c:=hpre
 refine AP (q:=let Z44:=cI (3:Int);let Z33:=(Rn b c).2;let Z31:=nI (G3 b c);let Z21:=vI (0:Int)=vI 0;let Z19:=GE b c;let Z30:=vI (14+blV b c 12)=vI (Z19.high.1);let Z22:=vI (12+blV b (blC b c 12) 10)=vI (Z19.high.2);let Z15:=(Ax b c).2;let Z14:=nI (D4 b c);let Z13:=List Dat;let Z12:=blC b (BJ b c) 3;let Z11:=vI (14+blV b c 12);let Z10:=List UInt8;let Z9:=AM (Ax b c).1;let Z8:=(.bytes b:RO)=.bytes b;let Z7:=vI (12+blV b (blC b c 12) 10);let Z5:=AA (drP b 2 (Td b c)).1;let Z3:=Value.slice none 0 0;let Z2:=blC b (Ax b c).2 3;let Z1:=vI (0:Int);∃ i1:Z10×Cur×Int,let Z42:=blC i1.1 i1.2.1 i1.2.2;[DA.one (cI (12:Int))]=AT.args i1/\[PC.bt b,PC.im (vI c.i),PC.im (vI c.h)]=BN i1/\AT.pre i1/\(∃ i2:Z10×Cur×Int,let Z43:=blC i2.1 i2.2.1 i2.2.2;[DA.one (cI (10:Int))]=AT.args i2/\[PC.bt b,PC.im (vI (Z42.i)),PC.im (vI (Z42.h))]=BN i2/\AT.pre i2/\(∃ i3:Z10×Cur×Int,let Z27:=drP i3.1 i3.2.2 i3.2.1;[DA.one (cI (2:Int))]=EM.args i3/\[PC.bt b,PC.im (vI (Z43.i)),PC.im (vI (Z43.h))]=JJ i3/\EM.pre i3/\(∃ i4:Z10×Cur×Int,let Z45:=blC i4.1 i4.2.1 i4.2.2;[DA.one Z44]=AT.args i4/\[PC.bt b,PC.im (vI ((Z27.2).i)),PC.im (vI ((Z27.2).h))]=BN i4/\AT.pre i4/\((∃ x1:Nat,let Z46:=obN b Z12 x1;(x1<=G3 b c)/\((vI (blV i4.1 i4.2.1 i4.2.2)=vI (Z31-(x1:Int)))/\(vI (Z45.i)=vI ((Z46.2).i))/\(vI (Z45.h)=vI ((Z46.2).h))/\(rf Z1)/\(rf Z1)/\(rf Z1)/\(rf Z1)/\(rf Z3)/\(rf Z3)/\(rf Z3)/\(rf Z1)/\(rf Z1)/\(vI (wR ((14:Int)+(blV i1.1 i1.2.1 i1.2.2)))=vI (14+blV b c 12))/\(vI (wR ((12:Int)+(blV i2.1 i2.2.1 i2.2.2)))=vI (12+blV b (blC b c 12) 10))/\Z8/\(AA Z27.1=Z5)/\(([]:List Z13)=(AM Z46.1))/\(rf ([]:List Z13))))/\∀ x1:Nat,let Z6:=obN b Z12 x1;let Z29:=AM Z6.1;(x1<=G3 b c)->(ifB ((decide ((Z31-(x1:Int))>(0:Int)))) (∃ i5:Z10×Cur×Int,let Z28:=drP i5.1 i5.2.2 i5.2.1;[DA.one (cI (4:Int))]=EM.args i5/\[PC.bt b,PC.im (vI ((Z6.2).i)),PC.im (vI ((Z6.2).h))]=JJ i5/\EM.pre i5/\(∃ i6:Z10×Cur×Int,let Z47:=blC i6.1 i6.2.1 i6.2.2;[DA.one (cI (16:Int))]=AT.args i6/\[PC.bt b,PC.im (vI ((Z28.2).i)),PC.im (vI ((Z28.2).h))]=BN i6/\AT.pre i6/\(∃ i7:Z10×Cur×Int,let Z48:=blC i7.1 i7.2.1 i7.2.2;[DA.one (cI (12:Int))]=AT.args i7/\[PC.bt b,PC.im (vI (Z47.i)),PC.im (vI (Z47.h))]=BN i7/\AT.pre i7/\(∃ i8:(List V2)×Int×Int,let Z32:=AA (DH i8.1 i8.2.1 i8.2.2);[DA.one (DC.sl 24 [.int,.int] (AA Z28.1)),DA.agg [cI (wR ((4:Int)+(blV i6.1 i6.2.1 i6.2.2))),cI (wR ((3:Int)+(blV i7.1 i7.2.1 i7.2.2)))]]=Cc.args i8/\Cc.pre i8/\((Z29.length+([[Dat.sl Z32]]:List Z13).length<=2199023255552)/\(∃ y2:Nat,let Z49:=obN b Z12 y2;(y2<=G3 b c)/\(G3 b c-y2<G3 b c-x1)/\((vI (wR ((Z31-(x1:Int))-(1:Int)))=vI (Z31-(y2:Int)))/\(vI (Z48.i)=vI ((Z49.2).i))/\(vI (Z48.h)=vI ((Z49.2).h))/\(rf Z1)/\(rf Z1)/\(rf Z1)/\(rf Z1)/\(rf Z3)/\(rf Z3)/\(rf Z3)/\(rf Z1)/\(rf Z1)/\(rf Z11)/\(rf Z7)/\Z8/\(rf Z5)/\((Z29++([[Dat.sl Z32]]:List Z13))=(AM Z49.1))/\(rf ([]:List Z13))))))))) (∃ i9:Z10×Cur×Int,let Z18:=blC i9.1 i9.2.1 i9.2.2;[DA.one (cI (6:Int))]=JK.args i9/\[PC.bt b,PC.im (vI ((Z6.2).i)),PC.im (vI ((Z6.2).h))]=Pg i9/\JK.pre i9/\(ifB ((decide (blV i9.1 i9.2.1 i9.2.2=0))) (∃ i10:Z10×Cur×Int,let Z34:=blC i10.1 i10.2.1 i10.2.2;let Z4:=wR ((6:Int)+(blV i10.1 i10.2.1 i10.2.2));let Z20:=wR (Z4+(2:Int));[DA.one (cI (8:Int))]=AT.args i10/\[PC.bt b,PC.im (vI (Z18.i)),PC.im (vI (Z18.h))]=BN i10/\AT.pre i10/\((Z29.length+([[Dat.sl ([[Dat.int Z4,Dat.int (-1:Int)],[Dat.int Z20,Dat.int (-1:Int)],[Dat.int Z20,Dat.int (40:Int)],[Dat.int Z4,Dat.int (40:Int)]]:List Z13)]]:List Z13).length<=2199023255552)/\((∃ x3:Unit,(True)/\((vI (Z34.i)=vI (Z15.i))/\(vI (Z34.h)=vI (Z15.h))/\(rf Z1)/\(rf Z1)/\(rf Z1)/\(rf Z1)/\(rf Z3)/\(rf Z3)/\(rf Z3)/\(rf Z1)/\(rf Z1)/\(rf Z11)/\(rf Z7)/\Z8/\(rf Z5)/\((Z29++([[Dat.sl ([[Dat.int Z4,Dat.int (-1:Int)],[Dat.int Z20,Dat.int (-1:Int)],[Dat.int Z20,Dat.int (40:Int)],[Dat.int Z4,Dat.int (40:Int)]]:List Z13)]]:List Z13))=Z9)/\(rf ([]:List Z13))))/\∀ x3:Unit,(True)->(∃ i11:Z10×Cur×Int,let Z35:=blC i11.1 i11.2.1 i11.2.2;[DA.one Z44]=AT.args i11/\[PC.bt b,PC.im (vI (Z15.i)),PC.im (vI (Z15.h))]=BN i11/\AT.pre i11/\((∃ x4:Nat,let Z41:=tbN b Z2 x4;(x4<=D4 b c)/\((vI (blV i11.1 i11.2.1 i11.2.2)=vI (Z14-(x4:Int)))/\(vI (Z35.i)=vI ((Z41.2).i))/\(vI (Z35.h)=vI ((Z41.2).h))/\(rf Z1)/\(rf Z1)/\(rf Z1)/\(rf Z1)/\(rf Z3)/\(rf Z3)/\(rf Z3)/\(rf Z1)/\(rf Z1)/\(rf Z11)/\(rf Z7)/\Z8/\(rf Z5)/\(rf Z9)/\(([]:List Z13)=(AA Z41.1))))/\∀ x4:Nat,let Z16:=tbN b Z2 x4;(x4<=D4 b c)->(ifB ((decide ((Z14-(x4:Int))>(0:Int)))) (∃ i12:Z10×Cur×Int,let Z36:=blC i12.1 i12.2.1 i12.2.2;let Z23:=wR ((3:Int)+(blV i12.1 i12.2.1 i12.2.2));[DA.one (cI (18:Int))]=AT.args i12/\[PC.bt b,PC.im (vI ((Z16.2).i)),PC.im (vI ((Z16.2).h))]=BN i12/\AT.pre i12/\(∃ i13:Z10×Cur×Int,let Z37:=blC i13.1 i13.2.1 i13.2.2;let Z24:=wR ((3:Int)+(blV i13.1 i13.2.1 i13.2.2));[DA.one (cI (14:Int))]=AT.args i13/\[PC.bt b,PC.im (vI (Z36.i)),PC.im (vI (Z36.h))]=BN i13/\AT.pre i13/\(((AA Z16.1).length+([[Dat.int Z23,Dat.int Z24]]:List Z13).length<=2199023255552)/\(∃ y5:Nat,(y5<=D4 b c)/\(D4 b c-y5<D4 b c-x4)/\((vI (wR ((Z14-(x4:Int))-(1:Int)))=vI (Z14-(y5:Int)))/\(vI (Z37.i)=vI (((tbN b Z2 y5).2).i))/\(vI (Z37.h)=vI (((tbN b Z2 y5).2).h))/\(rf Z1)/\(rf Z1)/\(rf Z1)/\(rf Z1)/\(rf Z3)/\(rf Z3)/\(rf Z3)/\(rf Z1)/\(rf Z1)/\(rf Z11)/\(rf Z7)/\Z8/\(rf Z5)/\(rf Z9)/\(((AA Z16.1)++([[Dat.int Z23,Dat.int Z24]]:List Z13))=(AA (tbN b Z2 y5).1))))))) (Z21/\Z21/\Z30/\Z22/\(Z5=AA Z19.robot)/\(Z9=AM Z19.obst)/\((AA Z16.1)=AA Z19.tables)/\(vI ((Z16.2).i)=vI (Z33.i))/\(vI ((Z16.2).h)=vI (Z33.h))))))))) ((∃ x3:Unit,(True)/\((vI (Z18.i)=vI (Z15.i))/\(vI (Z18.h)=vI (Z15.h))/\(rf Z1)/\(rf Z1)/\(rf Z1)/\(rf Z1)/\(rf Z3)/\(rf Z3)/\(rf Z3)/\(rf Z1)/\(rf Z1)/\(rf Z11)/\(rf Z7)/\Z8/\(rf Z5)/\(Z29=Z9)/\(rf ([]:List Z13))))/\∀ x3:Unit,(True)->(∃ i14:Z10×Cur×Int,let Z38:=blC i14.1 i14.2.1 i14.2.2;[DA.one Z44]=AT.args i14/\[PC.bt b,PC.im (vI (Z15.i)),PC.im (vI (Z15.h))]=BN i14/\AT.pre i14/\((∃ x4:Nat,(x4<=D4 b c)/\((vI (blV i14.1 i14.2.1 i14.2.2)=vI (Z14-(x4:Int)))/\(vI (Z38.i)=vI (((tbN b Z2 x4).2).i))/\(vI (Z38.h)=vI (((tbN b Z2 x4).2).h))/\(rf Z1)/\(rf Z1)/\(rf Z1)/\(rf Z1)/\(rf Z3)/\(rf Z3)/\(rf Z3)/\(rf Z1)/\(rf Z1)/\(rf Z11)/\(rf Z7)/\Z8/\(rf Z5)/\(rf Z9)/\(([]:List Z13)=(AA (tbN b Z2 x4).1))))/\∀ x4:Nat,let Z17:=tbN b Z2 x4;(x4<=D4 b c)->(ifB ((decide ((Z14-(x4:Int))>(0:Int)))) (∃ i15:Z10×Cur×Int,let Z39:=blC i15.1 i15.2.1 i15.2.2;let Z25:=wR ((3:Int)+(blV i15.1 i15.2.1 i15.2.2));[DA.one (cI (18:Int))]=AT.args i15/\[PC.bt b,PC.im (vI ((Z17.2).i)),PC.im (vI ((Z17.2).h))]=BN i15/\AT.pre i15/\(∃ i16:Z10×Cur×Int,let Z40:=blC i16.1 i16.2.1 i16.2.2;let Z26:=wR ((3:Int)+(blV i16.1 i16.2.1 i16.2.2));[DA.one (cI (14:Int))]=AT.args i16/\[PC.bt b,PC.im (vI (Z39.i)),PC.im (vI (Z39.h))]=BN i16/\AT.pre i16/\(((AA Z17.1).length+([[Dat.int Z25,Dat.int Z26]]:List Z13).length<=2199023255552)/\(∃ y8:Nat,(y8<=D4 b c)/\(D4 b c-y8<D4 b c-x4)/\((vI (wR ((Z14-(x4:Int))-(1:Int)))=vI (Z14-(y8:Int)))/\(vI (Z40.i)=vI (((tbN b Z2 y8).2).i))/\(vI (Z40.h)=vI (((tbN b Z2 y8).2).h))/\(rf Z1)/\(rf Z1)/\(rf Z1)/\(rf Z1)/\(rf Z3)/\(rf Z3)/\(rf Z3)/\(rf Z1)/\(rf Z1)/\(rf Z11)/\(rf Z7)/\Z8/\(rf Z5)/\(rf Z9)/\(((AA Z17.1)++([[Dat.int Z25,Dat.int Z26]]:List Z13))=(AA (tbN b Z2 y8).1))))))) (Z21/\Z21/\Z30/\Z22/\(Z5=AA Z19.robot)/\(Z9=AM Z19.obst)/\((AA Z17.1)=AA Z19.tables)/\(vI ((Z17.2).i)=vI (Z33.i))/\(vI ((Z17.2).h)=vI (Z33.h))))))))))))))) (by kernel_rfl) ?_
 conv=>zeta
 delta ifB vI wR nI
 have k1:=A2 12 hpre
 have k2:Am b (Td b c):=A2 10 k1
 have k3:Am b (BJ b c):=La k2
 have k4:=A2 3 k3
 have q1:=A4 b c (n:=12) (by omega)
 have q2:=A4 b (blC b c 12) (n:=10) (by omega)
 have k5:Am b (GW b c).2:=Pj k4 _
 have k6:Am b (Ax b c).2:=AAP k5
 have k7:=A2 3 k6
 refine ⟨(b,c,(12:Int)),by
  rfl,rfl,by
  exact hpre,?_⟩
 refine ⟨(b,(blC b c (12:Int)),(10:Int)),by
  rfl,rfl,by
  exact k1,?_⟩
 refine ⟨(b,(blC b (blC b c (12:Int)) (10:Int)),(2:Int)),by
  rfl,rfl,by
  show Am b (blC b (blC b c (12:Int)) (10:Int))/\0<=(2:Int)/\(2:Int)<=1000
  exact ⟨k2,by omega,by omega⟩,?_⟩
 refine ⟨(b,((drP b (2:Int) (blC b (blC b c (12:Int)) (10:Int))).2),(3:Int)),by
  rfl,rfl,by
  exact k3,?_⟩
 refine ⟨⟨0,by
  first|omega|trivial,?_⟩,?_⟩
 ·refine ⟨?_,?_,?_,rfl,rfl,rfl,rfl,rfl,rfl,rfl,rfl,rfl,?_,?_,?_,?_,?_,rfl⟩
  ·show Value.int .i64 (blV b ((drP b (2:Int) (blC b (blC b c (12:Int)) (10:Int))).2) (3:Int))=Value.int .i64 (((G3 b c:Nat):Int)-(0:Int))
   exact AS (by rw [(Lb b c).1];exact (Int.sub_zero _).symm)
  ·show Value.int .i64 ((blC b ((drP b (2:Int) (blC b (blC b c (12:Int)) (10:Int))).2) (3:Int)).i)=Value.int .i64 (((obN b (blC b (BJ b c) 3) 0).2).i)
   exact rfl
  ·show Value.int .i64 ((blC b ((drP b (2:Int) (blC b (blC b c (12:Int)) (10:Int))).2) (3:Int)).h)=Value.int .i64 (((obN b (blC b (BJ b c) 3) 0).2).h)
   exact rfl
  ·show Value.int .i64 (IntKind.i64.wrap ((14:Int)+(blV b c (12:Int))))=Value.int .i64 (14+blV b c 12)
   exact AS (AC (by omega) (by omega))
  ·show Value.int .i64 (IntKind.i64.wrap ((12:Int)+(blV b (blC b c (12:Int)) (10:Int))))=Value.int .i64 (12+blV b (blC b c 12) 10)
   exact AS (AC (by omega) (by omega))
  ·exact rfl
  ·show AA (drP b (2:Int) (blC b (blC b c (12:Int)) (10:Int))).1=(AA (drP b 2 (Td b c)).1)
   exact rfl
  exact rfl
 intro (k:Nat) hki13
 have hki13:k<=G3 b c:=hki13
 have ko:=Pj k4 k
 refine ⟨λ c33=>?_,λ c33=>?_⟩
 ·try simp only [nrm] at c33
  have n1:=Lb b c
  have o1:=AAQ (b:=b) (c:=blC b (BJ b c) 3) k
  have r1:=A4 b (drP b 4 (obN b (blC b (BJ b c) 3) k).2).2 (n:=16) (by omega)
  have r2:=A4 b (blC b (drP b 4 (obN b (blC b (BJ b c) 3) k).2).2 16) (n:=12) (by omega)
  have w1:=AC (x:=4+blV b (drP b 4 (obN b (blC b (BJ b c) 3) k).2).2 16) (by omega) (by omega)
  have w2:=AC (x:=3+blV b (blC b (drP b 4 (obN b (blC b (BJ b c) 3) k).2).2 16) 12) (by omega) (by omega)
  refine ⟨(b,((obN b (blC b (BJ b c) 3) k).2),(4:Int)),by
   rfl,rfl,by
   show Am b ((obN b (blC b (BJ b c) 3) k).2)/\0<=(4:Int)/\(4:Int)<=1000
   exact ⟨ko,by omega,by omega⟩,?_⟩
  refine ⟨(b,((drP b (4:Int) ((obN b (blC b (BJ b c) 3) k).2)).2),(16:Int)),by
   rfl,rfl,by
   show Am b ((drP b (4:Int) ((obN b (blC b (BJ b c) 3) k).2)).2)
   exact La ko,?_⟩
  refine ⟨(b,(blC b ((drP b (4:Int) ((obN b (blC b (BJ b c) 3) k).2)).2) (16:Int)),(12:Int)),by
   rfl,rfl,by
   show Am b (blC b ((drP b (4:Int) ((obN b (blC b (BJ b c) 3) k).2)).2) (16:Int))
   exact A2 16 (La ko),?_⟩
  refine ⟨((drP b (4:Int) ((obN b (blC b (BJ b c) 3) k).2)).1,(IntKind.i64.wrap ((4:Int)+(blV b ((drP b (4:Int) ((obN b (blC b (BJ b c) 3) k).2)).2) (16:Int)))),(IntKind.i64.wrap ((3:Int)+(blV b (blC b ((drP b (4:Int) ((obN b (blC b (BJ b c) 3) k).2)).2) (16:Int)) (12:Int))))),by
   rfl,by
   show ((drP b (4:Int) ((obN b (blC b (BJ b c) 3) k).2)).1).length<=1048576/\((drP b (4:Int) ((obN b (blC b (BJ b c) 3) k).2)).1).all AE=true
   exact ⟨o1.2,o1.1⟩,?_⟩
  refine ao (a:=(AM (obN b (blC b (BJ b c) 3) k).1).length+([[Dat.sl (AA (DH ((drP b (4:Int) ((obN b (blC b (BJ b c) 3) k).2)).1) (IntKind.i64.wrap ((4:Int)+(blV b ((drP b (4:Int) ((obN b (blC b (BJ b c) 3) k).2)).2) (16:Int)))) (IntKind.i64.wrap ((3:Int)+(blV b (blC b ((drP b (4:Int) ((obN b (blC b (BJ b c) 3) k).2)).2) (16:Int)) (12:Int))))))]]:List (List Dat)).length<=2199023255552) (by first|omega|(simp only [AB,Ao,Ht,Hu,List.length_cons,List.length_nil];omega)) λ o46=>?_
  refine ⟨k+1,by
   first|omega|trivial,by
   first|omega|(simp;omega),?_⟩
  refine ⟨?_,?_,?_,rfl,rfl,rfl,rfl,rfl,rfl,rfl,rfl,rfl,rfl,rfl,?_,rfl,?_,rfl⟩
  ·exact AS (by rw [AC (by omega) (by omega)];omega)
  ·show Value.int .i64 ((blC b (blC b ((drP b (4:Int) ((obN b (blC b (BJ b c) 3) k).2)).2) (16:Int)) (12:Int)).i)=Value.int .i64 (((obN b (blC b (BJ b c) 3) (k+1)).2).i)
   exact rfl
  ·show Value.int .i64 ((blC b (blC b ((drP b (4:Int) ((obN b (blC b (BJ b c) 3) k).2)).2) (16:Int)) (12:Int)).h)=Value.int .i64 (((obN b (blC b (BJ b c) 3) (k+1)).2).h)
   exact rfl
  ·exact rfl
  show ((AM (obN b (blC b (BJ b c) 3) k).1)++([[Dat.sl (AA (DH ((drP b (4:Int) ((obN b (blC b (BJ b c) 3) k).2)).1) (IntKind.i64.wrap ((4:Int)+(blV b ((drP b (4:Int) ((obN b (blC b (BJ b c) 3) k).2)).2) (16:Int)))) (IntKind.i64.wrap ((3:Int)+(blV b (blC b ((drP b (4:Int) ((obN b (blC b (BJ b c) 3) k).2)).2) (16:Int)) (12:Int))))))]]:List (List Dat)))=(AM (obN b (blC b (BJ b c) 3) (k+1)).1)
  rw [w1,w2,Rp];exact M0 _ _
 try simp only [nrm] at c33
 have n1:=Lb b c
 have hko:k=G3 b c:=by omega
 have hO:obN b (blC b (BJ b c) 3) k=GW b c:=by rw [hko];rfl
 refine ⟨(b,((obN b (blC b (BJ b c) 3) k).2),(6:Int)),by
  rfl,rfl,by
  show Am b ((obN b (blC b (BJ b c) 3) k).2)
  rw [hO];exact k5,?_⟩
 refine And.symm ⟨λ c71=>?_,λ c71=>?_⟩
 ·try simp only [nrm] at c71
  rw [hO] at c71
  have hW:=Up (b:=b) (c:=c) c71
  refine ⟨⟨(),by
   first|omega|trivial,?_⟩,?_⟩
  ·refine ⟨?_,?_,rfl,rfl,rfl,rfl,rfl,rfl,rfl,rfl,rfl,rfl,rfl,?_,rfl,?_,rfl⟩
   ·show Value.int .i64 ((blC b ((obN b (blC b (BJ b c) 3) k).2) (6:Int)).i)=Value.int .i64 (((Ax b c).2).i)
    rw [hO,hW]
   ·show Value.int .i64 ((blC b ((obN b (blC b (BJ b c) 3) k).2) (6:Int)).h)=Value.int .i64 (((Ax b c).2).h)
    rw [hO,hW]
   ·exact rfl
   rw [hO,hW]
  rintro _ hki156
  have hki156:True:=hki156
  refine ⟨(b,((Ax b c).2),(3:Int)),by
   rfl,rfl,by
   exact k6,?_⟩
  refine ⟨⟨0,by
   first|omega|trivial,?_⟩,?_⟩
  ·refine ⟨?_,?_,?_,rfl,rfl,rfl,rfl,rfl,rfl,rfl,rfl,rfl,rfl,rfl,?_,rfl,rfl,?_⟩
   ·show Value.int .i64 (blV b ((Ax b c).2) (3:Int))=Value.int .i64 (((D4 b c:Nat):Int)-(0:Int))
    exact AS (by rw [(GF b c).1];exact (Int.sub_zero _).symm)
   ·show Value.int .i64 ((blC b ((Ax b c).2) (3:Int)).i)=Value.int .i64 (((tbN b (blC b (Ax b c).2 3) 0).2).i)
    exact rfl
   ·show Value.int .i64 ((blC b ((Ax b c).2) (3:Int)).h)=Value.int .i64 (((tbN b (blC b (Ax b c).2 3) 0).2).h)
    exact rfl
   ·exact rfl
   exact rfl
  intro (k:Nat) hki178
  have hki178:k<=D4 b c:=hki178
  have kt:=Pk k7 k
  refine And.symm ⟨λ c198=>?_,λ c198=>?_⟩
  ·try simp only [nrm] at c198
   have n2:=GF b c
   have hkt:k=D4 b c:=by omega
   have hT:tbN b (blC b (Ax b c).2 3) k=Rn b c:=by rw [hkt];rfl
   refine ⟨?_,?_,?_,?_,?_,?_,?_,?_,?_⟩
   ·first|(rw [hT];done)|(rw [hT];exact rfl)|exact rfl
   ·first|(rw [hT];done)|(rw [hT];exact rfl)|exact rfl
   ·first|(rw [hT];done)|(rw [hT];exact rfl)|exact rfl
   ·first|(rw [hT];done)|(rw [hT];exact rfl)|exact rfl
   ·first|(rw [hT];done)|(rw [hT];exact rfl)|exact rfl
   ·first|(rw [hT];done)|(rw [hT];exact rfl)|exact rfl
   ·first|(rw [hT];done)|(rw [hT];exact rfl)|exact rfl
   ·first|(rw [hT];done)|(rw [hT];exact rfl)|exact rfl
   first|(rw [hT];done)|(rw [hT];exact rfl)|exact rfl
  try simp only [nrm] at c198
  have n2:=GF b c
  have r1:=A4 b (tbN b (blC b (Ax b c).2 3) k).2 (n:=18) (by omega)
  have r2:=A4 b (blC b (tbN b (blC b (Ax b c).2 3) k).2 18) (n:=14) (by omega)
  have w3:=AC (x:=3+blV b (tbN b (blC b (Ax b c).2 3) k).2 18) (by omega) (by omega)
  have w4:=AC (x:=3+blV b (blC b (tbN b (blC b (Ax b c).2 3) k).2 18) 14) (by omega) (by omega)
  refine ⟨(b,((tbN b (blC b (Ax b c).2 3) k).2),(18:Int)),by
   rfl,rfl,by
   exact kt,?_⟩
  refine ⟨(b,(blC b ((tbN b (blC b (Ax b c).2 3) k).2) (18:Int)),(14:Int)),by
   rfl,rfl,by
   show Am b (blC b ((tbN b (blC b (Ax b c).2 3) k).2) (18:Int))
   exact A2 18 kt,?_⟩
  refine ao (a:=(AA (tbN b (blC b (Ax b c).2 3) k).1).length+([[Dat.int (IntKind.i64.wrap ((3:Int)+(blV b ((tbN b (blC b (Ax b c).2 3) k).2) (18:Int)))),Dat.int (IntKind.i64.wrap ((3:Int)+(blV b (blC b ((tbN b (blC b (Ax b c).2 3) k).2) (18:Int)) (14:Int))))]]:List (List Dat)).length<=2199023255552) (by first|omega|(simp only [AB,Ao,Ht,Hu,List.length_cons,List.length_nil];omega)) λ o205=>?_
  refine ⟨k+1,by
   first|omega|trivial,by
   first|omega|(simp;omega),?_⟩
  refine ⟨?_,?_,?_,rfl,rfl,rfl,rfl,rfl,rfl,rfl,rfl,rfl,rfl,rfl,?_,rfl,rfl,?_⟩
  ·exact AS (by rw [AC (by omega) (by omega)];omega)
  ·show Value.int .i64 ((blC b (blC b ((tbN b (blC b (Ax b c).2 3) k).2) (18:Int)) (14:Int)).i)=Value.int .i64 (((tbN b (blC b (Ax b c).2 3) (k+1)).2).i)
   exact rfl
  ·show Value.int .i64 ((blC b (blC b ((tbN b (blC b (Ax b c).2 3) k).2) (18:Int)) (14:Int)).h)=Value.int .i64 (((tbN b (blC b (Ax b c).2 3) (k+1)).2).h)
   exact rfl
  ·exact rfl
  show ((AA (tbN b (blC b (Ax b c).2 3) k).1)++([[Dat.int (IntKind.i64.wrap ((3:Int)+(blV b ((tbN b (blC b (Ax b c).2 3) k).2) (18:Int)))),Dat.int (IntKind.i64.wrap ((3:Int)+(blV b (blC b ((tbN b (blC b (Ax b c).2 3) k).2) (18:Int)) (14:Int))))]]:List (List Dat)))=(AA (tbN b (blC b (Ax b c).2 3) (k+1)).1)
  rw [w3,w4,M5];exact IX _ _ _
 try simp only [nrm] at c71
 rw [hO] at c71
 have hW:=Ro (b:=b) (c:=c) c71
 have r8:=A4 b (blC b (GW b c).2 6) (n:=8) (by omega)
 have w6:=AC (x:=6+blV b (blC b (GW b c).2 6) 8) (by omega) (by omega)
 have w8:=AC (x:=6+blV b (blC b (GW b c).2 6) 8+2) (by omega) (by omega)
 refine ⟨(b,(blC b ((obN b (blC b (BJ b c) 3) k).2) (6:Int)),(8:Int)),by
  rfl,rfl,by
  show Am b (blC b ((obN b (blC b (BJ b c) 3) k).2) (6:Int))
  rw [hO];exact A2 6 k5,?_⟩
 refine ao (a:=(AM (obN b (blC b (BJ b c) 3) k).1).length+([[Dat.sl ([[Dat.int (IntKind.i64.wrap ((6:Int)+(blV b (blC b ((obN b (blC b (BJ b c) 3) k).2) (6:Int)) (8:Int)))),Dat.int (-1:Int)],[Dat.int (IntKind.i64.wrap ((IntKind.i64.wrap ((6:Int)+(blV b (blC b ((obN b (blC b (BJ b c) 3) k).2) (6:Int)) (8:Int))))+(2:Int))),Dat.int (-1:Int)],[Dat.int (IntKind.i64.wrap ((IntKind.i64.wrap ((6:Int)+(blV b (blC b ((obN b (blC b (BJ b c) 3) k).2) (6:Int)) (8:Int))))+(2:Int))),Dat.int (40:Int)],[Dat.int (IntKind.i64.wrap ((6:Int)+(blV b (blC b ((obN b (blC b (BJ b c) 3) k).2) (6:Int)) (8:Int)))),Dat.int (40:Int)]]:List (List Dat))]]:List (List Dat)).length<=2199023255552) (by first|omega|(simp only [AB,Ao,Ht,Hu,List.length_cons,List.length_nil];omega)) λ o75=>?_
 refine ⟨⟨(),by
  first|omega|trivial,?_⟩,?_⟩
 ·refine ⟨?_,?_,rfl,rfl,rfl,rfl,rfl,rfl,rfl,rfl,rfl,rfl,rfl,?_,rfl,?_,rfl⟩
  ·show Value.int .i64 ((blC b (blC b ((obN b (blC b (BJ b c) 3) k).2) (6:Int)) (8:Int)).i)=Value.int .i64 (((Ax b c).2).i)
   rw [hO,hW]
  ·show Value.int .i64 ((blC b (blC b ((obN b (blC b (BJ b c) 3) k).2) (6:Int)) (8:Int)).h)=Value.int .i64 (((Ax b c).2).h)
   rw [hO,hW]
  ·exact rfl
  show ((AM (obN b (blC b (BJ b c) 3) k).1)++([[Dat.sl ([[Dat.int (IntKind.i64.wrap ((6:Int)+(blV b (blC b ((obN b (blC b (BJ b c) 3) k).2) (6:Int)) (8:Int)))),Dat.int (-1:Int)],[Dat.int (IntKind.i64.wrap ((IntKind.i64.wrap ((6:Int)+(blV b (blC b ((obN b (blC b (BJ b c) 3) k).2) (6:Int)) (8:Int))))+(2:Int))),Dat.int (-1:Int)],[Dat.int (IntKind.i64.wrap ((IntKind.i64.wrap ((6:Int)+(blV b (blC b ((obN b (blC b (BJ b c) 3) k).2) (6:Int)) (8:Int))))+(2:Int))),Dat.int (40:Int)],[Dat.int (IntKind.i64.wrap ((6:Int)+(blV b (blC b ((obN b (blC b (BJ b c) 3) k).2) (6:Int)) (8:Int)))),Dat.int (40:Int)]]:List (List Dat))]]:List (List Dat)))=(AM (Ax b c).1)
  rw [hO,hW,w6,w8];exact M0 (GW b c).1 (AAO (6+blV b (blC b (GW b c).2 6) 8))
 rintro _ hki76
 have hki76:True:=hki76
 refine ⟨(b,((Ax b c).2),(3:Int)),by
  rfl,rfl,by
  exact k6,?_⟩
 refine ⟨⟨0,by
  first|omega|trivial,?_⟩,?_⟩
 ·refine ⟨?_,?_,?_,rfl,rfl,rfl,rfl,rfl,rfl,rfl,rfl,rfl,rfl,rfl,?_,rfl,rfl,?_⟩
  ·show Value.int .i64 (blV b ((Ax b c).2) (3:Int))=Value.int .i64 (((D4 b c:Nat):Int)-(0:Int))
   exact AS (by rw [(GF b c).1];exact (Int.sub_zero _).symm)
  ·show Value.int .i64 ((blC b ((Ax b c).2) (3:Int)).i)=Value.int .i64 (((tbN b (blC b (Ax b c).2 3) 0).2).i)
   exact rfl
  ·show Value.int .i64 ((blC b ((Ax b c).2) (3:Int)).h)=Value.int .i64 (((tbN b (blC b (Ax b c).2 3) 0).2).h)
   exact rfl
  ·exact rfl
  exact rfl
 intro (k:Nat) hki98
 have hki98:k<=D4 b c:=hki98
 have kt:=Pk k7 k
 refine And.symm ⟨λ c118=>?_,λ c118=>?_⟩
 ·try simp only [nrm] at c118
  have n2:=GF b c
  have hkt:k=D4 b c:=by omega
  have hT:tbN b (blC b (Ax b c).2 3) k=Rn b c:=by rw [hkt];rfl
  refine ⟨?_,?_,?_,?_,?_,?_,?_,?_,?_⟩
  ·first|(rw [hT];done)|(rw [hT];exact rfl)|exact rfl
  ·first|(rw [hT];done)|(rw [hT];exact rfl)|exact rfl
  ·first|(rw [hT];done)|(rw [hT];exact rfl)|exact rfl
  ·first|(rw [hT];done)|(rw [hT];exact rfl)|exact rfl
  ·first|(rw [hT];done)|(rw [hT];exact rfl)|exact rfl
  ·first|(rw [hT];done)|(rw [hT];exact rfl)|exact rfl
  ·first|(rw [hT];done)|(rw [hT];exact rfl)|exact rfl
  ·first|(rw [hT];done)|(rw [hT];exact rfl)|exact rfl
  first|(rw [hT];done)|(rw [hT];exact rfl)|exact rfl
 try simp only [nrm] at c118
 have n2:=GF b c
 have r1:=A4 b (tbN b (blC b (Ax b c).2 3) k).2 (n:=18) (by omega)
 have r2:=A4 b (blC b (tbN b (blC b (Ax b c).2 3) k).2 18) (n:=14) (by omega)
 have w3:=AC (x:=3+blV b (tbN b (blC b (Ax b c).2 3) k).2 18) (by omega) (by omega)
 have w4:=AC (x:=3+blV b (blC b (tbN b (blC b (Ax b c).2 3) k).2 18) 14) (by omega) (by omega)
 refine ⟨(b,((tbN b (blC b (Ax b c).2 3) k).2),(18:Int)),by
  rfl,rfl,by
  exact kt,?_⟩
 refine ⟨(b,(blC b ((tbN b (blC b (Ax b c).2 3) k).2) (18:Int)),(14:Int)),by
  rfl,rfl,by
  show Am b (blC b ((tbN b (blC b (Ax b c).2 3) k).2) (18:Int))
  exact A2 18 kt,?_⟩
 refine ao (a:=(AA (tbN b (blC b (Ax b c).2 3) k).1).length+([[Dat.int (IntKind.i64.wrap ((3:Int)+(blV b ((tbN b (blC b (Ax b c).2 3) k).2) (18:Int)))),Dat.int (IntKind.i64.wrap ((3:Int)+(blV b (blC b ((tbN b (blC b (Ax b c).2 3) k).2) (18:Int)) (14:Int))))]]:List (List Dat)).length<=2199023255552) (by first|omega|(simp only [AB,Ao,Ht,Hu,List.length_cons,List.length_nil];omega)) λ o125=>?_
 refine ⟨k+1,by
  first|omega|trivial,by
  first|omega|(simp;omega),?_⟩
 refine ⟨?_,?_,?_,rfl,rfl,rfl,rfl,rfl,rfl,rfl,rfl,rfl,rfl,rfl,?_,rfl,rfl,?_⟩
 ·exact AS (by rw [AC (by omega) (by omega)];omega)
 ·show Value.int .i64 ((blC b (blC b ((tbN b (blC b (Ax b c).2 3) k).2) (18:Int)) (14:Int)).i)=Value.int .i64 (((tbN b (blC b (Ax b c).2 3) (k+1)).2).i)
  exact rfl
 ·show Value.int .i64 ((blC b (blC b ((tbN b (blC b (Ax b c).2 3) k).2) (18:Int)) (14:Int)).h)=Value.int .i64 (((tbN b (blC b (Ax b c).2 3) (k+1)).2).h)
  exact rfl
 ·exact rfl
 show ((AA (tbN b (blC b (Ax b c).2 3) k).1)++([[Dat.int (IntKind.i64.wrap ((3:Int)+(blV b ((tbN b (blC b (Ax b c).2 3) k).2) (18:Int)))),Dat.int (IntKind.i64.wrap ((3:Int)+(blV b (blC b ((tbN b (blC b (Ax b c).2 3) k).2) (18:Int)) (14:Int))))]]:List (List Dat)))=(AA (tbN b (blC b (Ax b c).2 3) (k+1)).1)
 rw [w3,w4,M5];exact IX _ _ _
def Hv:Con:={ ι:=(List UInt8),pre:=λ i=>i.length<=1048576,args:=λ i=>[.one (.ro (.bytes i))],res:=λ i=>⟨false,[some 7],[rcI 0,rcI 0,rcI ((GE i (BI i)).high.1),rcI ((GE i (BI i)).high.2),.own 24 [.int,.int] (AA (GE i (BI i)).robot),.own 25 [.sl 24 [.int,.int]] (AM (GE i (BI i)).obst),.own 24 [.int,.int] (AA (GE i (BI i)).tables)]⟩ }
theorem Yk:Hv.Ok Tryz.prog 6:=by
 refine fok (X:=⟨tt,[(31,Df),(30,JL)],[],6,[]⟩) mixed AQ (CTok.consN Rl (CTok.consP AAR (CTok.nil _))) Tryz.func6 (λ _=>[]) ?_
 intro (b:List UInt8) hpre
 have hpre:b.length<=1048576:=hpre
 refine AP (q:=let Z1:=GE b (BI b);∃ i1:(List UInt8),[DA.one (DC.ro (.bytes b))]=Df.args i1/\Df.pre i1/\(∃ i2:(List UInt8)×Cur,let Z2:=GE i2.1 i2.2;[]=JL.args i2/\[PC.bt b,PC.im (vI ((BI i1).i)),PC.im (vI ((BI i1).h))]=Pm i2/\JL.pre i2/\((vI 0=vI 0)/\(vI 0=vI 0)/\(vI (Z2.high.1)=vI (Z1.high.1))/\(vI (Z2.high.2)=vI (Z1.high.2))/\(AA Z2.robot=AA Z1.robot)/\(AM Z2.obst=AM Z1.obst)/\(AA Z2.tables=AA Z1.tables)))) (by kernel_rfl) ?_
 conv=>zeta
 delta vI
 refine ⟨b,by
  rfl,by
  show b.length<=1048576
  first|exact hpre|exact KL hpre,?_⟩
 refine ⟨(b,(BI b)),by
  rfl,rfl,by
  show Am b (BI b)
  first|exact hpre|exact KL hpre,?_⟩
 exact ⟨rfl,rfl,rfl,rfl,rfl,rfl,rfl⟩
end Go.Proofs.YtkffpiaagjcmpaaGreat
