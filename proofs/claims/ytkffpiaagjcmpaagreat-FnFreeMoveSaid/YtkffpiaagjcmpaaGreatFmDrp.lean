import Derived.Test.YtkffpiaagjcmpaaGreatFmRkG
import Derived.Test.YtkffpiaagjcmpaaGreatFmScW
import Derived.Test.YtkffpiaagjcmpaaGreatFmHus
import Derived.Test.YtkffpiaagjcmpaaGreatFmRkHu
import Derived.Test.YtkffpiaagjcmpaaGreatFmHulU
namespace Go.Proofs.YtkffpiaagjcmpaaGreat
set_option linter.unusedVariables false
set_option linter.unusedSimpArgs false
open Go.RowKit
def ptS (b:List UInt8) (z:Int) (p:List V2×Cur):List V2×Cur:=
 (p.1++[(blV b p.2 (2*z+1)-z,blV b (blC b p.2 (2*z+1)) (2*z+1)-z)],blC b (blC b p.2 (2*z+1)) (2*z+1))
def ptN (b:List UInt8) (z:Int) (c:Cur):Nat->List V2×Cur
 | 0=>([],c)
 | j+1=>ptS b z (ptN b z c j)
def Hd (b:List UInt8) (c:Cur):Nat:=(3+blV b c 3).toNat
def att (b:List UInt8) (z:Int) (c:Cur):List V2×Cur:=ptN b z (blC b c 3) (Hd b c)
def drF (b:List UInt8) (z:Int):Nat->Cur->List V2×Cur
 | 0,c=>([(-1,-1),(1,-1),(0,1)],c)
 | k+1,c=>if AJ (Bw (att b z c).1)=true then (Bw (att b z c).1,(att b z c).2) else drF b z k (att b z c).2
def drP (b:List UInt8) (z:Int) (c:Cur):List V2×Cur:=drF b z 8 c
def atC (b:List UInt8) (z:Int) (c:Cur):Nat->Cur
 | 0=>c
 | k+1=>(att b z (atC b z c k)).2
theorem Fm (b:List UInt8) (z:Int) (c:Cur):∀ j,(ptN b z c j).1.length=j
 | 0=>rfl
 | j+1=>by simp [ptN,ptS,Fm b z c j]
theorem Ee {b:List UInt8} {c:Cur} (z:Int) (h:Aj b c):∀ j,Aj b (ptN b z c j).2
 | 0=>h
 | j+1=>A4 _ (A4 _ (Ee z h j))
theorem Up {b:List UInt8} {c:Cur} (z:Int) (h:Aj b c):Aj b (att b z c).2:=Ee z (A4 3 h) _
theorem DH {b:List UInt8} {c:Cur} (z:Int) (h:Aj b c):∀ k,Aj b (atC b z c k)
 | 0=>h
 | k+1=>Up z (DH z h k)
theorem Sr (b:List UInt8) (c:Cur):3<=Hd b c/\Hd b c<=5/\((Hd b c:Nat):Int)=3+blV b c 3:=by
 have:=BG b c (n:=3) (by omega)
 unfold Hd;omega
theorem JO (l:List V2) (x y:Int):AA l++[[Dat.int x,Dat.int y]]=AA (l++[(x,y)]):=by simp [AA,Iu]
theorem Zs {b:List UInt8} {z:Int} (hz:0<=z) (c:Cur):∀ j,∀ x ∈ (ptN b z c j).1,(-z<=x.1/\x.1<=z)/\-z<=x.2/\x.2<=z
 | 0,x,hx=>by simp [ptN] at hx
 | j+1,x,hx=>by
  simp only [ptN,ptS] at hx
  rcases List.mem_append.1 hx with hx|hx
  ·exact Zs hz c j x hx
  ·rw [List.mem_singleton.1 hx]
   have q1:=BG b (ptN b z c j).2 (n:=2*z+1) (by omega)
   have q2:=BG b (blC b (ptN b z c j).2 (2*z+1)) (n:=2*z+1) (by omega)
   exact ⟨⟨by show -z<=_-z;omega,by show _-z<=z;omega⟩,by show -z<=_-z;omega,by show _-z<=z;omega⟩
theorem Zt {b:List UInt8} {z:Int} (hz:1<=z):∀ k c,AJ (drF b z k c).1=true/\(drF b z k c).1.length<=16/\∀ x ∈ (drF b z k c).1,(-z<=x.1/\x.1<=z)/\-z<=x.2/\x.2<=z
 | 0,c=>by
  refine ⟨by simp only [drF];decide,by simp [drF],λ x hx=>?_⟩
  simp only [drF,List.mem_cons,List.not_mem_nil,or_false] at hx
  rcases hx with rfl|rfl|rfl <;> exact ⟨⟨by omega,by omega⟩,by omega,by omega⟩
 | k+1,c=>by
  unfold drF
  split
  ·rename_i h
   refine ⟨h,?_,λ x hx=>?_⟩
   ·simp only [AJ,Bool.and_eq_true,BO] at h
    have:=h.1.1
    simp only;omega
   ·exact Zs (by omega) _ _ x (Pi hx)
  ·exact Zt hz k _
theorem Uq {b:List UInt8} {z:Int} (hz:1<=z) (c:Cur):AJ (drP b z c).1=true/\(drP b z c).1.length<=16/\∀ x ∈ (drP b z c).1,(-z<=x.1/\x.1<=z)/\-z<=x.2/\x.2<=z:=Zt hz 8 c
theorem V1 {b:List UInt8} {z:Int} : ∀ k c,Aj b c->Aj b (drF b z k c).2
 | 0,c,h=>h
 | k+1,c,h=>by
  unfold drF
  split
  ·exact Up z h
  ·exact V1 k _ (Up z h)
def KB:(List UInt8)×Cur×Int->List PC:=λ i=>[.bt i.1,.im (.int .i64 i.2.1.i),.im (.int .i64 i.2.1.h)]
def Ss:(List UInt8)×Cur×Int->List PC:=λ i=>[.bt i.1,.im (.int .i64 (((drP i.1 i.2.2 i.2.1).2).i)),.im (.int .i64 (((drP i.1 i.2.2 i.2.1).2).h))]
def E5:Con:={ ι:=(List UInt8)×Cur×Int,pre:=λ i=>Aj i.1 i.2.1/\0<=i.2.2/\i.2.2<=1000,args:=λ i=>[.one (cI i.2.2)],ptr:=some (KB,Ss),res:=λ i=>⟨false,[none],[.own 24 [.int,.int] (AA (drP i.1 i.2.2 i.2.1).1)]⟩ }
set_option maxRecDepth 100000 in
theorem Zu:E5.OkP Tryz.prog 70 KB Ss:=by
 refine XL (X:=⟨tt,[(69,AR),(124,Ij),(125,Fh)],[4000000],48,[]⟩) mixed AI (CTok.consP J8 (CTok.cons Zq (CTok.cons Ua (CTok.nil _)))) Tryz.func70 (λ (i:(List UInt8)×Cur×Int)=>[(2,.mk 3 (Nat) (λ x1=>let Z3:=atC i.1 i.2.2 i.2.1 x1;{ tm:=[(0,tP 1 0),(1,tI i.2.2),(5,tI (x1:Int))],en:=[(1,.box [.ext 2,kI (Z3.i),kI (Z3.h)]),(2,.ro (.bytes i.1) [])] }) (λ x1=>x1<=8/\drF i.1 i.2.2 (8-x1) (atC i.1 i.2.2 i.2.1 x1)=drP i.1 i.2.2 i.2.1) (λ x1=>8-x1) (λ x1=>let Z1:=atC i.1 i.2.2 i.2.1 x1;[(6,.mk 4 (Nat) (λ x2=>let Z2:=ptN i.1 i.2.2 (blC i.1 Z1 3) x2;{ tm:=[(0,tP 1 0),(1,tI i.2.2),(5,tI (x1:Int)),(7,tI ((nI (Hd i.1 Z1))-(x2:Int))),(6,tX 3)],en:=[(1,.box [.ext 2,kI (Z2.2.i),kI (Z2.2.h)]),(2,.ro (.bytes i.1) []),(3,.own 24 [.int,.int] (AA Z2.1))] }) (λ x2=>x2<=Hd i.1 Z1) (λ x2=>Hd i.1 Z1-x2) (λ _=>[]))]))]) ?_
 rintro ⟨b,c,z⟩ hpre
 have hpre:Aj b c/\0<=z/\z<=1000:=hpre
 refine AH (q:=let Z7:=drP b z c;let Z5:=cI (wR ((wR ((2:Int)*z))+(1:Int)));let Z3:=(.bytes b:RO)=.bytes b;(∃ x1:Nat,let Z12:=atC b z c x1;(x1<=8/\drF b z (8-x1) Z12=drP b z c)/\((rf (vI z))/\(vI (0:Int)=vI (x1:Int))/\(vI c.i=vI (Z12.i))/\(vI c.h=vI (Z12.h))/\Z3))/\∀ x1:Nat,let Z1:=atC b z c x1;let Z6:=nI (Hd b Z1);let Z4:=blC b Z1 3;(x1<=8/\drF b z (8-x1) Z1=drP b z c)->(ifB ((decide ((x1:Int)<(8:Int)))) (∃ i1:(List UInt8)×Cur×Int,let Z13:=blC i1.1 i1.2.1 i1.2.2;[DA.one (cI (3:Int))]=AR.args i1/\[PC.bt b,PC.im (vI (Z1.i)),PC.im (vI (Z1.h))]=BL i1/\AR.pre i1/\((∃ x2:Nat,let Z10:=ptN b z Z4 x2;(x2<=Hd b Z1)/\((rf (vI z))/\(rf (vI (x1:Int)))/\(vI (wR ((3:Int)+(blV i1.1 i1.2.1 i1.2.2)))=vI (Z6-(x2:Int)))/\(vI (Z13.i)=vI (Z10.2.i))/\(vI (Z13.h)=vI (Z10.2.h))/\Z3/\(([]:List (List Dat))=(AA Z10.1))))/\∀ x2:Nat,let Z2:=ptN b z Z4 x2;(x2<=Hd b Z1)->(ifB ((decide ((Z6-(x2:Int))>(0:Int)))) (∃ i2:(List UInt8)×Cur×Int,let Z14:=blC i2.1 i2.2.1 i2.2.2;let Z8:=wR ((blV i2.1 i2.2.1 i2.2.2)-z);[DA.one Z5]=AR.args i2/\[PC.bt b,PC.im (vI (Z2.2.i)),PC.im (vI (Z2.2.h))]=BL i2/\AR.pre i2/\(∃ i3:(List UInt8)×Cur×Int,let Z15:=blC i3.1 i3.2.1 i3.2.2;let Z9:=wR ((blV i3.1 i3.2.1 i3.2.2)-z);[DA.one Z5]=AR.args i3/\[PC.bt b,PC.im (vI (Z14.i)),PC.im (vI (Z14.h))]=BL i3/\AR.pre i3/\(((AA Z2.1).length+([[Dat.int Z8,Dat.int Z9]]:List (List Dat)).length<=2199023255552)/\(∃ y3:Nat,let Z11:=ptN b z Z4 y3;(y3<=Hd b Z1)/\(Hd b Z1-y3<Hd b Z1-x2)/\((rf (vI z))/\(rf (vI (x1:Int)))/\(vI (wR ((Z6-(x2:Int))-(1:Int)))=vI (Z6-(y3:Int)))/\(vI (Z15.i)=vI (Z11.2.i))/\(vI (Z15.h)=vI (Z11.2.h))/\Z3/\(((AA Z2.1)++([[Dat.int Z8,Dat.int Z9]]:List (List Dat)))=(AA Z11.1))))))) (∃ i4:(List V2),[DA.one (DC.sl 24 [.int,.int] (AA Z2.1))]=Ij.args i4/\Ij.pre i4/\(∃ i5:(List V2),[DA.one (DC.sl 24 [.int,.int] (AA (Bw i4)))]=Fh.args i5/\Fh.pre i5/\(ifB ((AJ i5)) ((AA (Bw i4)=AA Z7.1)/\(vI (Z2.2.i)=vI ((Z7.2).i))/\(vI (Z2.2.h)=vI ((Z7.2).h))) (∃ y4:Nat,let Z16:=atC b z c y4;(y4<=8/\drF b z (8-y4) Z16=drP b z c)/\(8-y4<8-x1)/\((rf (vI z))/\(vI (wR ((x1:Int)+(1:Int)))=vI (y4:Int))/\(vI (Z2.2.i)=vI (Z16.i))/\(vI (Z2.2.h)=vI (Z16.h))/\Z3)))))))) ((([[Dat.int (-1:Int),Dat.int (-1:Int)],[Dat.int (1:Int),Dat.int (-1:Int)],[Dat.int (0:Int),Dat.int (1:Int)]]:List (List Dat))=AA Z7.1)/\(vI (Z1.i)=vI ((Z7.2).i))/\(vI (Z1.h)=vI ((Z7.2).h))))) (by kernel_rfl) ?_
 conv=>zeta
 delta ifB vI wR nI
 obtain ⟨hc,hz0,hz1⟩:=hpre
 have hw:IntKind.i64.wrap (IntKind.i64.wrap (2*z)+1)=2*z+1:=by rw [AB (x:=2*z) (by omega) (by omega),AB (by omega) (by omega)]
 refine ⟨⟨0,by
  exact ⟨Nat.zero_le _,rfl⟩,?_⟩,?_⟩
 ·refine ⟨rfl,rfl,?_,?_,?_⟩
  ·rfl
  ·rfl
  rfl
 intro (k:Nat) hki1
 have hki1:k<=8/\drF b z (8-k) (atC b z c k)=drP b z c:=hki1
 refine And.symm ⟨λ c8=>?_,λ c8=>?_⟩
 ·try simp only [nrm] at c8
  have hr:drP b z c=([(-1,-1),(1,-1),(0,1)],atC b z c k):=by rw [← hki1.2,show 8-k=0 by omega];rfl
  refine ⟨?_,?_,?_⟩
  ·first|(rw [hr];done)|(rw [hr];rfl)|(rw [hr,hpt];done)
  ·first|(rw [hr];done)|(rw [hr];rfl)|(rw [hr,hpt];done)
  first|(rw [hr];done)|(rw [hr];rfl)|(rw [hr,hpt];done)
 try simp only [nrm] at c8
 have hcr:=Sr b (atC b z c k)
 refine ⟨(b,(atC b z c k),(3:Int)),by
  rfl,rfl,by
  show Aj b (atC b z c k)
  first|exact DH z hc k|exact (Ee z (A4 3 (DH z hc k)) j)|exact A4 _ (Ee z (A4 3 (DH z hc k)) j)|(rw [Fm];omega)|trivial,?_⟩
 refine ⟨⟨0,by
  first|omega|trivial,?_⟩,?_⟩
 ·refine ⟨rfl,rfl,?_,?_,?_,?_,?_⟩
  ·show Value.int .i64 (IntKind.i64.wrap ((3:Int)+(blV b (atC b z c k) (3:Int))))=Value.int .i64 ((((Hd b (atC b z c k)):Nat):Int)-(0:Int))
   first|rfl|exact Aa (by rw [AB (by omega) (by omega)];omega)
  ·show Value.int .i64 ((blC b (atC b z c k) (3:Int)).i)=Value.int .i64 ((ptN b z (blC b (atC b z c k) 3) 0).2.i)
   first|rfl|exact Aa (by rw [AB (by omega) (by omega)];omega)
  ·show Value.int .i64 ((blC b (atC b z c k) (3:Int)).h)=Value.int .i64 ((ptN b z (blC b (atC b z c k) 3) 0).2.h)
   first|rfl|exact Aa (by rw [AB (by omega) (by omega)];omega)
  ·first|rfl|exact Aa (by rw [AB (by omega) (by omega)];omega)
  first|rfl|exact Aa (by rw [AB (by omega) (by omega)];omega)
 intro (j:Nat) hki12
 have hki12:j<=Hd b (atC b z c k):=hki12
 refine ⟨λ c21=>?_,λ c21=>?_⟩
 ·try simp only [nrm] at c21
  have q1:=BG b (ptN b z (blC b (atC b z c k) 3) j).2 (n:=2*z+1) (by omega)
  have q2:=BG b (blC b (ptN b z (blC b (atC b z c k) 3) j).2 (2*z+1)) (n:=2*z+1) (by omega)
  refine ⟨(b,(ptN b z (blC b (atC b z c k) 3) j).2,(2*z+1)),by
   exact congrArg (λ x=>[DA.one (DC.im (Value.int .i64 x))]) hw,rfl,by
   show Aj b ((ptN b z (blC b (atC b z c k) 3) j).2)
   first|exact DH z hc k|exact (Ee z (A4 3 (DH z hc k)) j)|exact A4 _ (Ee z (A4 3 (DH z hc k)) j)|(rw [Fm];omega)|trivial,?_⟩
  refine ⟨(b,(blC b (ptN b z (blC b (atC b z c k) 3) j).2 (2*z+1)),(2*z+1)),by
   exact congrArg (λ x=>[DA.one (DC.im (Value.int .i64 x))]) hw,rfl,by
   show Aj b (blC b (ptN b z (blC b (atC b z c k) 3) j).2 (2*z+1))
   first|exact DH z hc k|exact (Ee z (A4 3 (DH z hc k)) j)|exact A4 _ (Ee z (A4 3 (DH z hc k)) j)|(rw [Fm];omega)|trivial,?_⟩
  refine ao (a:=(AA (ptN b z (blC b (atC b z c k) 3) j).1).length+([[Dat.int (IntKind.i64.wrap ((blV b ((ptN b z (blC b (atC b z c k) 3) j).2) (2*z+1))-z)),Dat.int (IntKind.i64.wrap ((blV b (blC b (ptN b z (blC b (atC b z c k) 3) j).2 (2*z+1)) (2*z+1))-z))]]:List (List Dat)).length<=2199023255552) (by first|rfl|omega|(rw [AC,Fm];simp only [List.length_cons,List.length_nil];omega)) λ o28=>?_
  refine ⟨j+1,by
   first|omega|trivial,by
   first|omega|(simp;omega),?_⟩
  refine ⟨rfl,rfl,?_,?_,?_,?_,?_⟩
  ·first|rfl|exact Aa (by rw [AB (by omega) (by omega)];omega)
  ·show Value.int .i64 ((blC b (blC b (ptN b z (blC b (atC b z c k) 3) j).2 (2*z+1)) (2*z+1)).i)=Value.int .i64 ((ptN b z (blC b (atC b z c k) 3) (j+1)).2.i)
   first|rfl|exact Aa (by rw [AB (by omega) (by omega)];omega)
  ·show Value.int .i64 ((blC b (blC b (ptN b z (blC b (atC b z c k) 3) j).2 (2*z+1)) (2*z+1)).h)=Value.int .i64 ((ptN b z (blC b (atC b z c k) 3) (j+1)).2.h)
   first|rfl|exact Aa (by rw [AB (by omega) (by omega)];omega)
  ·first|rfl|exact Aa (by rw [AB (by omega) (by omega)];omega)
  show ((AA (ptN b z (blC b (atC b z c k) 3) j).1)++([[Dat.int (IntKind.i64.wrap ((blV b ((ptN b z (blC b (atC b z c k) 3) j).2) (2*z+1))-z)),Dat.int (IntKind.i64.wrap ((blV b (blC b (ptN b z (blC b (atC b z c k) 3) j).2 (2*z+1)) (2*z+1))-z))]]:List (List Dat)))=(AA (ptN b z (blC b (atC b z c k) 3) (j+1)).1)
  rw [AB (by omega) (by omega),AB (by omega) (by omega)];exact JO _ _ _
 try simp only [nrm] at c21
 have hj:Hd b (atC b z c k)=j:=by omega
 have hpt:ptN b z (blC b (atC b z c k) 3) j=att b z (atC b z c k):=by unfold att;rw [hj]
 refine ⟨(ptN b z (blC b (atC b z c k) 3) j).1,by
  rfl,by
  show ((ptN b z (blC b (atC b z c k) 3) j).1).length<=1048576
  first|exact DH z hc k|exact (Ee z (A4 3 (DH z hc k)) j)|exact A4 _ (Ee z (A4 3 (DH z hc k)) j)|(rw [Fm];omega)|trivial,?_⟩
 refine ⟨(Bw ((ptN b z (blC b (atC b z c k) 3) j).1)),by
  rfl,by
  first|exact DH z hc k|exact (Ee z (A4 3 (DH z hc k)) j)|exact A4 _ (Ee z (A4 3 (DH z hc k)) j)|(rw [Fm];omega)|trivial,?_⟩
 refine ⟨λ c45=>?_,λ c45=>?_⟩
 ·try simp only [nrm] at c45
  rw [hpt] at c45
  have hr:drP b z c=(Bw (att b z (atC b z c k)).1,(att b z (atC b z c k)).2):=by rw [← hki1.2,show 8-k=(7-k)+1 by omega];exact if_pos c45
  refine ⟨?_,?_,?_⟩
  ·first|(rw [hr];done)|(rw [hr];rfl)|(rw [hr,hpt];done)
  ·first|(rw [hr];done)|(rw [hr];rfl)|(rw [hr,hpt];done)
  first|(rw [hr];done)|(rw [hr];rfl)|(rw [hr,hpt];done)
 try simp only [nrm] at c45
 rw [hpt] at c45
 have hr:drF b z (8-(k+1)) (atC b z c (k+1))=drP b z c:=by rw [← hki1.2,show 8-k=(8-(k+1))+1 by omega];exact (if_neg (by rw [c45];simp)).symm
 refine ⟨k+1,by
  exact ⟨by omega,hr⟩,by
  first|omega|(simp;omega),?_⟩
 refine ⟨rfl,?_,?_,?_,?_⟩
 ·first|exact Aa (AB (by omega) (by omega))|rfl|(rw [hpt];rfl)
 ·first|exact Aa (AB (by omega) (by omega))|rfl|(rw [hpt];rfl)
 ·first|exact Aa (AB (by omega) (by omega))|rfl|(rw [hpt];rfl)
 first|exact Aa (AB (by omega) (by omega))|rfl|(rw [hpt];rfl)
end Go.Proofs.YtkffpiaagjcmpaaGreat
namespace Go.Proofs.YtkffpiaagjcmpaaGreat
set_option linter.unusedVariables false
set_option linter.unusedSimpArgs false
open Go.RowKit
def DB:Con:={ ι:=(List V2)×Int×Int,pre:=λ i=>i.1.length<=1048576/\i.1.all AF=true,args:=λ i=>[.one (DC.sl 24 [.int,.int] (AA i.1)),DA.agg [cI i.2.1,cI i.2.2]],res:=λ i=>⟨false,[none],[.own 24 [.int,.int] (AA (Dt i.1 i.2.1 i.2.2))]⟩ }
set_option maxRecDepth 100000 in
theorem ME:DB.Ok Tryz.prog 71:=by
 refine fok (X:=⟨tt,[(126,Bv)],[],52,[]⟩) mixed AI (CTok.cons PX (CTok.nil _)) Tryz.func71 (λ (i:(List V2)×Int×Int)=>[(5,.mk 4 (Nat) (λ x1=>{ tm:=[(3,tP 1 0),(12,tX 2),(13,tI (nI ((AA i.1).length))),(14,tI (x1:Int)),(5,tX 3)],en:=[(1,.box [kI i.2.1,kI i.2.2]),(2,.view 24 [.int,.int] (AA i.1) []),(3,.own 24 [.int,.int] (AA (Cn (i.1.take x1) i.2.1 i.2.2)))] }) (λ x1=>x1<=i.1.length/\(Cn (i.1.take x1) i.2.1 i.2.2).all AF=true) (λ x1=>i.1.length-x1) (λ _=>[]))]) ?_
 rintro ⟨l,dx,dy⟩ hpre
 have hpre:l.length<=1048576/\l.all AF=true:=hpre
 refine AH (q:=let Z6:=nI ((AA l).length);let Z2:=(([]:List (List Dat))=AA (Dt l dx dy));∃ i1:Int×Int,[DA.agg [cI dx,cI dy]]=Bv.args i1/\Bv.pre i1/\(ifB ((!(AF (i1.1,i1.2)))) Z2 ((∃ x1:Nat,let Z7:=Cn (l.take x1) dx dy;(x1<=l.length/\Z7.all AF=true)/\((rf (vI Z6))/\(vI (0:Int)=vI (x1:Int))/\(rf (vI dx))/\(rf (vI dy))/\(rf (AA l))/\(([]:List (List Dat))=(AA Z7))))/\∀ x1:Nat,let Z3:=Cn (l.take x1) dx dy;let Z1:=(AA l).getD x1 [];let Z5:=wR (((Z1.getD 1 (.int 0))).n+dy);let Z4:=wR (((Z1.getD 0 (.int 0))).n+dx);(x1<=l.length/\Z3.all AF=true)->(ifB ((decide ((x1:Int)<Z6))) ((0<=(x1:Int)/\(x1:Int)<((AA l).length:Int))/\((x1<(AA l).length)/\(∃ i2:Int×Int,[DA.agg [cI (((Z1.getD 0 (.int 0))).n),cI (((Z1.getD 1 (.int 0))).n)]]=Bv.args i2/\Bv.pre i2/\(ifB ((!(!(AF (i2.1,i2.2))))) (∃ i3:Int×Int,[DA.agg [cI Z4,cI Z5]]=Bv.args i3/\Bv.pre i3/\(ifB ((!(AF (i3.1,i3.2)))) Z2 (((AA Z3).length+([[Dat.int Z4,Dat.int Z5]]:List (List Dat)).length<=2199023255552)/\(∃ y2:Nat,let Z8:=Cn (l.take y2) dx dy;(y2<=l.length/\Z8.all AF=true)/\(l.length-y2<l.length-x1)/\((rf (vI Z6))/\(vI (wR ((x1:Int)+(1:Int)))=vI (y2:Int))/\(rf (vI dx))/\(rf (vI dy))/\(rf (AA l))/\(((AA Z3)++([[Dat.int Z4,Dat.int Z5]]:List (List Dat)))=(AA Z8))))))) Z2)))) (((AA Z3)=AA (Dt l dx dy))))))) (by kernel_rfl) ?_
 conv=>zeta
 delta ifB vI wR nI
 have hvl:=AC l
 refine ⟨(dx,dy),by
  rfl,by
  first|trivial|(first|omega|assumption|exact hpre.1|exact hpre.2|(simp;done)),?_⟩
 refine ⟨λ c4=>?_,λ c4=>?_⟩
 ·try simp only [nrm] at c4
  first|(rw [E4 (.inl c4)];rfl)|(rw [E4 (.inr (Nl (k:=k) (by omega) c24))];rfl)|rw [hkl,List.take_length,Gx c4 hki6.2]
 try simp only [nrm] at c4
 refine ⟨⟨0,by
  first|exact ⟨Nat.zero_le _,rfl⟩|exact ⟨by omega,by rw [LA (by omega),List.all_append,hki6.2];simp only [Bool.true_and,List.all_cons,List.all_nil,Bool.and_true];exact c24⟩|omega,?_⟩,?_⟩
 ·refine ⟨rfl,rfl,rfl,rfl,rfl,?_⟩
  first|rfl|(rw [AC])
 intro (k:Nat) hki6
 have hki6:k<=l.length/\(Cn (l.take k) dx dy).all AF=true:=hki6
 have hml:(AA (Cn (l.take k) dx dy)).length=k:=by rw [AC,Du,List.length_take];omega
 refine And.symm ⟨λ c14=>?_,λ c14=>?_⟩
 ·try simp only [nrm] at c14
  have hkl:k=l.length:=by omega
  rw [hkl,List.take_length] at hki6
  first|(rw [E4 (.inl c4)];rfl)|(rw [E4 (.inr (Nl (k:=k) (by omega) c24))];rfl)|rw [hkl,List.take_length,Gx c4 hki6.2]
 try simp only [nrm] at c14
 refine ao (by first|rfl|omega|(rw [AC];omega)|(rw [AC];exact_mod_cast (by omega))|(simp [AC,Du];omega)) λ o15=>?_
 refine ao (by first|rfl|omega|(rw [AC];omega)|(rw [AC];exact_mod_cast (by omega))|(simp [AC,Du];omega)) λ o16=>?_
 refine ⟨(((((AA l).getD k []).getD 0 (.int 0))).n,((((AA l).getD k []).getD 1 (.int 0))).n),by
  rfl,by
  first|trivial|(first|omega|assumption|exact hpre.1|exact hpre.2|(simp;done)),?_⟩
 refine And.symm ⟨λ c20=>?_,λ c20=>?_⟩
 ·try simp only [nrm] at c20
  rw [BD (by omega),BE (by omega)] at c20
  have q:=A3 hpre.2 (show k<l.length by omega)
  have q:AF ((l.getD k (0,0)).1,(l.getD k (0,0)).2)=true:=q
  rw [q] at c20
  exact absurd c20 (by simp) -- done
 try simp only [nrm] at c20
 refine ⟨((IntKind.i64.wrap (((((AA l).getD k []).getD 0 (.int 0))).n+dx)),(IntKind.i64.wrap (((((AA l).getD k []).getD 1 (.int 0))).n+dy))),by
  rfl,by
  first|trivial|(first|omega|assumption|exact hpre.1|exact hpre.2|(simp;done)),?_⟩
 refine ⟨λ c24=>?_,λ c24=>?_⟩
 ·try simp only [nrm] at c24
  rw [BD (by omega),BE (by omega)] at c24
  first|(rw [E4 (.inl c4)];rfl)|(rw [E4 (.inr (Nl (k:=k) (by omega) c24))];rfl)|rw [hkl,List.take_length,Gx c4 hki6.2]
 try simp only [nrm] at c24
 rw [BD (by omega),BE (by omega)] at c24
 refine ao (by first|rfl|omega|(rw [AC];omega)|(rw [AC];exact_mod_cast (by omega))|(simp [AC,Du];omega)) λ o26=>?_
 refine ⟨k+1,by
  first|exact ⟨Nat.zero_le _,rfl⟩|exact ⟨by omega,by rw [LA (by omega),List.all_append,hki6.2];simp only [Bool.true_and,List.all_cons,List.all_nil,Bool.and_true];exact c24⟩|omega,by
  first|omega|(simp;omega),?_⟩
 refine ⟨rfl,?_,rfl,rfl,rfl,?_⟩
 ·first|rfl|exact Aa (AB (by omega) (by omega))|exact LB (by omega)
 first|rfl|exact Aa (AB (by omega) (by omega))|exact LB (by omega)
end Go.Proofs.YtkffpiaagjcmpaaGreat
namespace Go.Proofs.YtkffpiaagjcmpaaGreat
set_option maxRecDepth 100000
set_option linter.unusedVariables false
set_option linter.unusedSimpArgs false
open Go.RowKit
def ADd (b:List UInt8) (k:Nat) (h:Int):Int:=OM .i64 (IntKind.i64.wrap (IntKind.i64.wrap (IntKind.i64.wrap (h*61)+IntKind.i64.wrap (((b.getD k 0).toNat:Nat):Int))+7)) 1073741823
def FQ (b:List UInt8):Nat->Int
 | 0=>1952+(b.length:Int)
 | k+1=>ADd b k (FQ b k)
def BM (b:List UInt8):Cur:=⟨0,FQ b (min b.length 4000)⟩
def Ap (b:List UInt8):Nat->Cur
 | 0=>BM b
 | k+1=>byC b (Ap b k)
theorem LP {b:List UInt8} (h:b.length<=1048576):Aj b (BM b):=⟨h,Int.le_refl _,by show (0:Int)<=_;omega⟩
theorem Cw {b:List UInt8} (h:b.length<=1048576):∀ k,Aj b (Ap b k)
 | 0=>LP h
 | k+1=>G5 (Cw h k)
def Su:(List UInt8)->List PC:=λ i=>[.bt i,.im (.int .i64 ((BM i).i)),.im (.int .i64 ((BM i).h))]
def EG:Con:={ ι:=(List UInt8),pre:=λ i=>i.length<=1048576,args:=λ i=>[.one (.ro (.bytes i))],newp:=some Su,res:=λ i=>⟨false,[],[]⟩ }
theorem Sv:EG.OkN Tryz.prog 31 Su:=by
 refine ADZ (X:=⟨tt,[],[4000001],32,[]⟩) mixed AI (CTok.nil _) Tryz.func31 (λ (i:(List UInt8))=>[(3,.mk 2 (Nat) (λ x1=>{ tm:=[(0,tX 1),(3,tI (FQ i x1)),(4,tI (x1:Int))],en:=[(1,.ro (.bytes i) [])] }) (λ x1=>x1<=i.length/\x1<=4000) (λ x1=>4000-x1) (λ _=>[]))]) ?_
 intro (b:List UInt8) hpre
 have hpre:b.length<=1048576:=hpre
 refine AH (q:=let Z2:=(.bytes b:RO)=.bytes b;(∃ x1:Nat,(x1<=b.length/\x1<=4000)/\((vI (wR ((1952:Int)+(nI b.length)))=vI (FQ b x1))/\(vI (0:Int)=vI (x1:Int))/\Z2))/\∀ x1:Nat,let Z1:=(vI (0:Int)=vI ((BM b).i))/\(vI (FQ b x1)=vI ((BM b).h));(x1<=b.length/\x1<=4000)->(ifB ((decide ((x1:Int)<(nI b.length)))) (ifB ((decide ((x1:Int)<(4000:Int)))) ((0<=(x1:Int)/\(x1:Int)<(b.length:Int))/\((x1<b.length)/\(∃ y2:Nat,(y2<=b.length/\y2<=4000)/\(4000-y2<4000-x1)/\((vI (OM .i64 (wR ((wR ((wR ((FQ b x1)*(61:Int)))+(wR (nI ((b.getD x1 0).toNat)))))+(7:Int))) (1073741823:Int))=vI (FQ b y2))/\(vI (wR ((x1:Int)+(1:Int)))=vI (y2:Int))/\Z2)))) Z1) Z1)) (by kernel_rfl) ?_
 conv=>zeta
 delta ifB vI wR nI
 refine ⟨⟨0,by
  first|omega|trivial,?_⟩,?_⟩
 ·refine ⟨?_,rfl,?_⟩
  ·exact Aa (AB (by omega) (by omega))
  first|rfl|exact Aa (AB (by omega) (by omega))
 intro (k:Nat) hki1
 have hki1:k<=b.length/\k<=4000:=hki1
 refine And.symm ⟨λ c6=>?_,λ c6=>?_⟩
 ·try simp only [nrm] at c6
  refine ⟨?_,?_⟩
  ·first|rfl|exact Aa (by show FQ b k=FQ b (min b.length 4000);rw [show min b.length 4000=k by omega])
  first|rfl|exact Aa (by show FQ b k=FQ b (min b.length 4000);rw [show min b.length 4000=k by omega])
 try simp only [nrm] at c6
 refine And.symm ⟨λ c7=>?_,λ c7=>?_⟩
 ·try simp only [nrm] at c7
  refine ⟨?_,?_⟩
  ·first|rfl|exact Aa (by show FQ b k=FQ b (min b.length 4000);rw [show min b.length 4000=k by omega])
  first|rfl|exact Aa (by show FQ b k=FQ b (min b.length 4000);rw [show min b.length 4000=k by omega])
 try simp only [nrm] at c7
 refine ao (by first|rfl|omega|(simp;done)|(simp;omega)) λ o8=>?_
 refine ao (by first|rfl|omega|(simp;done)|(simp;omega)) λ o9=>?_
 refine ⟨k+1,by
  first|omega|trivial,by
  first|omega|(simp;omega),?_⟩
 refine ⟨?_,?_,?_⟩
 ·first|rfl|exact Aa (AB (by omega) (by omega))
 ·first|rfl|exact Aa (AB (by omega) (by omega))
 first|rfl|exact Aa (AB (by omega) (by omega))
def Sw:(List UInt8)×Nat->List PC:=λ i=>[.bt i.1,.im (.int .i64 ((Ap i.1 i.2).i)),.im (.int .i64 ((Ap i.1 i.2).h))]
def EH:Con:={ ι:=(List UInt8)×Nat,pre:=λ i=>i.1.length<=1048576/\i.2<=1000,args:=λ i=>[.one (.ro (.bytes i.1)),.one (cI (i.2:Int))],newp:=some Sw,res:=λ i=>⟨false,[],[]⟩ }
theorem Sx:EH.OkN Tryz.prog 32 Sw:=by
 refine ADZ (X:=⟨tt,[(31,EG),(33,BK)],[4000001],17,[]⟩) mixed AI (CTok.consN Sv (CTok.consP Qh (CTok.nil _))) Tryz.func32 (λ (i:(List UInt8)×Nat)=>[(3,.mk 3 (Nat) (λ x1=>{ tm:=[(0,tX 1),(1,tI (i.2:Int)),(5,tP 2 0),(6,tI (x1:Int))],en:=[(2,.box [.ext 1,kI ((Ap i.1 x1).i),kI ((Ap i.1 x1).h)]),(1,.ro (.bytes i.1) [])] }) (λ x1=>x1<=i.2) (λ x1=>i.2-x1) (λ _=>[]))]) ?_
 rintro ⟨b,n⟩ hpre
 have hpre:b.length<=1048576/\n<=1000:=hpre
 refine AH (q:=let Z2:=(.bytes b:RO)=.bytes b;∃ i1:(List UInt8),[DA.one (DC.ro (.bytes b))]=EG.args i1/\EG.pre i1/\((∃ x1:Nat,(x1<=n)/\((rf (vI (n:Int)))/\(vI (0:Int)=vI (x1:Int))/\(vI ((BM i1).i)=vI ((Ap b x1).i))/\(vI ((BM i1).h)=vI ((Ap b x1).h))/\Z2))/\∀ x1:Nat,let Z1:=Ap b x1;(x1<=n)->(ifB ((decide ((x1:Int)<(n:Int)))) (∃ i2:(List UInt8)×Cur,[]=BK.args i2/\[PC.bt b,PC.im (vI (Z1.i)),PC.im (vI (Z1.h))]=EM i2/\BK.pre i2/\(∃ y2:Nat,(y2<=n)/\(n-y2<n-x1)/\((rf (vI (n:Int)))/\(vI (wR ((x1:Int)+(1:Int)))=vI (y2:Int))/\(vI ((byC i2.1 i2.2).i)=vI ((Ap b y2).i))/\(vI ((byC i2.1 i2.2).h)=vI ((Ap b y2).h))/\Z2))) ((vI (Z1.i)=vI ((Ap b n).i))/\(vI (Z1.h)=vI ((Ap b n).h)))))) (by kernel_rfl) ?_
 conv=>zeta
 delta ifB vI wR
 refine ⟨b,by
  rfl,by
  show b.length<=1048576
  first|exact hpre.1|exact Cw hpre.1 k,?_⟩
 refine ⟨⟨0,by
  first|omega|trivial,?_⟩,?_⟩
 ·refine ⟨rfl,rfl,?_,?_,?_⟩
  ·first|rfl|exact Aa (AB (by omega) (by omega))
  ·first|rfl|exact Aa (AB (by omega) (by omega))
  first|rfl|exact Aa (AB (by omega) (by omega))
 intro (k:Nat) hki4
 have hki4:k<=n:=hki4
 refine And.symm ⟨λ c11=>?_,λ c11=>?_⟩
 ·try simp only [nrm] at c11
  refine ⟨?_,?_⟩
  ·first|rfl|(rw [show n=k by omega])
  first|rfl|(rw [show n=k by omega])
 try simp only [nrm] at c11
 refine ⟨(b,(Ap b k)),by
  rfl,rfl,by
  show Aj b (Ap b k)
  first|exact hpre.1|exact Cw hpre.1 k,?_⟩
 refine ⟨k+1,by
  first|omega|trivial,by
  first|omega|(simp;omega),?_⟩
 refine ⟨rfl,?_,?_,?_,?_⟩
 ·first|rfl|exact Aa (AB (by omega) (by omega))
 ·show Value.int .i64 ((byC b (Ap b k)).i)=Value.int .i64 ((Ap b (k+1)).i)
  first|rfl|exact Aa (AB (by omega) (by omega))
 ·show Value.int .i64 ((byC b (Ap b k)).h)=Value.int .i64 ((Ap b (k+1)).h)
  first|rfl|exact Aa (AB (by omega) (by omega))
 first|rfl|exact Aa (AB (by omega) (by omega))
def MZ:(List UInt8)×Cur×Int->List PC:=λ i=>[.bt i.1,.im (.int .i64 i.2.1.i),.im (.int .i64 i.2.1.h)]
def V3:(List UInt8)×Cur×Int->List PC:=λ i=>[.bt i.1,.im (.int .i64 ((blC i.1 i.2.1 i.2.2).i)),.im (.int .i64 ((blC i.1 i.2.1 i.2.2).h))]
def FR:Con:={ ι:=(List UInt8)×Cur×Int,pre:=λ i=>Aj i.1 i.2.1,args:=λ i=>[.one (cI i.2.2)],ptr:=some (MZ,V3),res:=λ i=>⟨false,[none],[rcB (decide (blV i.1 i.2.1 i.2.2=0))]⟩ }
theorem V4:FR.OkP Tryz.prog 72 MZ V3:=by
 refine XL (X:=⟨tt,[(69,AR)],[4000000],9,[]⟩) mixed AI (CTok.consP J8 (CTok.nil _)) Tryz.func72 (λ _=>[]) ?_
 rintro ⟨b,c,n⟩ hpre
 have hpre:Aj b c:=hpre
 refine AH (q:=∃ i1:(List UInt8)×Cur×Int,let Z1:=blC i1.1 i1.2.1 i1.2.2;[DA.one (cI n)]=AR.args i1/\[PC.bt b,PC.im (vI c.i),PC.im (vI c.h)]=BL i1/\AR.pre i1/\((vB ((blV i1.1 i1.2.1 i1.2.2) == (0:Int))=vB (decide (blV b c n=0)))/\(vI (Z1.i)=vI ((blC b c n).i))/\(vI (Z1.h)=vI ((blC b c n).h)))) (by kernel_rfl) ?_
 conv=>zeta
 delta vB vI
 refine ⟨(b,c,n),by
  rfl,rfl,by
  exact hpre,?_⟩
 refine ⟨?_,rfl,rfl⟩
 show Value.bool ((blV b c n) == (0:Int))=Value.bool (decide (blV b c n=0))
 first|rfl|simp_all
def Qn (b:List UInt8) (n:Nat):Int:=byV b (Ap b n)*256+byV b (Ap b (n+1))
theorem Zv (b:List UInt8) (n:Nat):0<=Qn b n/\Qn b n<=65535:=by
 have:=DR b (Ap b n)
 have:=DR b (Ap b (n+1))
 unfold Qn;omega
def Il:Con:={ ι:=(List UInt8)×Nat,pre:=λ i=>i.1.length<=1048576/\i.2<=100,args:=λ i=>[.one (.ro (.bytes i.1)),.one (cI (i.2:Int))],res:=λ i=>⟨false,[none],[rcI (Qn i.1 i.2)]⟩ }
theorem Zw:Il.Ok Tryz.prog 7:=by
 refine fok (X:=⟨tt,[(32,EH),(33,BK)],[],15,[]⟩) mixed AI (CTok.consN Sx (CTok.consP Qh (CTok.nil _))) Tryz.func7 (λ _=>[]) ?_
 rintro ⟨b,n⟩ hpre
 have hpre:b.length<=1048576/\n<=100:=hpre
 refine AH (q:=∃ i1:(List UInt8)×Nat,[DA.one (DC.ro (.bytes b)),DA.one (cI (n:Int))]=EH.args i1/\EH.pre i1/\(∃ i2:(List UInt8)×Cur,[]=BK.args i2/\[PC.bt b,PC.im (vI ((Ap i1.1 i1.2).i)),PC.im (vI ((Ap i1.1 i1.2).h))]=EM i2/\BK.pre i2/\(∃ i3:(List UInt8)×Cur,[]=BK.args i3/\[PC.bt b,PC.im (vI ((byC i2.1 i2.2).i)),PC.im (vI ((byC i2.1 i2.2).h))]=EM i3/\BK.pre i3/\((vI (wR ((wR ((byV i2.1 i2.2)*(256:Int)))+(byV i3.1 i3.2)))=vI (Qn b n)))))) (by kernel_rfl) ?_
 delta vI wR
 have q1:=DR b (Ap b n)
 have q2:=DR b (Ap b (n+1))
 refine ⟨(b,n),by
  rfl,by
  show b.length<=1048576/\n<=1000
  first|exact ⟨hpre.1,by omega⟩|exact Cw hpre.1 n|exact Cw hpre.1 (n+1),?_⟩
 refine ⟨(b,(Ap b n)),by
  rfl,rfl,by
  show Aj b (Ap b n)
  first|exact ⟨hpre.1,by omega⟩|exact Cw hpre.1 n|exact Cw hpre.1 (n+1),?_⟩
 refine ⟨(b,(byC b (Ap b n))),by
  rfl,rfl,by
  show Aj b (byC b (Ap b n))
  first|exact ⟨hpre.1,by omega⟩|exact Cw hpre.1 n|exact Cw hpre.1 (n+1),?_⟩
 show Value.int .i64 (IntKind.i64.wrap ((IntKind.i64.wrap ((byV b (Ap b n))*(256:Int)))+(byV b (byC b (Ap b n)))))=Value.int .i64 (Qn b n)
 exact Aa (by rw [show byC b (Ap b n)=Ap b (n+1) from rfl,AB (x:=byV b (Ap b n)*256) (by omega) (by omega),AB (by omega) (by omega)];rfl)
theorem Qo {l:List V2} {dx dy:Int} (h:∀ x ∈ l,(-10<=x.1/\x.1<=10)/\-10<=x.2/\x.2<=10) (hx:-100<=dx/\dx<=100) (hy:-100<=dy/\dy<=100):l.all AF=true:=by
 rw [List.all_eq_true]
 intro x hm
 have:=h x hm
 show Cz 1000 x=true
 simp only [Cz,Bool.and_eq_true,BO]
 omega
def obS (b:List UInt8) (p:List (List V2)×Cur):List (List V2)×Cur:=
 let q:=drP b 4 p.2
 (p.1++[Dt q.1 (4+blV b q.2 16) (3+blV b (blC b q.2 16) 12)],blC b (blC b q.2 16) 12)
def obN (b:List UInt8) (c:Cur):Nat->List (List V2)×Cur
 | 0=>([],c)
 | k+1=>obS b (obN b c k)
def ABa (x:Int):List V2:=[(x,-1),(x+2,-1),(x+2,40),(x,40)]
def wlV (b:List UInt8) (p:List (List V2)×Cur):List (List V2)×Cur:=
 if blV b p.2 6=0 then (p.1++[ABa (6+blV b (blC b p.2 6) 8)],blC b (blC b p.2 6) 8) else (p.1,blC b p.2 6)
def tbS (b:List UInt8) (p:List V2×Cur):List V2×Cur:=
 (p.1++[(3+blV b p.2 18,3+blV b (blC b p.2 18) 14)],blC b (blC b p.2 18) 14)
def tbN (b:List UInt8) (c:Cur):Nat->List V2×Cur
 | 0=>([],c)
 | k+1=>tbS b (tbN b c k)
def XW (b:List UInt8) (c:Cur):Cur:=blC b (blC b c 12) 10
def BW (b:List UInt8) (c:Cur):Cur:=(drP b 2 (XW b c)).2
def IA (b:List UInt8) (c:Cur):Nat:=(blV b (BW b c) 3).toNat
def He (b:List UInt8) (c:Cur):List (List V2)×Cur:=obN b (blC b (BW b c) 3) (IA b c)
def A6 (b:List UInt8) (c:Cur):List (List V2)×Cur:=wlV b (He b c)
def Ef (b:List UInt8) (c:Cur):Nat:=(blV b (A6 b c).2 3).toNat
def Sy (b:List UInt8) (c:Cur):List V2×Cur:=tbN b (blC b (A6 b c).2 3) (Ef b c)
def Dy (b:List UInt8) (c:Cur):Scn:=⟨(0,0),(14+blV b c 12,12+blV b (blC b c 12) 10),(drP b 2 (XW b c)).1,(A6 b c).1,(Sy b c).1⟩
theorem Im (b:List UInt8) (c:Cur):∀ k,(obN b c k).1.length=k
 | 0=>rfl
 | k+1=>by simp [obN,obS,Im b c k]
theorem In (b:List UInt8) (c:Cur):∀ k,(tbN b c k).1.length=k
 | 0=>rfl
 | k+1=>by simp [tbN,tbS,In b c k]
theorem Ma {b:List UInt8} {z:Int} {c:Cur} (h:Aj b c):Aj b (drP b z c).2:=V1 8 c h
theorem Qp {b:List UInt8} {c:Cur} (h:Aj b c):∀ k,Aj b (obN b c k).2
 | 0=>h
 | k+1=>A4 _ (A4 _ (Ma (Qp h k)))
theorem Qq {b:List UInt8} {c:Cur} (h:Aj b c):∀ k,Aj b (tbN b c k).2
 | 0=>h
 | k+1=>A4 _ (A4 _ (Qq h k))
theorem ABb {b:List UInt8} {p:List (List V2)×Cur} (h:Aj b p.2):Aj b (wlV b p).2:=by
 unfold wlV
 split
 ·exact A4 _ (A4 _ h)
 ·exact A4 _ h
theorem N7 (l:List (List V2)) (p:List V2):AK l++[[Dat.sl (AA p)]]=AK (l++[p]):=by simp [AK]
theorem ABc {b:List UInt8} {c:Cur} (k:Nat):(drP b 4 (obN b c k).2).1.all AF=true/\(drP b 4 (obN b c k).2).1.length<=1048576:=by
 have h:=Uq (b:=b) (z:=4) (by omega) (obN b c k).2
 refine ⟨Qo (dx:=0) (dy:=0) (λ x hx=>?_) (by omega) (by omega),by omega⟩
 have:=h.2.2 x hx;omega
theorem Mb (b:List UInt8) (c:Cur):((IA b c:Nat):Int)=blV b (BW b c) 3/\IA b c<=2:=by
 have:=BG b (BW b c) (n:=3) (by omega)
 unfold IA;omega
theorem G8 (b:List UInt8) (c:Cur):((Ef b c:Nat):Int)=blV b (A6 b c).2 3/\Ef b c<=2:=by
 have:=BG b (A6 b c).2 (n:=3) (by omega)
 unfold Ef;omega
theorem Sz {b:List UInt8} {c:Cur} (h:blV b (He b c).2 6=0):A6 b c=((He b c).1++[ABa (6+blV b (blC b (He b c).2 6) 8)],blC b (blC b (He b c).2 6) 8):=if_pos h
theorem V5 {b:List UInt8} {c:Cur} (h:¬ blV b (He b c).2 6=0):A6 b c=((He b c).1,blC b (He b c).2 6):=if_neg h
theorem S0 (b:List UInt8) (c:Cur) (k:Nat):obN b c (k+1)=((obN b c k).1++[Dt (drP b 4 (obN b c k).2).1 (4+blV b (drP b 4 (obN b c k).2).2 16) (3+blV b (blC b (drP b 4 (obN b c k).2).2 16) 12)],blC b (blC b (drP b 4 (obN b c k).2).2 16) 12):=rfl
theorem N8 (b:List UInt8) (c:Cur) (k:Nat):tbN b c (k+1)=((tbN b c k).1++[(3+blV b (tbN b c k).2 18,3+blV b (blC b (tbN b c k).2 18) 14)],blC b (blC b (tbN b c k).2 18) 14):=rfl
def Qr:(List UInt8)×Cur->List PC:=λ i=>[.bt i.1,.im (.int .i64 i.2.i),.im (.int .i64 i.2.h)]
def V6:(List UInt8)×Cur->List PC:=λ i=>[.bt i.1,.im (.int .i64 (((Sy i.1 i.2).2).i)),.im (.int .i64 (((Sy i.1 i.2).2).h))]
def KC:Con:={ ι:=(List UInt8)×Cur,pre:=λ i=>Aj i.1 i.2,args:=λ i=>[],ptr:=some (Qr,V6),res:=λ i=>⟨false,[some 7],[rcI 0,rcI 0,rcI ((Dy i.1 i.2).high.1),rcI ((Dy i.1 i.2).high.2),.own 24 [.int,.int] (AA (Dy i.1 i.2).robot),.own 25 [.sl 24 [.int,.int]] (AK (Dy i.1 i.2).obst),.own 24 [.int,.int] (AA (Dy i.1 i.2).tables)]⟩ }
set_option maxHeartbeats 1600000 in
theorem ABd:KC.OkP Tryz.prog 30 Qr V6:=by
 refine XL (X:=⟨tt,[(69,AR),(70,E5),(71,DB),(72,FR)],[17,4000000],80,[]⟩) mixed AI (CTok.consP J8 (CTok.consP Zu (CTok.cons ME (CTok.consP V4 (CTok.nil _))))) Tryz.func30 (λ (i:(List UInt8)×Cur)=>let Z6:=blC i.1 i.2 12;let Z5:=A6 i.1 i.2;let Z4:=AA (drP i.1 2 (XW i.1 i.2)).1;let Z1:=Value.slice none 0 0;[(100010,.mk 8 (Unit) (λ x3=>{ tm:=[(0,tP 1 0),(2,tP 3 0),(3,tP 4 0)],en:=[(1,.box [.ext 2,kI ((Z5.2).i),kI ((Z5.2).h)]),(3,.box [kI (0:Int),kI (0:Int),kI (0:Int),kI (0:Int),.im Z1,.im Z1,.im Z1]),(4,.box [kI (0:Int),kI (0:Int),kI (14+blV i.1 i.2 12),kI (12+blV i.1 Z6 10),.ext 5,.ext 6,.ext 7]),(2,.ro (.bytes i.1) []),(5,.own 24 [.int,.int] Z4),(6,.own 25 [.sl 24 [.int,.int]] (AK Z5.1)),(7,.own 24 [.int,.int] ([]:List (List Dat)))] }) (λ _=>True) (λ _=>0) (λ x3=>[(11,.mk 8 (Nat) (λ x4=>let Z2:=tbN i.1 (blC i.1 Z5.2 3) x4;{ tm:=[(0,tP 1 0),(2,tP 3 0),(3,tP 4 0),(7,tI ((nI (Ef i.1 i.2))-(x4:Int)))],en:=[(1,.box [.ext 2,kI ((Z2.2).i),kI ((Z2.2).h)]),(3,.box [kI (0:Int),kI (0:Int),kI (0:Int),kI (0:Int),.im Z1,.im Z1,.im Z1]),(4,.box [kI (0:Int),kI (0:Int),kI (14+blV i.1 i.2 12),kI (12+blV i.1 Z6 10),.ext 5,.ext 6,.ext 7]),(2,.ro (.bytes i.1) []),(5,.own 24 [.int,.int] Z4),(6,.own 25 [.sl 24 [.int,.int]] (AK Z5.1)),(7,.own 24 [.int,.int] (AA Z2.1))] }) (λ x4=>x4<=Ef i.1 i.2) (λ x4=>Ef i.1 i.2-x4) (λ _=>[]))])),(3,.mk 8 (Nat) (λ x1=>let Z3:=obN i.1 (blC i.1 (BW i.1 i.2) 3) x1;{ tm:=[(0,tP 1 0),(2,tP 3 0),(3,tP 4 0),(4,tI ((nI (IA i.1 i.2))-(x1:Int)))],en:=[(1,.box [.ext 2,kI ((Z3.2).i),kI ((Z3.2).h)]),(3,.box [kI (0:Int),kI (0:Int),kI (0:Int),kI (0:Int),.im Z1,.im Z1,.im Z1]),(4,.box [kI (0:Int),kI (0:Int),kI (14+blV i.1 i.2 12),kI (12+blV i.1 Z6 10),.ext 5,.ext 6,.ext 7]),(2,.ro (.bytes i.1) []),(5,.own 24 [.int,.int] Z4),(6,.own 25 [.sl 24 [.int,.int]] (AK Z3.1)),(7,.own 24 [.int,.int] ([]:List (List Dat)))] }) (λ x1=>x1<=IA i.1 i.2) (λ x1=>IA i.1 i.2-x1) (λ _=>[]))]) ?_
 rintro ⟨b,c⟩ hpre
 have hpre:Aj b c:=hpre
 refine AH (q:=let Z44:=cI (3:Int);let Z33:=(Sy b c).2;let Z31:=nI (IA b c);let Z21:=vI (0:Int)=vI 0;let Z19:=Dy b c;let Z30:=vI (14+blV b c 12)=vI (Z19.high.1);let Z22:=vI (12+blV b (blC b c 12) 10)=vI (Z19.high.2);let Z15:=(A6 b c).2;let Z14:=nI (Ef b c);let Z13:=List Dat;let Z12:=blC b (BW b c) 3;let Z11:=vI (14+blV b c 12);let Z10:=List UInt8;let Z9:=AK (A6 b c).1;let Z8:=(.bytes b:RO)=.bytes b;let Z7:=vI (12+blV b (blC b c 12) 10);let Z5:=AA (drP b 2 (XW b c)).1;let Z3:=Value.slice none 0 0;let Z2:=blC b (A6 b c).2 3;let Z1:=vI (0:Int);∃ i1:Z10×Cur×Int,let Z42:=blC i1.1 i1.2.1 i1.2.2;[DA.one (cI (12:Int))]=AR.args i1/\[PC.bt b,PC.im (vI c.i),PC.im (vI c.h)]=BL i1/\AR.pre i1/\(∃ i2:Z10×Cur×Int,let Z43:=blC i2.1 i2.2.1 i2.2.2;[DA.one (cI (10:Int))]=AR.args i2/\[PC.bt b,PC.im (vI (Z42.i)),PC.im (vI (Z42.h))]=BL i2/\AR.pre i2/\(∃ i3:Z10×Cur×Int,let Z27:=drP i3.1 i3.2.2 i3.2.1;[DA.one (cI (2:Int))]=E5.args i3/\[PC.bt b,PC.im (vI (Z43.i)),PC.im (vI (Z43.h))]=KB i3/\E5.pre i3/\(∃ i4:Z10×Cur×Int,let Z45:=blC i4.1 i4.2.1 i4.2.2;[DA.one Z44]=AR.args i4/\[PC.bt b,PC.im (vI ((Z27.2).i)),PC.im (vI ((Z27.2).h))]=BL i4/\AR.pre i4/\((∃ x1:Nat,let Z46:=obN b Z12 x1;(x1<=IA b c)/\((vI (blV i4.1 i4.2.1 i4.2.2)=vI (Z31-(x1:Int)))/\(vI (Z45.i)=vI ((Z46.2).i))/\(vI (Z45.h)=vI ((Z46.2).h))/\(rf Z1)/\(rf Z1)/\(rf Z1)/\(rf Z1)/\(rf Z3)/\(rf Z3)/\(rf Z3)/\(rf Z1)/\(rf Z1)/\(vI (wR ((14:Int)+(blV i1.1 i1.2.1 i1.2.2)))=vI (14+blV b c 12))/\(vI (wR ((12:Int)+(blV i2.1 i2.2.1 i2.2.2)))=vI (12+blV b (blC b c 12) 10))/\Z8/\(AA Z27.1=Z5)/\(([]:List Z13)=(AK Z46.1))/\(rf ([]:List Z13))))/\∀ x1:Nat,let Z6:=obN b Z12 x1;let Z29:=AK Z6.1;(x1<=IA b c)->(ifB ((decide ((Z31-(x1:Int))>(0:Int)))) (∃ i5:Z10×Cur×Int,let Z28:=drP i5.1 i5.2.2 i5.2.1;[DA.one (cI (4:Int))]=E5.args i5/\[PC.bt b,PC.im (vI ((Z6.2).i)),PC.im (vI ((Z6.2).h))]=KB i5/\E5.pre i5/\(∃ i6:Z10×Cur×Int,let Z47:=blC i6.1 i6.2.1 i6.2.2;[DA.one (cI (16:Int))]=AR.args i6/\[PC.bt b,PC.im (vI ((Z28.2).i)),PC.im (vI ((Z28.2).h))]=BL i6/\AR.pre i6/\(∃ i7:Z10×Cur×Int,let Z48:=blC i7.1 i7.2.1 i7.2.2;[DA.one (cI (12:Int))]=AR.args i7/\[PC.bt b,PC.im (vI (Z47.i)),PC.im (vI (Z47.h))]=BL i7/\AR.pre i7/\(∃ i8:(List V2)×Int×Int,let Z32:=AA (Dt i8.1 i8.2.1 i8.2.2);[DA.one (DC.sl 24 [.int,.int] (AA Z28.1)),DA.agg [cI (wR ((4:Int)+(blV i6.1 i6.2.1 i6.2.2))),cI (wR ((3:Int)+(blV i7.1 i7.2.1 i7.2.2)))]]=DB.args i8/\DB.pre i8/\((Z29.length+([[Dat.sl Z32]]:List Z13).length<=2199023255552)/\(∃ y2:Nat,let Z49:=obN b Z12 y2;(y2<=IA b c)/\(IA b c-y2<IA b c-x1)/\((vI (wR ((Z31-(x1:Int))-(1:Int)))=vI (Z31-(y2:Int)))/\(vI (Z48.i)=vI ((Z49.2).i))/\(vI (Z48.h)=vI ((Z49.2).h))/\(rf Z1)/\(rf Z1)/\(rf Z1)/\(rf Z1)/\(rf Z3)/\(rf Z3)/\(rf Z3)/\(rf Z1)/\(rf Z1)/\(rf Z11)/\(rf Z7)/\Z8/\(rf Z5)/\((Z29++([[Dat.sl Z32]]:List Z13))=(AK Z49.1))/\(rf ([]:List Z13))))))))) (∃ i9:Z10×Cur×Int,let Z18:=blC i9.1 i9.2.1 i9.2.2;[DA.one (cI (6:Int))]=FR.args i9/\[PC.bt b,PC.im (vI ((Z6.2).i)),PC.im (vI ((Z6.2).h))]=MZ i9/\FR.pre i9/\(ifB ((decide (blV i9.1 i9.2.1 i9.2.2=0))) (∃ i10:Z10×Cur×Int,let Z34:=blC i10.1 i10.2.1 i10.2.2;let Z4:=wR ((6:Int)+(blV i10.1 i10.2.1 i10.2.2));let Z20:=wR (Z4+(2:Int));[DA.one (cI (8:Int))]=AR.args i10/\[PC.bt b,PC.im (vI (Z18.i)),PC.im (vI (Z18.h))]=BL i10/\AR.pre i10/\((Z29.length+([[Dat.sl ([[Dat.int Z4,Dat.int (-1:Int)],[Dat.int Z20,Dat.int (-1:Int)],[Dat.int Z20,Dat.int (40:Int)],[Dat.int Z4,Dat.int (40:Int)]]:List Z13)]]:List Z13).length<=2199023255552)/\((∃ x3:Unit,(True)/\((vI (Z34.i)=vI (Z15.i))/\(vI (Z34.h)=vI (Z15.h))/\(rf Z1)/\(rf Z1)/\(rf Z1)/\(rf Z1)/\(rf Z3)/\(rf Z3)/\(rf Z3)/\(rf Z1)/\(rf Z1)/\(rf Z11)/\(rf Z7)/\Z8/\(rf Z5)/\((Z29++([[Dat.sl ([[Dat.int Z4,Dat.int (-1:Int)],[Dat.int Z20,Dat.int (-1:Int)],[Dat.int Z20,Dat.int (40:Int)],[Dat.int Z4,Dat.int (40:Int)]]:List Z13)]]:List Z13))=Z9)/\(rf ([]:List Z13))))/\∀ x3:Unit,(True)->(∃ i11:Z10×Cur×Int,let Z35:=blC i11.1 i11.2.1 i11.2.2;[DA.one Z44]=AR.args i11/\[PC.bt b,PC.im (vI (Z15.i)),PC.im (vI (Z15.h))]=BL i11/\AR.pre i11/\((∃ x4:Nat,let Z41:=tbN b Z2 x4;(x4<=Ef b c)/\((vI (blV i11.1 i11.2.1 i11.2.2)=vI (Z14-(x4:Int)))/\(vI (Z35.i)=vI ((Z41.2).i))/\(vI (Z35.h)=vI ((Z41.2).h))/\(rf Z1)/\(rf Z1)/\(rf Z1)/\(rf Z1)/\(rf Z3)/\(rf Z3)/\(rf Z3)/\(rf Z1)/\(rf Z1)/\(rf Z11)/\(rf Z7)/\Z8/\(rf Z5)/\(rf Z9)/\(([]:List Z13)=(AA Z41.1))))/\∀ x4:Nat,let Z16:=tbN b Z2 x4;(x4<=Ef b c)->(ifB ((decide ((Z14-(x4:Int))>(0:Int)))) (∃ i12:Z10×Cur×Int,let Z36:=blC i12.1 i12.2.1 i12.2.2;let Z23:=wR ((3:Int)+(blV i12.1 i12.2.1 i12.2.2));[DA.one (cI (18:Int))]=AR.args i12/\[PC.bt b,PC.im (vI ((Z16.2).i)),PC.im (vI ((Z16.2).h))]=BL i12/\AR.pre i12/\(∃ i13:Z10×Cur×Int,let Z37:=blC i13.1 i13.2.1 i13.2.2;let Z24:=wR ((3:Int)+(blV i13.1 i13.2.1 i13.2.2));[DA.one (cI (14:Int))]=AR.args i13/\[PC.bt b,PC.im (vI (Z36.i)),PC.im (vI (Z36.h))]=BL i13/\AR.pre i13/\(((AA Z16.1).length+([[Dat.int Z23,Dat.int Z24]]:List Z13).length<=2199023255552)/\(∃ y5:Nat,(y5<=Ef b c)/\(Ef b c-y5<Ef b c-x4)/\((vI (wR ((Z14-(x4:Int))-(1:Int)))=vI (Z14-(y5:Int)))/\(vI (Z37.i)=vI (((tbN b Z2 y5).2).i))/\(vI (Z37.h)=vI (((tbN b Z2 y5).2).h))/\(rf Z1)/\(rf Z1)/\(rf Z1)/\(rf Z1)/\(rf Z3)/\(rf Z3)/\(rf Z3)/\(rf Z1)/\(rf Z1)/\(rf Z11)/\(rf Z7)/\Z8/\(rf Z5)/\(rf Z9)/\(((AA Z16.1)++([[Dat.int Z23,Dat.int Z24]]:List Z13))=(AA (tbN b Z2 y5).1))))))) (Z21/\Z21/\Z30/\Z22/\(Z5=AA Z19.robot)/\(Z9=AK Z19.obst)/\((AA Z16.1)=AA Z19.tables)/\(vI ((Z16.2).i)=vI (Z33.i))/\(vI ((Z16.2).h)=vI (Z33.h))))))))) ((∃ x3:Unit,(True)/\((vI (Z18.i)=vI (Z15.i))/\(vI (Z18.h)=vI (Z15.h))/\(rf Z1)/\(rf Z1)/\(rf Z1)/\(rf Z1)/\(rf Z3)/\(rf Z3)/\(rf Z3)/\(rf Z1)/\(rf Z1)/\(rf Z11)/\(rf Z7)/\Z8/\(rf Z5)/\(Z29=Z9)/\(rf ([]:List Z13))))/\∀ x3:Unit,(True)->(∃ i14:Z10×Cur×Int,let Z38:=blC i14.1 i14.2.1 i14.2.2;[DA.one Z44]=AR.args i14/\[PC.bt b,PC.im (vI (Z15.i)),PC.im (vI (Z15.h))]=BL i14/\AR.pre i14/\((∃ x4:Nat,(x4<=Ef b c)/\((vI (blV i14.1 i14.2.1 i14.2.2)=vI (Z14-(x4:Int)))/\(vI (Z38.i)=vI (((tbN b Z2 x4).2).i))/\(vI (Z38.h)=vI (((tbN b Z2 x4).2).h))/\(rf Z1)/\(rf Z1)/\(rf Z1)/\(rf Z1)/\(rf Z3)/\(rf Z3)/\(rf Z3)/\(rf Z1)/\(rf Z1)/\(rf Z11)/\(rf Z7)/\Z8/\(rf Z5)/\(rf Z9)/\(([]:List Z13)=(AA (tbN b Z2 x4).1))))/\∀ x4:Nat,let Z17:=tbN b Z2 x4;(x4<=Ef b c)->(ifB ((decide ((Z14-(x4:Int))>(0:Int)))) (∃ i15:Z10×Cur×Int,let Z39:=blC i15.1 i15.2.1 i15.2.2;let Z25:=wR ((3:Int)+(blV i15.1 i15.2.1 i15.2.2));[DA.one (cI (18:Int))]=AR.args i15/\[PC.bt b,PC.im (vI ((Z17.2).i)),PC.im (vI ((Z17.2).h))]=BL i15/\AR.pre i15/\(∃ i16:Z10×Cur×Int,let Z40:=blC i16.1 i16.2.1 i16.2.2;let Z26:=wR ((3:Int)+(blV i16.1 i16.2.1 i16.2.2));[DA.one (cI (14:Int))]=AR.args i16/\[PC.bt b,PC.im (vI (Z39.i)),PC.im (vI (Z39.h))]=BL i16/\AR.pre i16/\(((AA Z17.1).length+([[Dat.int Z25,Dat.int Z26]]:List Z13).length<=2199023255552)/\(∃ y8:Nat,(y8<=Ef b c)/\(Ef b c-y8<Ef b c-x4)/\((vI (wR ((Z14-(x4:Int))-(1:Int)))=vI (Z14-(y8:Int)))/\(vI (Z40.i)=vI (((tbN b Z2 y8).2).i))/\(vI (Z40.h)=vI (((tbN b Z2 y8).2).h))/\(rf Z1)/\(rf Z1)/\(rf Z1)/\(rf Z1)/\(rf Z3)/\(rf Z3)/\(rf Z3)/\(rf Z1)/\(rf Z1)/\(rf Z11)/\(rf Z7)/\Z8/\(rf Z5)/\(rf Z9)/\(((AA Z17.1)++([[Dat.int Z25,Dat.int Z26]]:List Z13))=(AA (tbN b Z2 y8).1))))))) (Z21/\Z21/\Z30/\Z22/\(Z5=AA Z19.robot)/\(Z9=AK Z19.obst)/\((AA Z17.1)=AA Z19.tables)/\(vI ((Z17.2).i)=vI (Z33.i))/\(vI ((Z17.2).h)=vI (Z33.h))))))))))))))) (by kernel_rfl) ?_
 conv=>zeta
 delta ifB vI wR nI
 have k1:=A4 12 hpre
 have k2:Aj b (XW b c):=A4 10 k1
 have k3:Aj b (BW b c):=Ma k2
 have k4:=A4 3 k3
 have q1:=BG b c (n:=12) (by omega)
 have q2:=BG b (blC b c 12) (n:=10) (by omega)
 have k5:Aj b (He b c).2:=Qp k4 _
 have k6:Aj b (A6 b c).2:=ABb k5
 have k7:=A4 3 k6
 refine ⟨(b,c,(12:Int)),by
  rfl,rfl,by
  exact hpre,?_⟩
 refine ⟨(b,(blC b c (12:Int)),(10:Int)),by
  rfl,rfl,by
  exact k1,?_⟩
 refine ⟨(b,(blC b (blC b c (12:Int)) (10:Int)),(2:Int)),by
  rfl,rfl,by
  show Aj b (blC b (blC b c (12:Int)) (10:Int))/\0<=(2:Int)/\(2:Int)<=1000
  exact ⟨k2,by omega,by omega⟩,?_⟩
 refine ⟨(b,((drP b (2:Int) (blC b (blC b c (12:Int)) (10:Int))).2),(3:Int)),by
  rfl,rfl,by
  exact k3,?_⟩
 refine ⟨⟨0,by
  first|omega|trivial,?_⟩,?_⟩
 ·refine ⟨?_,?_,?_,rfl,rfl,rfl,rfl,rfl,rfl,rfl,rfl,rfl,?_,?_,?_,?_,?_,rfl⟩
  ·show Value.int .i64 (blV b ((drP b (2:Int) (blC b (blC b c (12:Int)) (10:Int))).2) (3:Int))=Value.int .i64 (((IA b c:Nat):Int)-(0:Int))
   exact Aa (by rw [(Mb b c).1];exact (Int.sub_zero _).symm)
  ·show Value.int .i64 ((blC b ((drP b (2:Int) (blC b (blC b c (12:Int)) (10:Int))).2) (3:Int)).i)=Value.int .i64 (((obN b (blC b (BW b c) 3) 0).2).i)
   exact rfl
  ·show Value.int .i64 ((blC b ((drP b (2:Int) (blC b (blC b c (12:Int)) (10:Int))).2) (3:Int)).h)=Value.int .i64 (((obN b (blC b (BW b c) 3) 0).2).h)
   exact rfl
  ·show Value.int .i64 (IntKind.i64.wrap ((14:Int)+(blV b c (12:Int))))=Value.int .i64 (14+blV b c 12)
   exact Aa (AB (by omega) (by omega))
  ·show Value.int .i64 (IntKind.i64.wrap ((12:Int)+(blV b (blC b c (12:Int)) (10:Int))))=Value.int .i64 (12+blV b (blC b c 12) 10)
   exact Aa (AB (by omega) (by omega))
  ·exact rfl
  ·show AA (drP b (2:Int) (blC b (blC b c (12:Int)) (10:Int))).1=(AA (drP b 2 (XW b c)).1)
   exact rfl
  exact rfl
 intro (k:Nat) hki13
 have hki13:k<=IA b c:=hki13
 have ko:=Qp k4 k
 refine ⟨λ c33=>?_,λ c33=>?_⟩
 ·try simp only [nrm] at c33
  have n1:=Mb b c
  have o1:=ABc (b:=b) (c:=blC b (BW b c) 3) k
  have r1:=BG b (drP b 4 (obN b (blC b (BW b c) 3) k).2).2 (n:=16) (by omega)
  have r2:=BG b (blC b (drP b 4 (obN b (blC b (BW b c) 3) k).2).2 16) (n:=12) (by omega)
  have w1:=AB (x:=4+blV b (drP b 4 (obN b (blC b (BW b c) 3) k).2).2 16) (by omega) (by omega)
  have w2:=AB (x:=3+blV b (blC b (drP b 4 (obN b (blC b (BW b c) 3) k).2).2 16) 12) (by omega) (by omega)
  refine ⟨(b,((obN b (blC b (BW b c) 3) k).2),(4:Int)),by
   rfl,rfl,by
   show Aj b ((obN b (blC b (BW b c) 3) k).2)/\0<=(4:Int)/\(4:Int)<=1000
   exact ⟨ko,by omega,by omega⟩,?_⟩
  refine ⟨(b,((drP b (4:Int) ((obN b (blC b (BW b c) 3) k).2)).2),(16:Int)),by
   rfl,rfl,by
   show Aj b ((drP b (4:Int) ((obN b (blC b (BW b c) 3) k).2)).2)
   exact Ma ko,?_⟩
  refine ⟨(b,(blC b ((drP b (4:Int) ((obN b (blC b (BW b c) 3) k).2)).2) (16:Int)),(12:Int)),by
   rfl,rfl,by
   show Aj b (blC b ((drP b (4:Int) ((obN b (blC b (BW b c) 3) k).2)).2) (16:Int))
   exact A4 16 (Ma ko),?_⟩
  refine ⟨((drP b (4:Int) ((obN b (blC b (BW b c) 3) k).2)).1,(IntKind.i64.wrap ((4:Int)+(blV b ((drP b (4:Int) ((obN b (blC b (BW b c) 3) k).2)).2) (16:Int)))),(IntKind.i64.wrap ((3:Int)+(blV b (blC b ((drP b (4:Int) ((obN b (blC b (BW b c) 3) k).2)).2) (16:Int)) (12:Int))))),by
   rfl,by
   show ((drP b (4:Int) ((obN b (blC b (BW b c) 3) k).2)).1).length<=1048576/\((drP b (4:Int) ((obN b (blC b (BW b c) 3) k).2)).1).all AF=true
   exact ⟨o1.2,o1.1⟩,?_⟩
  refine ao (a:=(AK (obN b (blC b (BW b c) 3) k).1).length+([[Dat.sl (AA (Dt ((drP b (4:Int) ((obN b (blC b (BW b c) 3) k).2)).1) (IntKind.i64.wrap ((4:Int)+(blV b ((drP b (4:Int) ((obN b (blC b (BW b c) 3) k).2)).2) (16:Int)))) (IntKind.i64.wrap ((3:Int)+(blV b (blC b ((drP b (4:Int) ((obN b (blC b (BW b c) 3) k).2)).2) (16:Int)) (12:Int))))))]]:List (List Dat)).length<=2199023255552) (by first|omega|(simp only [AC,A5,Im,In,List.length_cons,List.length_nil];omega)) λ o46=>?_
  refine ⟨k+1,by
   first|omega|trivial,by
   first|omega|(simp;omega),?_⟩
  refine ⟨?_,?_,?_,rfl,rfl,rfl,rfl,rfl,rfl,rfl,rfl,rfl,rfl,rfl,?_,rfl,?_,rfl⟩
  ·exact Aa (by rw [AB (by omega) (by omega)];omega)
  ·show Value.int .i64 ((blC b (blC b ((drP b (4:Int) ((obN b (blC b (BW b c) 3) k).2)).2) (16:Int)) (12:Int)).i)=Value.int .i64 (((obN b (blC b (BW b c) 3) (k+1)).2).i)
   exact rfl
  ·show Value.int .i64 ((blC b (blC b ((drP b (4:Int) ((obN b (blC b (BW b c) 3) k).2)).2) (16:Int)) (12:Int)).h)=Value.int .i64 (((obN b (blC b (BW b c) 3) (k+1)).2).h)
   exact rfl
  ·exact rfl
  show ((AK (obN b (blC b (BW b c) 3) k).1)++([[Dat.sl (AA (Dt ((drP b (4:Int) ((obN b (blC b (BW b c) 3) k).2)).1) (IntKind.i64.wrap ((4:Int)+(blV b ((drP b (4:Int) ((obN b (blC b (BW b c) 3) k).2)).2) (16:Int)))) (IntKind.i64.wrap ((3:Int)+(blV b (blC b ((drP b (4:Int) ((obN b (blC b (BW b c) 3) k).2)).2) (16:Int)) (12:Int))))))]]:List (List Dat)))=(AK (obN b (blC b (BW b c) 3) (k+1)).1)
  rw [w1,w2,S0];exact N7 _ _
 try simp only [nrm] at c33
 have n1:=Mb b c
 have hko:k=IA b c:=by omega
 have hO:obN b (blC b (BW b c) 3) k=He b c:=by rw [hko];rfl
 refine ⟨(b,((obN b (blC b (BW b c) 3) k).2),(6:Int)),by
  rfl,rfl,by
  show Aj b ((obN b (blC b (BW b c) 3) k).2)
  rw [hO];exact k5,?_⟩
 refine And.symm ⟨λ c71=>?_,λ c71=>?_⟩
 ·try simp only [nrm] at c71
  rw [hO] at c71
  have hW:=V5 (b:=b) (c:=c) c71
  refine ⟨⟨(),by
   first|omega|trivial,?_⟩,?_⟩
  ·refine ⟨?_,?_,rfl,rfl,rfl,rfl,rfl,rfl,rfl,rfl,rfl,rfl,rfl,?_,rfl,?_,rfl⟩
   ·show Value.int .i64 ((blC b ((obN b (blC b (BW b c) 3) k).2) (6:Int)).i)=Value.int .i64 (((A6 b c).2).i)
    rw [hO,hW]
   ·show Value.int .i64 ((blC b ((obN b (blC b (BW b c) 3) k).2) (6:Int)).h)=Value.int .i64 (((A6 b c).2).h)
    rw [hO,hW]
   ·exact rfl
   rw [hO,hW]
  rintro _ hki156
  have hki156:True:=hki156
  refine ⟨(b,((A6 b c).2),(3:Int)),by
   rfl,rfl,by
   exact k6,?_⟩
  refine ⟨⟨0,by
   first|omega|trivial,?_⟩,?_⟩
  ·refine ⟨?_,?_,?_,rfl,rfl,rfl,rfl,rfl,rfl,rfl,rfl,rfl,rfl,rfl,?_,rfl,rfl,?_⟩
   ·show Value.int .i64 (blV b ((A6 b c).2) (3:Int))=Value.int .i64 (((Ef b c:Nat):Int)-(0:Int))
    exact Aa (by rw [(G8 b c).1];exact (Int.sub_zero _).symm)
   ·show Value.int .i64 ((blC b ((A6 b c).2) (3:Int)).i)=Value.int .i64 (((tbN b (blC b (A6 b c).2 3) 0).2).i)
    exact rfl
   ·show Value.int .i64 ((blC b ((A6 b c).2) (3:Int)).h)=Value.int .i64 (((tbN b (blC b (A6 b c).2 3) 0).2).h)
    exact rfl
   ·exact rfl
   exact rfl
  intro (k:Nat) hki178
  have hki178:k<=Ef b c:=hki178
  have kt:=Qq k7 k
  refine And.symm ⟨λ c198=>?_,λ c198=>?_⟩
  ·try simp only [nrm] at c198
   have n2:=G8 b c
   have hkt:k=Ef b c:=by omega
   have hT:tbN b (blC b (A6 b c).2 3) k=Sy b c:=by rw [hkt];rfl
   refine ⟨?_,?_,?_,?_,?_,?_,?_,?_,?_⟩
   ·first|(rw [hT];done)|(rw [hT];exact rfl)|exact rfl
   ·first|(rw [hT];done)|(rw [hT];exact rfl)|exact rfl
   ·first|(rw [hT];done)|(rw [hT];exact rfl)|exact rfl
   ·first|(rw [hT];done)|(rw [hT];exact rfl)|exact rfl
   ·first|(rw [hT];done)|(rw [hT];exact rfl)|exact rfl
   ·first|(rw [hT];done)|(rw [hT];exact rfl)|exact rfl
   ·first|(rw [hT];done)|(rw [hT];exact rfl)|exact rfl
   ·first|(rw [hT];done)|(rw [hT];exact rfl)|exact rfl
   first|(rw [hT];done)|(rw [hT];exact rfl)|exact rfl
  try simp only [nrm] at c198
  have n2:=G8 b c
  have r1:=BG b (tbN b (blC b (A6 b c).2 3) k).2 (n:=18) (by omega)
  have r2:=BG b (blC b (tbN b (blC b (A6 b c).2 3) k).2 18) (n:=14) (by omega)
  have w3:=AB (x:=3+blV b (tbN b (blC b (A6 b c).2 3) k).2 18) (by omega) (by omega)
  have w4:=AB (x:=3+blV b (blC b (tbN b (blC b (A6 b c).2 3) k).2 18) 14) (by omega) (by omega)
  refine ⟨(b,((tbN b (blC b (A6 b c).2 3) k).2),(18:Int)),by
   rfl,rfl,by
   exact kt,?_⟩
  refine ⟨(b,(blC b ((tbN b (blC b (A6 b c).2 3) k).2) (18:Int)),(14:Int)),by
   rfl,rfl,by
   show Aj b (blC b ((tbN b (blC b (A6 b c).2 3) k).2) (18:Int))
   exact A4 18 kt,?_⟩
  refine ao (a:=(AA (tbN b (blC b (A6 b c).2 3) k).1).length+([[Dat.int (IntKind.i64.wrap ((3:Int)+(blV b ((tbN b (blC b (A6 b c).2 3) k).2) (18:Int)))),Dat.int (IntKind.i64.wrap ((3:Int)+(blV b (blC b ((tbN b (blC b (A6 b c).2 3) k).2) (18:Int)) (14:Int))))]]:List (List Dat)).length<=2199023255552) (by first|omega|(simp only [AC,A5,Im,In,List.length_cons,List.length_nil];omega)) λ o205=>?_
  refine ⟨k+1,by
   first|omega|trivial,by
   first|omega|(simp;omega),?_⟩
  refine ⟨?_,?_,?_,rfl,rfl,rfl,rfl,rfl,rfl,rfl,rfl,rfl,rfl,rfl,?_,rfl,rfl,?_⟩
  ·exact Aa (by rw [AB (by omega) (by omega)];omega)
  ·show Value.int .i64 ((blC b (blC b ((tbN b (blC b (A6 b c).2 3) k).2) (18:Int)) (14:Int)).i)=Value.int .i64 (((tbN b (blC b (A6 b c).2 3) (k+1)).2).i)
   exact rfl
  ·show Value.int .i64 ((blC b (blC b ((tbN b (blC b (A6 b c).2 3) k).2) (18:Int)) (14:Int)).h)=Value.int .i64 (((tbN b (blC b (A6 b c).2 3) (k+1)).2).h)
   exact rfl
  ·exact rfl
  show ((AA (tbN b (blC b (A6 b c).2 3) k).1)++([[Dat.int (IntKind.i64.wrap ((3:Int)+(blV b ((tbN b (blC b (A6 b c).2 3) k).2) (18:Int)))),Dat.int (IntKind.i64.wrap ((3:Int)+(blV b (blC b ((tbN b (blC b (A6 b c).2 3) k).2) (18:Int)) (14:Int))))]]:List (List Dat)))=(AA (tbN b (blC b (A6 b c).2 3) (k+1)).1)
  rw [w3,w4,N8];exact JO _ _ _
 try simp only [nrm] at c71
 rw [hO] at c71
 have hW:=Sz (b:=b) (c:=c) c71
 have r8:=BG b (blC b (He b c).2 6) (n:=8) (by omega)
 have w6:=AB (x:=6+blV b (blC b (He b c).2 6) 8) (by omega) (by omega)
 have w8:=AB (x:=6+blV b (blC b (He b c).2 6) 8+2) (by omega) (by omega)
 refine ⟨(b,(blC b ((obN b (blC b (BW b c) 3) k).2) (6:Int)),(8:Int)),by
  rfl,rfl,by
  show Aj b (blC b ((obN b (blC b (BW b c) 3) k).2) (6:Int))
  rw [hO];exact A4 6 k5,?_⟩
 refine ao (a:=(AK (obN b (blC b (BW b c) 3) k).1).length+([[Dat.sl ([[Dat.int (IntKind.i64.wrap ((6:Int)+(blV b (blC b ((obN b (blC b (BW b c) 3) k).2) (6:Int)) (8:Int)))),Dat.int (-1:Int)],[Dat.int (IntKind.i64.wrap ((IntKind.i64.wrap ((6:Int)+(blV b (blC b ((obN b (blC b (BW b c) 3) k).2) (6:Int)) (8:Int))))+(2:Int))),Dat.int (-1:Int)],[Dat.int (IntKind.i64.wrap ((IntKind.i64.wrap ((6:Int)+(blV b (blC b ((obN b (blC b (BW b c) 3) k).2) (6:Int)) (8:Int))))+(2:Int))),Dat.int (40:Int)],[Dat.int (IntKind.i64.wrap ((6:Int)+(blV b (blC b ((obN b (blC b (BW b c) 3) k).2) (6:Int)) (8:Int)))),Dat.int (40:Int)]]:List (List Dat))]]:List (List Dat)).length<=2199023255552) (by first|omega|(simp only [AC,A5,Im,In,List.length_cons,List.length_nil];omega)) λ o75=>?_
 refine ⟨⟨(),by
  first|omega|trivial,?_⟩,?_⟩
 ·refine ⟨?_,?_,rfl,rfl,rfl,rfl,rfl,rfl,rfl,rfl,rfl,rfl,rfl,?_,rfl,?_,rfl⟩
  ·show Value.int .i64 ((blC b (blC b ((obN b (blC b (BW b c) 3) k).2) (6:Int)) (8:Int)).i)=Value.int .i64 (((A6 b c).2).i)
   rw [hO,hW]
  ·show Value.int .i64 ((blC b (blC b ((obN b (blC b (BW b c) 3) k).2) (6:Int)) (8:Int)).h)=Value.int .i64 (((A6 b c).2).h)
   rw [hO,hW]
  ·exact rfl
  show ((AK (obN b (blC b (BW b c) 3) k).1)++([[Dat.sl ([[Dat.int (IntKind.i64.wrap ((6:Int)+(blV b (blC b ((obN b (blC b (BW b c) 3) k).2) (6:Int)) (8:Int)))),Dat.int (-1:Int)],[Dat.int (IntKind.i64.wrap ((IntKind.i64.wrap ((6:Int)+(blV b (blC b ((obN b (blC b (BW b c) 3) k).2) (6:Int)) (8:Int))))+(2:Int))),Dat.int (-1:Int)],[Dat.int (IntKind.i64.wrap ((IntKind.i64.wrap ((6:Int)+(blV b (blC b ((obN b (blC b (BW b c) 3) k).2) (6:Int)) (8:Int))))+(2:Int))),Dat.int (40:Int)],[Dat.int (IntKind.i64.wrap ((6:Int)+(blV b (blC b ((obN b (blC b (BW b c) 3) k).2) (6:Int)) (8:Int)))),Dat.int (40:Int)]]:List (List Dat))]]:List (List Dat)))=(AK (A6 b c).1)
  rw [hO,hW,w6,w8];exact N7 (He b c).1 (ABa (6+blV b (blC b (He b c).2 6) 8))
 rintro _ hki76
 have hki76:True:=hki76
 refine ⟨(b,((A6 b c).2),(3:Int)),by
  rfl,rfl,by
  exact k6,?_⟩
 refine ⟨⟨0,by
  first|omega|trivial,?_⟩,?_⟩
 ·refine ⟨?_,?_,?_,rfl,rfl,rfl,rfl,rfl,rfl,rfl,rfl,rfl,rfl,rfl,?_,rfl,rfl,?_⟩
  ·show Value.int .i64 (blV b ((A6 b c).2) (3:Int))=Value.int .i64 (((Ef b c:Nat):Int)-(0:Int))
   exact Aa (by rw [(G8 b c).1];exact (Int.sub_zero _).symm)
  ·show Value.int .i64 ((blC b ((A6 b c).2) (3:Int)).i)=Value.int .i64 (((tbN b (blC b (A6 b c).2 3) 0).2).i)
   exact rfl
  ·show Value.int .i64 ((blC b ((A6 b c).2) (3:Int)).h)=Value.int .i64 (((tbN b (blC b (A6 b c).2 3) 0).2).h)
   exact rfl
  ·exact rfl
  exact rfl
 intro (k:Nat) hki98
 have hki98:k<=Ef b c:=hki98
 have kt:=Qq k7 k
 refine And.symm ⟨λ c118=>?_,λ c118=>?_⟩
 ·try simp only [nrm] at c118
  have n2:=G8 b c
  have hkt:k=Ef b c:=by omega
  have hT:tbN b (blC b (A6 b c).2 3) k=Sy b c:=by rw [hkt];rfl
  refine ⟨?_,?_,?_,?_,?_,?_,?_,?_,?_⟩
  ·first|(rw [hT];done)|(rw [hT];exact rfl)|exact rfl
  ·first|(rw [hT];done)|(rw [hT];exact rfl)|exact rfl
  ·first|(rw [hT];done)|(rw [hT];exact rfl)|exact rfl
  ·first|(rw [hT];done)|(rw [hT];exact rfl)|exact rfl
  ·first|(rw [hT];done)|(rw [hT];exact rfl)|exact rfl
  ·first|(rw [hT];done)|(rw [hT];exact rfl)|exact rfl
  ·first|(rw [hT];done)|(rw [hT];exact rfl)|exact rfl
  ·first|(rw [hT];done)|(rw [hT];exact rfl)|exact rfl
  first|(rw [hT];done)|(rw [hT];exact rfl)|exact rfl
 try simp only [nrm] at c118
 have n2:=G8 b c
 have r1:=BG b (tbN b (blC b (A6 b c).2 3) k).2 (n:=18) (by omega)
 have r2:=BG b (blC b (tbN b (blC b (A6 b c).2 3) k).2 18) (n:=14) (by omega)
 have w3:=AB (x:=3+blV b (tbN b (blC b (A6 b c).2 3) k).2 18) (by omega) (by omega)
 have w4:=AB (x:=3+blV b (blC b (tbN b (blC b (A6 b c).2 3) k).2 18) 14) (by omega) (by omega)
 refine ⟨(b,((tbN b (blC b (A6 b c).2 3) k).2),(18:Int)),by
  rfl,rfl,by
  exact kt,?_⟩
 refine ⟨(b,(blC b ((tbN b (blC b (A6 b c).2 3) k).2) (18:Int)),(14:Int)),by
  rfl,rfl,by
  show Aj b (blC b ((tbN b (blC b (A6 b c).2 3) k).2) (18:Int))
  exact A4 18 kt,?_⟩
 refine ao (a:=(AA (tbN b (blC b (A6 b c).2 3) k).1).length+([[Dat.int (IntKind.i64.wrap ((3:Int)+(blV b ((tbN b (blC b (A6 b c).2 3) k).2) (18:Int)))),Dat.int (IntKind.i64.wrap ((3:Int)+(blV b (blC b ((tbN b (blC b (A6 b c).2 3) k).2) (18:Int)) (14:Int))))]]:List (List Dat)).length<=2199023255552) (by first|omega|(simp only [AC,A5,Im,In,List.length_cons,List.length_nil];omega)) λ o125=>?_
 refine ⟨k+1,by
  first|omega|trivial,by
  first|omega|(simp;omega),?_⟩
 refine ⟨?_,?_,?_,rfl,rfl,rfl,rfl,rfl,rfl,rfl,rfl,rfl,rfl,rfl,?_,rfl,rfl,?_⟩
 ·exact Aa (by rw [AB (by omega) (by omega)];omega)
 ·show Value.int .i64 ((blC b (blC b ((tbN b (blC b (A6 b c).2 3) k).2) (18:Int)) (14:Int)).i)=Value.int .i64 (((tbN b (blC b (A6 b c).2 3) (k+1)).2).i)
  exact rfl
 ·show Value.int .i64 ((blC b (blC b ((tbN b (blC b (A6 b c).2 3) k).2) (18:Int)) (14:Int)).h)=Value.int .i64 (((tbN b (blC b (A6 b c).2 3) (k+1)).2).h)
  exact rfl
 ·exact rfl
 show ((AA (tbN b (blC b (A6 b c).2 3) k).1)++([[Dat.int (IntKind.i64.wrap ((3:Int)+(blV b ((tbN b (blC b (A6 b c).2 3) k).2) (18:Int)))),Dat.int (IntKind.i64.wrap ((3:Int)+(blV b (blC b ((tbN b (blC b (A6 b c).2 3) k).2) (18:Int)) (14:Int))))]]:List (List Dat)))=(AA (tbN b (blC b (A6 b c).2 3) (k+1)).1)
 rw [w3,w4,N8];exact JO _ _ _
def Io:Con:={ ι:=(List UInt8),pre:=λ i=>i.length<=1048576,args:=λ i=>[.one (.ro (.bytes i))],res:=λ i=>⟨false,[some 7],[rcI 0,rcI 0,rcI ((Dy i (BM i)).high.1),rcI ((Dy i (BM i)).high.2),.own 24 [.int,.int] (AA (Dy i (BM i)).robot),.own 25 [.sl 24 [.int,.int]] (AK (Dy i (BM i)).obst),.own 24 [.int,.int] (AA (Dy i (BM i)).tables)]⟩ }
theorem Zx:Io.Ok Tryz.prog 6:=by
 refine fok (X:=⟨tt,[(31,EG),(30,KC)],[],6,[]⟩) mixed AI (CTok.consN Sv (CTok.consP ABd (CTok.nil _))) Tryz.func6 (λ _=>[]) ?_
 intro (b:List UInt8) hpre
 have hpre:b.length<=1048576:=hpre
 refine AH (q:=let Z1:=Dy b (BM b);∃ i1:(List UInt8),[DA.one (DC.ro (.bytes b))]=EG.args i1/\EG.pre i1/\(∃ i2:(List UInt8)×Cur,let Z2:=Dy i2.1 i2.2;[]=KC.args i2/\[PC.bt b,PC.im (vI ((BM i1).i)),PC.im (vI ((BM i1).h))]=Qr i2/\KC.pre i2/\((vI 0=vI 0)/\(vI 0=vI 0)/\(vI (Z2.high.1)=vI (Z1.high.1))/\(vI (Z2.high.2)=vI (Z1.high.2))/\(AA Z2.robot=AA Z1.robot)/\(AK Z2.obst=AK Z1.obst)/\(AA Z2.tables=AA Z1.tables)))) (by kernel_rfl) ?_
 conv=>zeta
 delta vI
 refine ⟨b,by
  rfl,by
  show b.length<=1048576
  first|exact hpre|exact LP hpre,?_⟩
 refine ⟨(b,(BM b)),by
  rfl,rfl,by
  show Aj b (BM b)
  first|exact hpre|exact LP hpre,?_⟩
 exact ⟨rfl,rfl,rfl,rfl,rfl,rfl,rfl⟩
end Go.Proofs.YtkffpiaagjcmpaaGreat
namespace Go.Proofs.YtkffpiaagjcmpaaGreat
set_option linter.unusedVariables false
set_option linter.unusedSimpArgs false
theorem HullOk.congr {S T:V2->Prop} {h:List V2} (H:HullOk S h) (e:∀ x,S x↔T x):HullOk T h:=by
 obtain ⟨p,q,lo,up,B,h1,h2,h3⟩:=H.band
 exact ⟨H.ring.congr e,H.three,p,q,lo,up,B.congr e,h1,h2,h3⟩
end Go.Proofs.YtkffpiaagjcmpaaGreat
