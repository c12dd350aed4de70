import Derived.Test.YtndnhlhnjiopfaaGreatDi2RkD0
import Derived.Test.YtndnhlhnjiopfaaGreatDi2ScW
import Derived.Test.YtndnhlhnjiopfaaGreatDi2Hus
import Derived.Test.YtndnhlhnjiopfaaGreatDi2RkHu
namespace Go.Proofs.YtndnhlhnjiopfaaGreat
set_option maxRecDepth 100000
set_option linter.unusedVariables false
set_option linter.unusedSimpArgs false
open Go.RowKit
def CA (b:List UInt8) (c:Cur):V2:=(blV b c 21-10,blV b (blC b c 21) 21-10)
def BU (b:List UInt8) (c:Cur):Cur:=blC b (blC b c 21) 21
def OF:(List UInt8)×Cur->List PC:=λ i=>[.bt i.1,.im (.int .i64 i.2.i),.im (.int .i64 i.2.h)]
def Sc:(List UInt8)×Cur->List PC:=λ i=>[.bt i.1,.im (.int .i64 ((BU i.1 i.2).i)),.im (.int .i64 ((BU i.1 i.2).h))]
def Iy:Con:={ ι:=(List UInt8)×Cur,pre:=λ i=>A8 i.1 i.2,args:=λ i=>[],ptr:=some (OF,Sc),res:=λ i=>⟨false,[some 2],[rcI ((CA i.1 i.2).1),rcI ((CA i.1 i.2).2)]⟩ }
theorem W1:Iy.OkP Tryz.prog 57 OF Sc:=by
 refine Tv (X:=⟨tt,[(68,A3)],[4000000],10,[]⟩) AG AH (CTok.consP Ix (CTok.nil _)) Tryz.func57 (λ _=>[]) ?_
 rintro ⟨b,c⟩ hpre
 have hpre:A8 b c:=hpre
 refine AF (q:=∃ i1:(List UInt8)×Cur×Int,let Z1:=blC i1.1 i1.2.1 i1.2.2;[DA.one (cI (21:Int))]=A3.args i1/\[PC.bt b,PC.im (vI c.i),PC.im (vI c.h)]=Dd i1/\A3.pre i1/\(∃ i2:(List UInt8)×Cur×Int,let Z2:=blC i2.1 i2.2.1 i2.2.2;[DA.one (cI (21:Int))]=A3.args i2/\[PC.bt b,PC.im (vI (Z1.i)),PC.im (vI (Z1.h))]=Dd i2/\A3.pre i2/\((vI (wR ((blV i1.1 i1.2.1 i1.2.2)-(10:Int)))=vI ((CA b c).1))/\(vI (wR ((blV i2.1 i2.2.1 i2.2.2)-(10:Int)))=vI ((CA b c).2))/\(vI (Z2.i)=vI ((BU b c).i))/\(vI (Z2.h)=vI ((BU b c).h))))) (by kernel_rfl) ?_
 conv=>zeta
 delta vI wR
 have k1:=Bl 21 hpre
 have q1:=Dc b c (n:=21) (by omega)
 have q2:=Dc b (blC b c 21) (n:=21) (by omega)
 refine ⟨(b,c,(21:Int)),by
  rfl,rfl,by
  show A8 b c
  first|exact hpre|exact k1,?_⟩
 refine ⟨(b,(blC b c (21:Int)),(21:Int)),by
  rfl,rfl,by
  show A8 b (blC b c (21:Int))
  first|exact hpre|exact k1,?_⟩
 refine ⟨?_,?_,?_,?_⟩
 ·show Value.int .i64 (IntKind.i64.wrap ((blV b c (21:Int))-(10:Int)))=Value.int .i64 ((CA b c).1)
  first|rfl|(rw [AB (by omega) (by omega)];rfl)
 ·show Value.int .i64 (IntKind.i64.wrap ((blV b (blC b c (21:Int)) (21:Int))-(10:Int)))=Value.int .i64 ((CA b c).2)
  first|rfl|(rw [AB (by omega) (by omega)];rfl)
 ·show Value.int .i64 ((blC b (blC b c (21:Int)) (21:Int)).i)=Value.int .i64 ((BU b c).i)
  first|rfl|(rw [AB (by omega) (by omega)];rfl)
 show Value.int .i64 ((blC b (blC b c (21:Int)) (21:Int)).h)=Value.int .i64 ((BU b c).h)
 first|rfl|(rw [AB (by omega) (by omega)];rfl)
def ptS (b:List UInt8) (z:Int) (p:List V2×Cur):List V2×Cur:=
 (p.1++[(blV b p.2 (2*z+1)-z,blV b (blC b p.2 (2*z+1)) (2*z+1)-z)],blC b (blC b p.2 (2*z+1)) (2*z+1))
def ptN (b:List UInt8) (z:Int) (c:Cur):Nat->List V2×Cur
 | 0=>([],c)
 | j+1=>ptS b z (ptN b z c j)
def G7 (b:List UInt8) (c:Cur):Nat:=(3+blV b c 3).toNat
def att (b:List UInt8) (z:Int) (c:Cur):List V2×Cur:=ptN b z (blC b c 3) (G7 b c)
def drF (b:List UInt8) (z:Int):Nat->Cur->List V2×Cur
 | 0,c=>([(-1,-1),(1,-1),(0,1)],c)
 | k+1,c=>if AU (C2 (att b z c).1)=true then (C2 (att b z c).1,(att b z c).2) else drF b z k (att b z c).2
def drP (b:List UInt8) (z:Int) (c:Cur):List V2×Cur:=drF b z 8 c
def atC (b:List UInt8) (z:Int) (c:Cur):Nat->Cur
 | 0=>c
 | k+1=>(att b z (atC b z c k)).2
theorem Gc (b:List UInt8) (z:Int) (c:Cur):∀ j,(ptN b z c j).1.length=j
 | 0=>rfl
 | j+1=>by simp [ptN,ptS,Gc b z c j]
theorem EJ {b:List UInt8} {c:Cur} (z:Int) (h:A8 b c):∀ j,A8 b (ptN b z c j).2
 | 0=>h
 | j+1=>Bl _ (Bl _ (EJ z h j))
theorem YJ {b:List UInt8} {c:Cur} (z:Int) (h:A8 b c):A8 b (att b z c).2:=EJ z (Bl 3 h) _
theorem Cy {b:List UInt8} {c:Cur} (z:Int) (h:A8 b c):∀ k,A8 b (atC b z c k)
 | 0=>h
 | k+1=>YJ z (Cy z h k)
theorem Vt (b:List UInt8) (c:Cur):3<=G7 b c/\G7 b c<=5/\((G7 b c:Nat):Int)=3+blV b c 3:=by
 have:=Dc b c (n:=3) (by omega)
 unfold G7;omega
theorem RQ (l:List V2) (x y:Int):AC l++[[Dat.int x,Dat.int y]]=AC (l++[(x,y)]):=by simp [AC,Nb]
theorem Vu {b:List UInt8} {z:Int} (hz:0<=z) (c:Cur):∀ j,∀ x ∈ (ptN b z c j).1,(-z<=x.1/\x.1<=z)/\-z<=x.2/\x.2<=z
 | 0,x,hx=>by simp [ptN] at hx
 | j+1,x,hx=>by
  simp only [ptN,ptS] at hx
  rcases List.mem_append.1 hx with hx|hx
  ·exact Vu hz c j x hx
  ·rw [List.mem_singleton.1 hx]
   have q1:=Dc b (ptN b z c j).2 (n:=2*z+1) (by omega)
   have q2:=Dc b (blC b (ptN b z c j).2 (2*z+1)) (n:=2*z+1) (by omega)
   exact ⟨⟨by show -z<=_-z;omega,by show _-z<=z;omega⟩,by show -z<=_-z;omega,by show _-z<=z;omega⟩
theorem Vv {b:List UInt8} {z:Int} (hz:1<=z):∀ k c,AU (drF b z k c).1=true/\(drF b z k c).1.length<=16/\∀ x ∈ (drF b z k c).1,(-z<=x.1/\x.1<=z)/\-z<=x.2/\x.2<=z
 | 0,c=>by
  refine ⟨by simp only [drF];decide,by simp [drF],λ x hx=>?_⟩
  simp only [drF,List.mem_cons,List.not_mem_nil,or_false] at hx
  rcases hx with rfl|rfl|rfl <;> exact ⟨⟨by omega,by omega⟩,by omega,by omega⟩
 | k+1,c=>by
  unfold drF
  split
  ·rename_i h
   refine ⟨h,?_,λ x hx=>?_⟩
   ·simp only [AU,Bool.and_eq_true,F6] at h
    have:=h.1.1
    simp only;omega
   ·exact Vu (by omega) _ _ x (Tl hx)
  ·exact Vv hz k _
theorem YK {b:List UInt8} {z:Int} (hz:1<=z) (c:Cur):AU (drP b z c).1=true/\(drP b z c).1.length<=16/\∀ x ∈ (drP b z c).1,(-z<=x.1/\x.1<=z)/\-z<=x.2/\x.2<=z:=Vv hz 8 c
def MG:(List UInt8)×Cur×Int->List PC:=λ i=>[.bt i.1,.im (.int .i64 i.2.1.i),.im (.int .i64 i.2.1.h)]
def P3:(List UInt8)×Cur×Int->List PC:=λ i=>[.bt i.1,.im (.int .i64 (((drP i.1 i.2.2 i.2.1).2).i)),.im (.int .i64 (((drP i.1 i.2.2 i.2.1).2).h))]
def Ht:Con:={ ι:=(List UInt8)×Cur×Int,pre:=λ i=>A8 i.1 i.2.1/\0<=i.2.2/\i.2.2<=1000,args:=λ i=>[.one (cI i.2.2)],ptr:=some (MG,P3),res:=λ i=>⟨false,[none],[.own 44 [.int,.int] (AC (drP i.1 i.2.2 i.2.1).1)]⟩ }
theorem Vw:Ht.OkP Tryz.prog 33 MG P3:=by
 refine Tv (X:=⟨tt,[(68,A3),(70,Hr),(71,FA)],[4000000],48,[]⟩) AG AH (CTok.consP Ix (CTok.cons Vq (CTok.cons Q9 (CTok.nil _)))) Tryz.func33 (λ (i:(List UInt8)×Cur×Int)=>[(2,.mk 3 (Nat) (λ x1=>let Z3:=atC i.1 i.2.2 i.2.1 x1;{ tm:=[(0,tP 1 0),(1,tI i.2.2),(5,tI (x1:Int))],en:=[(1,.box [.ext 2,kI (Z3.i),kI (Z3.h)]),(2,.ro (.bytes i.1) [])] }) (λ x1=>x1<=8/\drF i.1 i.2.2 (8-x1) (atC i.1 i.2.2 i.2.1 x1)=drP i.1 i.2.2 i.2.1) (λ x1=>8-x1) (λ x1=>let Z1:=atC i.1 i.2.2 i.2.1 x1;[(6,.mk 4 (Nat) (λ x2=>let Z2:=ptN i.1 i.2.2 (blC i.1 Z1 3) x2;{ tm:=[(0,tP 1 0),(1,tI i.2.2),(5,tI (x1:Int)),(7,tI ((nI (G7 i.1 Z1))-(x2:Int))),(6,tX 3)],en:=[(1,.box [.ext 2,kI (Z2.2.i),kI (Z2.2.h)]),(2,.ro (.bytes i.1) []),(3,.own 44 [.int,.int] (AC Z2.1))] }) (λ x2=>x2<=G7 i.1 Z1) (λ x2=>G7 i.1 Z1-x2) (λ _=>[]))]))]) ?_
 rintro ⟨b,c,z⟩ hpre
 have hpre:A8 b c/\0<=z/\z<=1000:=hpre
 refine AF (q:=let Z7:=drP b z c;let Z5:=cI (wR ((wR ((2:Int)*z))+(1:Int)));let Z3:=(.bytes b:RO)=.bytes b;(∃ x1:Nat,let Z12:=atC b z c x1;(x1<=8/\drF b z (8-x1) Z12=drP b z c)/\((rf (vI z))/\(vI (0:Int)=vI (x1:Int))/\(vI c.i=vI (Z12.i))/\(vI c.h=vI (Z12.h))/\Z3))/\∀ x1:Nat,let Z1:=atC b z c x1;let Z6:=nI (G7 b Z1);let Z4:=blC b Z1 3;(x1<=8/\drF b z (8-x1) Z1=drP b z c)->(ifB ((decide ((x1:Int)<(8:Int)))) (∃ i1:(List UInt8)×Cur×Int,let Z13:=blC i1.1 i1.2.1 i1.2.2;[DA.one (cI (3:Int))]=A3.args i1/\[PC.bt b,PC.im (vI (Z1.i)),PC.im (vI (Z1.h))]=Dd i1/\A3.pre i1/\((∃ x2:Nat,let Z10:=ptN b z Z4 x2;(x2<=G7 b Z1)/\((rf (vI z))/\(rf (vI (x1:Int)))/\(vI (wR ((3:Int)+(blV i1.1 i1.2.1 i1.2.2)))=vI (Z6-(x2:Int)))/\(vI (Z13.i)=vI (Z10.2.i))/\(vI (Z13.h)=vI (Z10.2.h))/\Z3/\(([]:List (List Dat))=(AC Z10.1))))/\∀ x2:Nat,let Z2:=ptN b z Z4 x2;(x2<=G7 b Z1)->(ifB ((decide ((Z6-(x2:Int))>(0:Int)))) (∃ i2:(List UInt8)×Cur×Int,let Z14:=blC i2.1 i2.2.1 i2.2.2;let Z8:=wR ((blV i2.1 i2.2.1 i2.2.2)-z);[DA.one Z5]=A3.args i2/\[PC.bt b,PC.im (vI (Z2.2.i)),PC.im (vI (Z2.2.h))]=Dd i2/\A3.pre i2/\(∃ i3:(List UInt8)×Cur×Int,let Z15:=blC i3.1 i3.2.1 i3.2.2;let Z9:=wR ((blV i3.1 i3.2.1 i3.2.2)-z);[DA.one Z5]=A3.args i3/\[PC.bt b,PC.im (vI (Z14.i)),PC.im (vI (Z14.h))]=Dd i3/\A3.pre i3/\(((AC Z2.1).length+([[Dat.int Z8,Dat.int Z9]]:List (List Dat)).length<=2199023255552)/\(∃ y3:Nat,let Z11:=ptN b z Z4 y3;(y3<=G7 b Z1)/\(G7 b Z1-y3<G7 b Z1-x2)/\((rf (vI z))/\(rf (vI (x1:Int)))/\(vI (wR ((Z6-(x2:Int))-(1:Int)))=vI (Z6-(y3:Int)))/\(vI (Z15.i)=vI (Z11.2.i))/\(vI (Z15.h)=vI (Z11.2.h))/\Z3/\(((AC Z2.1)++([[Dat.int Z8,Dat.int Z9]]:List (List Dat)))=(AC Z11.1))))))) (∃ i4:(List V2),[DA.one (DC.sl 44 [.int,.int] (AC Z2.1))]=Hr.args i4/\Hr.pre i4/\(∃ i5:(List V2),[DA.one (DC.sl 44 [.int,.int] (AC (C2 i4)))]=FA.args i5/\FA.pre i5/\(ifB ((AU i5)) ((AC (C2 i4)=AC Z7.1)/\(vI (Z2.2.i)=vI ((Z7.2).i))/\(vI (Z2.2.h)=vI ((Z7.2).h))) (∃ y4:Nat,let Z16:=atC b z c y4;(y4<=8/\drF b z (8-y4) Z16=drP b z c)/\(8-y4<8-x1)/\((rf (vI z))/\(vI (wR ((x1:Int)+(1:Int)))=vI (y4:Int))/\(vI (Z2.2.i)=vI (Z16.i))/\(vI (Z2.2.h)=vI (Z16.h))/\Z3)))))))) ((([[Dat.int (-1:Int),Dat.int (-1:Int)],[Dat.int (1:Int),Dat.int (-1:Int)],[Dat.int (0:Int),Dat.int (1:Int)]]:List (List Dat))=AC Z7.1)/\(vI (Z1.i)=vI ((Z7.2).i))/\(vI (Z1.h)=vI ((Z7.2).h))))) (by kernel_rfl) ?_
 conv=>zeta
 delta ifB vI wR nI
 obtain ⟨hc,hz0,hz1⟩:=hpre
 have hw:IntKind.i64.wrap (IntKind.i64.wrap (2*z)+1)=2*z+1:=by rw [AB (x:=2*z) (by omega) (by omega),AB (by omega) (by omega)]
 refine ⟨⟨0,by
  exact ⟨Nat.zero_le _,rfl⟩,?_⟩,?_⟩
 ·refine ⟨rfl,rfl,?_,?_,?_⟩
  ·rfl
  ·rfl
  rfl
 intro (k:Nat) hki1
 have hki1:k<=8/\drF b z (8-k) (atC b z c k)=drP b z c:=hki1
 refine And.symm ⟨λ c8=>?_,λ c8=>?_⟩
 ·try simp only [nrm] at c8
  have hr:drP b z c=([(-1,-1),(1,-1),(0,1)],atC b z c k):=by rw [← hki1.2,show 8-k=0 by omega];rfl
  refine ⟨?_,?_,?_⟩
  ·first|(rw [hr];done)|(rw [hr];rfl)|(rw [hr,hpt];done)
  ·first|(rw [hr];done)|(rw [hr];rfl)|(rw [hr,hpt];done)
  first|(rw [hr];done)|(rw [hr];rfl)|(rw [hr,hpt];done)
 try simp only [nrm] at c8
 have hcr:=Vt b (atC b z c k)
 refine ⟨(b,(atC b z c k),(3:Int)),by
  rfl,rfl,by
  show A8 b (atC b z c k)
  first|exact Cy z hc k|exact (EJ z (Bl 3 (Cy z hc k)) j)|exact Bl _ (EJ z (Bl 3 (Cy z hc k)) j)|(rw [Gc];omega)|trivial,?_⟩
 refine ⟨⟨0,by
  first|omega|trivial,?_⟩,?_⟩
 ·refine ⟨rfl,rfl,?_,?_,?_,?_,?_⟩
  ·show Value.int .i64 (IntKind.i64.wrap ((3:Int)+(blV b (atC b z c k) (3:Int))))=Value.int .i64 ((((G7 b (atC b z c k)):Nat):Int)-(0:Int))
   first|rfl|exact Am (by rw [AB (by omega) (by omega)];omega)
  ·show Value.int .i64 ((blC b (atC b z c k) (3:Int)).i)=Value.int .i64 ((ptN b z (blC b (atC b z c k) 3) 0).2.i)
   first|rfl|exact Am (by rw [AB (by omega) (by omega)];omega)
  ·show Value.int .i64 ((blC b (atC b z c k) (3:Int)).h)=Value.int .i64 ((ptN b z (blC b (atC b z c k) 3) 0).2.h)
   first|rfl|exact Am (by rw [AB (by omega) (by omega)];omega)
  ·first|rfl|exact Am (by rw [AB (by omega) (by omega)];omega)
  first|rfl|exact Am (by rw [AB (by omega) (by omega)];omega)
 intro (j:Nat) hki12
 have hki12:j<=G7 b (atC b z c k):=hki12
 refine ⟨λ c21=>?_,λ c21=>?_⟩
 ·try simp only [nrm] at c21
  have q1:=Dc b (ptN b z (blC b (atC b z c k) 3) j).2 (n:=2*z+1) (by omega)
  have q2:=Dc b (blC b (ptN b z (blC b (atC b z c k) 3) j).2 (2*z+1)) (n:=2*z+1) (by omega)
  refine ⟨(b,(ptN b z (blC b (atC b z c k) 3) j).2,(2*z+1)),by
   exact congrArg (λ x=>[DA.one (DC.im (Value.int .i64 x))]) hw,rfl,by
   show A8 b ((ptN b z (blC b (atC b z c k) 3) j).2)
   first|exact Cy z hc k|exact (EJ z (Bl 3 (Cy z hc k)) j)|exact Bl _ (EJ z (Bl 3 (Cy z hc k)) j)|(rw [Gc];omega)|trivial,?_⟩
  refine ⟨(b,(blC b (ptN b z (blC b (atC b z c k) 3) j).2 (2*z+1)),(2*z+1)),by
   exact congrArg (λ x=>[DA.one (DC.im (Value.int .i64 x))]) hw,rfl,by
   show A8 b (blC b (ptN b z (blC b (atC b z c k) 3) j).2 (2*z+1))
   first|exact Cy z hc k|exact (EJ z (Bl 3 (Cy z hc k)) j)|exact Bl _ (EJ z (Bl 3 (Cy z hc k)) j)|(rw [Gc];omega)|trivial,?_⟩
  refine ao (a:=(AC (ptN b z (blC b (atC b z c k) 3) j).1).length+([[Dat.int (IntKind.i64.wrap ((blV b ((ptN b z (blC b (atC b z c k) 3) j).2) (2*z+1))-z)),Dat.int (IntKind.i64.wrap ((blV b (blC b (ptN b z (blC b (atC b z c k) 3) j).2 (2*z+1)) (2*z+1))-z))]]:List (List Dat)).length<=2199023255552) (by first|rfl|omega|(rw [AI,Gc];simp only [List.length_cons,List.length_nil];omega)) λ o28=>?_
  refine ⟨j+1,by
   first|omega|trivial,by
   first|omega|(simp;omega),?_⟩
  refine ⟨rfl,rfl,?_,?_,?_,?_,?_⟩
  ·first|rfl|exact Am (by rw [AB (by omega) (by omega)];omega)
  ·show Value.int .i64 ((blC b (blC b (ptN b z (blC b (atC b z c k) 3) j).2 (2*z+1)) (2*z+1)).i)=Value.int .i64 ((ptN b z (blC b (atC b z c k) 3) (j+1)).2.i)
   first|rfl|exact Am (by rw [AB (by omega) (by omega)];omega)
  ·show Value.int .i64 ((blC b (blC b (ptN b z (blC b (atC b z c k) 3) j).2 (2*z+1)) (2*z+1)).h)=Value.int .i64 ((ptN b z (blC b (atC b z c k) 3) (j+1)).2.h)
   first|rfl|exact Am (by rw [AB (by omega) (by omega)];omega)
  ·first|rfl|exact Am (by rw [AB (by omega) (by omega)];omega)
  show ((AC (ptN b z (blC b (atC b z c k) 3) j).1)++([[Dat.int (IntKind.i64.wrap ((blV b ((ptN b z (blC b (atC b z c k) 3) j).2) (2*z+1))-z)),Dat.int (IntKind.i64.wrap ((blV b (blC b (ptN b z (blC b (atC b z c k) 3) j).2 (2*z+1)) (2*z+1))-z))]]:List (List Dat)))=(AC (ptN b z (blC b (atC b z c k) 3) (j+1)).1)
  rw [AB (by omega) (by omega),AB (by omega) (by omega)];exact RQ _ _ _
 try simp only [nrm] at c21
 have hj:G7 b (atC b z c k)=j:=by omega
 have hpt:ptN b z (blC b (atC b z c k) 3) j=att b z (atC b z c k):=by unfold att;rw [hj]
 refine ⟨(ptN b z (blC b (atC b z c k) 3) j).1,by
  rfl,by
  show ((ptN b z (blC b (atC b z c k) 3) j).1).length<=1048576
  first|exact Cy z hc k|exact (EJ z (Bl 3 (Cy z hc k)) j)|exact Bl _ (EJ z (Bl 3 (Cy z hc k)) j)|(rw [Gc];omega)|trivial,?_⟩
 refine ⟨(C2 ((ptN b z (blC b (atC b z c k) 3) j).1)),by
  rfl,by
  first|exact Cy z hc k|exact (EJ z (Bl 3 (Cy z hc k)) j)|exact Bl _ (EJ z (Bl 3 (Cy z hc k)) j)|(rw [Gc];omega)|trivial,?_⟩
 refine ⟨λ c45=>?_,λ c45=>?_⟩
 ·try simp only [nrm] at c45
  rw [hpt] at c45
  have hr:drP b z c=(C2 (att b z (atC b z c k)).1,(att b z (atC b z c k)).2):=by rw [← hki1.2,show 8-k=(7-k)+1 by omega];exact if_pos c45
  refine ⟨?_,?_,?_⟩
  ·first|(rw [hr];done)|(rw [hr];rfl)|(rw [hr,hpt];done)
  ·first|(rw [hr];done)|(rw [hr];rfl)|(rw [hr,hpt];done)
  first|(rw [hr];done)|(rw [hr];rfl)|(rw [hr,hpt];done)
 try simp only [nrm] at c45
 rw [hpt] at c45
 have hr:drF b z (8-(k+1)) (atC b z c (k+1))=drP b z c:=by rw [← hki1.2,show 8-k=(8-(k+1))+1 by omega];exact (if_neg (by rw [c45];simp)).symm
 refine ⟨k+1,by
  exact ⟨by omega,hr⟩,by
  first|omega|(simp;omega),?_⟩
 refine ⟨rfl,?_,?_,?_,?_⟩
 ·first|exact Am (AB (by omega) (by omega))|rfl|(rw [hpt];rfl)
 ·first|exact Am (AB (by omega) (by omega))|rfl|(rw [hpt];rfl)
 ·first|exact Am (AB (by omega) (by omega))|rfl|(rw [hpt];rfl)
 first|exact Am (AB (by omega) (by omega))|rfl|(rw [hpt];rfl)
end Go.Proofs.YtndnhlhnjiopfaaGreat
