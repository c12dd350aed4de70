import Derived.Test.YtndnhlhnjiopfaaGreatSgRkD0
import Derived.Test.YtndnhlhnjiopfaaGreatSgScW
import Derived.Test.YtndnhlhnjiopfaaGreatSgHus
import Derived.Test.YtndnhlhnjiopfaaGreatSgRkHu
namespace Go.Proofs.YtndnhlhnjiopfaaGreat
set_option maxRecDepth 100000
set_option linter.unusedVariables false
set_option linter.unusedSimpArgs false
open Go.RowKit
def Bp (b:List UInt8) (c:Cur):V2:=(blV b c 21-10,blV b (blC b c 21) 21-10)
def BG (b:List UInt8) (c:Cur):Cur:=blC b (blC b c 21) 21
def NT:(List UInt8)×Cur->List PC:=λ i=>[.bt i.1,.im (.int .i64 i.2.i),.im (.int .i64 i.2.h)]
def RW:(List UInt8)×Cur->List PC:=λ i=>[.bt i.1,.im (.int .i64 ((BG i.1 i.2).i)),.im (.int .i64 ((BG i.1 i.2).h))]
def ID:Con:={ ι:=(List UInt8)×Cur,pre:=λ i=>Aw i.1 i.2,args:=λ i=>[],ptr:=some (NT,RW),res:=λ i=>⟨false,[some 2],[rcI ((Bp i.1 i.2).1),rcI ((Bp i.1 i.2).2)]⟩ }
theorem Vp:ID.OkP Tryz.prog 57 NT RW:=by
 refine Sf (X:=⟨tt,[(68,As)],[4000000],10,[]⟩) AH AI (CTok.consP IC (CTok.nil _)) Tryz.func57 (λ _=>[]) ?_
 rintro ⟨b,c⟩ hpre
 have hpre:Aw b c:=hpre
 refine AG (q:=∃ i1:(List UInt8)×Cur×Int,let Z1:=blC i1.1 i1.2.1 i1.2.2;[DA.one (cI (21:Int))]=As.args i1/\[PC.bt b,PC.im (vI c.i),PC.im (vI c.h)]=DE i1/\As.pre i1/\(∃ i2:(List UInt8)×Cur×Int,let Z2:=blC i2.1 i2.2.1 i2.2.2;[DA.one (cI (21:Int))]=As.args i2/\[PC.bt b,PC.im (vI (Z1.i)),PC.im (vI (Z1.h))]=DE i2/\As.pre i2/\((vI (wR ((blV i1.1 i1.2.1 i1.2.2)-(10:Int)))=vI ((Bp b c).1))/\(vI (wR ((blV i2.1 i2.2.1 i2.2.2)-(10:Int)))=vI ((Bp b c).2))/\(vI (Z2.i)=vI ((BG b c).i))/\(vI (Z2.h)=vI ((BG b c).h))))) (by kernel_rfl) ?_
 conv=>zeta
 delta vI wR
 have k1:=BV 21 hpre
 have q1:=DD b c (n:=21) (by omega)
 have q2:=DD b (blC b c 21) (n:=21) (by omega)
 refine ⟨(b,c,(21:Int)),by
  rfl,rfl,by
  show Aw b c
  first|exact hpre|exact k1,?_⟩
 refine ⟨(b,(blC b c (21:Int)),(21:Int)),by
  rfl,rfl,by
  show Aw b (blC b c (21:Int))
  first|exact hpre|exact k1,?_⟩
 refine ⟨?_,?_,?_,?_⟩
 ·show Value.int .i64 (IntKind.i64.wrap ((blV b c (21:Int))-(10:Int)))=Value.int .i64 ((Bp b c).1)
  first|rfl|(rw [AB (by omega) (by omega)];rfl)
 ·show Value.int .i64 (IntKind.i64.wrap ((blV b (blC b c (21:Int)) (21:Int))-(10:Int)))=Value.int .i64 ((Bp b c).2)
  first|rfl|(rw [AB (by omega) (by omega)];rfl)
 ·show Value.int .i64 ((blC b (blC b c (21:Int)) (21:Int)).i)=Value.int .i64 ((BG b c).i)
  first|rfl|(rw [AB (by omega) (by omega)];rfl)
 show Value.int .i64 ((blC b (blC b c (21:Int)) (21:Int)).h)=Value.int .i64 ((BG b c).h)
 first|rfl|(rw [AB (by omega) (by omega)];rfl)
def ptS (b:List UInt8) (z:Int) (p:List V2×Cur):List V2×Cur:=
 (p.1++[(blV b p.2 (2*z+1)-z,blV b (blC b p.2 (2*z+1)) (2*z+1)-z)],blC b (blC b p.2 (2*z+1)) (2*z+1))
def ptN (b:List UInt8) (z:Int) (c:Cur):Nat->List V2×Cur
 | 0=>([],c)
 | j+1=>ptS b z (ptN b z c j)
def GP (b:List UInt8) (c:Cur):Nat:=(3+blV b c 3).toNat
def att (b:List UInt8) (z:Int) (c:Cur):List V2×Cur:=ptN b z (blC b c 3) (GP b c)
def drF (b:List UInt8) (z:Int):Nat->Cur->List V2×Cur
 | 0,c=>([(-1,-1),(1,-1),(0,1)],c)
 | k+1,c=>if Af (Ch (att b z c).1)=true then (Ch (att b z c).1,(att b z c).2) else drF b z k (att b z c).2
def drP (b:List UInt8) (z:Int) (c:Cur):List V2×Cur:=drF b z 8 c
def atC (b:List UInt8) (z:Int) (c:Cur):Nat->Cur
 | 0=>c
 | k+1=>(att b z (atC b z c k)).2
theorem Fx (b:List UInt8) (z:Int) (c:Cur):∀ j,(ptN b z c j).1.length=j
 | 0=>rfl
 | j+1=>by simp [ptN,ptS,Fx b z c j]
theorem Do {b:List UInt8} {c:Cur} (z:Int) (h:Aw b c):∀ j,Aw b (ptN b z c j).2
 | 0=>h
 | j+1=>BV _ (BV _ (Do z h j))
theorem Wz {b:List UInt8} {c:Cur} (z:Int) (h:Aw b c):Aw b (att b z c).2:=Do z (BV 3 h) _
theorem Ce {b:List UInt8} {c:Cur} (z:Int) (h:Aw b c):∀ k,Aw b (atC b z c k)
 | 0=>h
 | k+1=>Wz z (Ce z h k)
theorem Ul (b:List UInt8) (c:Cur):3<=GP b c/\GP b c<=5/\((GP b c:Nat):Int)=3+blV b c 3:=by
 have:=DD b c (n:=3) (by omega)
 unfold GP;omega
theorem QR (l:List V2) (x y:Int):AD l++[[Dat.int x,Dat.int y]]=AD (l++[(x,y)]):=by simp [AD,Mm]
theorem Um {b:List UInt8} {z:Int} (hz:0<=z) (c:Cur):∀ j,∀ x ∈ (ptN b z c j).1,(-z<=x.1/\x.1<=z)/\-z<=x.2/\x.2<=z
 | 0,x,hx=>by simp [ptN] at hx
 | j+1,x,hx=>by
  simp only [ptN,ptS] at hx
  rcases List.mem_append.1 hx with hx|hx
  ·exact Um hz c j x hx
  ·rw [List.mem_singleton.1 hx]
   have q1:=DD b (ptN b z c j).2 (n:=2*z+1) (by omega)
   have q2:=DD b (blC b (ptN b z c j).2 (2*z+1)) (n:=2*z+1) (by omega)
   exact ⟨⟨by show -z<=_-z;omega,by show _-z<=z;omega⟩,by show -z<=_-z;omega,by show _-z<=z;omega⟩
theorem Un {b:List UInt8} {z:Int} (hz:1<=z):∀ k c,Af (drF b z k c).1=true/\(drF b z k c).1.length<=16/\∀ x ∈ (drF b z k c).1,(-z<=x.1/\x.1<=z)/\-z<=x.2/\x.2<=z
 | 0,c=>by
  refine ⟨by simp only [drF];decide,by simp [drF],λ x hx=>?_⟩
  simp only [drF,List.mem_cons,List.not_mem_nil,or_false] at hx
  rcases hx with rfl|rfl|rfl <;> exact ⟨⟨by omega,by omega⟩,by omega,by omega⟩
 | k+1,c=>by
  unfold drF
  split
  ·rename_i h
   refine ⟨h,?_,λ x hx=>?_⟩
   ·simp only [Af,Bool.and_eq_true,FP] at h
    have:=h.1.1
    simp only;omega
   ·exact Um (by omega) _ _ x (Sa hx)
  ·exact Un hz k _
theorem W0 {b:List UInt8} {z:Int} (hz:1<=z) (c:Cur):Af (drP b z c).1=true/\(drP b z c).1.length<=16/\∀ x ∈ (drP b z c).1,(-z<=x.1/\x.1<=z)/\-z<=x.2/\x.2<=z:=Un hz 8 c
def LX:(List UInt8)×Cur×Int->List PC:=λ i=>[.bt i.1,.im (.int .i64 i.2.1.i),.im (.int .i64 i.2.1.h)]
def O8:(List UInt8)×Cur×Int->List PC:=λ i=>[.bt i.1,.im (.int .i64 (((drP i.1 i.2.2 i.2.1).2).i)),.im (.int .i64 (((drP i.1 i.2.2 i.2.1).2).h))]
def Gu:Con:={ ι:=(List UInt8)×Cur×Int,pre:=λ i=>Aw i.1 i.2.1/\0<=i.2.2/\i.2.2<=1000,args:=λ i=>[.one (cI i.2.2)],ptr:=some (LX,O8),res:=λ i=>⟨false,[none],[.own 44 [.int,.int] (AD (drP i.1 i.2.2 i.2.1).1)]⟩ }
theorem Uo:Gu.OkP Tryz.prog 33 LX O8:=by
 refine Sf (X:=⟨tt,[(68,As),(70,Gs),(71,Ea)],[4000000],48,[]⟩) AH AI (CTok.consP IC (CTok.cons Ui (CTok.cons QD (CTok.nil _)))) Tryz.func33 (λ (i:(List UInt8)×Cur×Int)=>[(2,.mk 3 (Nat) (λ x1=>let Z3:=atC i.1 i.2.2 i.2.1 x1;{ tm:=[(0,tP 1 0),(1,tI i.2.2),(5,tI (x1:Int))],en:=[(1,.box [.ext 2,kI (Z3.i),kI (Z3.h)]),(2,.ro (.bytes i.1) [])] }) (λ x1=>x1<=8/\drF i.1 i.2.2 (8-x1) (atC i.1 i.2.2 i.2.1 x1)=drP i.1 i.2.2 i.2.1) (λ x1=>8-x1) (λ x1=>let Z1:=atC i.1 i.2.2 i.2.1 x1;[(6,.mk 4 (Nat) (λ x2=>let Z2:=ptN i.1 i.2.2 (blC i.1 Z1 3) x2;{ tm:=[(0,tP 1 0),(1,tI i.2.2),(5,tI (x1:Int)),(7,tI ((nI (GP i.1 Z1))-(x2:Int))),(6,tX 3)],en:=[(1,.box [.ext 2,kI (Z2.2.i),kI (Z2.2.h)]),(2,.ro (.bytes i.1) []),(3,.own 44 [.int,.int] (AD Z2.1))] }) (λ x2=>x2<=GP i.1 Z1) (λ x2=>GP i.1 Z1-x2) (λ _=>[]))]))]) ?_
 rintro ⟨b,c,z⟩ hpre
 have hpre:Aw b c/\0<=z/\z<=1000:=hpre
 refine AG (q:=let Z7:=drP b z c;let Z5:=cI (wR ((wR ((2:Int)*z))+(1:Int)));let Z3:=(.bytes b:RO)=.bytes b;(∃ x1:Nat,let Z12:=atC b z c x1;(x1<=8/\drF b z (8-x1) Z12=drP b z c)/\((rf (vI z))/\(vI (0:Int)=vI (x1:Int))/\(vI c.i=vI (Z12.i))/\(vI c.h=vI (Z12.h))/\Z3))/\∀ x1:Nat,let Z1:=atC b z c x1;let Z6:=nI (GP b Z1);let Z4:=blC b Z1 3;(x1<=8/\drF b z (8-x1) Z1=drP b z c)->(ifB ((decide ((x1:Int)<(8:Int)))) (∃ i1:(List UInt8)×Cur×Int,let Z13:=blC i1.1 i1.2.1 i1.2.2;[DA.one (cI (3:Int))]=As.args i1/\[PC.bt b,PC.im (vI (Z1.i)),PC.im (vI (Z1.h))]=DE i1/\As.pre i1/\((∃ x2:Nat,let Z10:=ptN b z Z4 x2;(x2<=GP b Z1)/\((rf (vI z))/\(rf (vI (x1:Int)))/\(vI (wR ((3:Int)+(blV i1.1 i1.2.1 i1.2.2)))=vI (Z6-(x2:Int)))/\(vI (Z13.i)=vI (Z10.2.i))/\(vI (Z13.h)=vI (Z10.2.h))/\Z3/\(([]:List (List Dat))=(AD Z10.1))))/\∀ x2:Nat,let Z2:=ptN b z Z4 x2;(x2<=GP b Z1)->(ifB ((decide ((Z6-(x2:Int))>(0:Int)))) (∃ i2:(List UInt8)×Cur×Int,let Z14:=blC i2.1 i2.2.1 i2.2.2;let Z8:=wR ((blV i2.1 i2.2.1 i2.2.2)-z);[DA.one Z5]=As.args i2/\[PC.bt b,PC.im (vI (Z2.2.i)),PC.im (vI (Z2.2.h))]=DE i2/\As.pre i2/\(∃ i3:(List UInt8)×Cur×Int,let Z15:=blC i3.1 i3.2.1 i3.2.2;let Z9:=wR ((blV i3.1 i3.2.1 i3.2.2)-z);[DA.one Z5]=As.args i3/\[PC.bt b,PC.im (vI (Z14.i)),PC.im (vI (Z14.h))]=DE i3/\As.pre i3/\(((AD Z2.1).length+([[Dat.int Z8,Dat.int Z9]]:List (List Dat)).length<=2199023255552)/\(∃ y3:Nat,let Z11:=ptN b z Z4 y3;(y3<=GP b Z1)/\(GP b Z1-y3<GP b Z1-x2)/\((rf (vI z))/\(rf (vI (x1:Int)))/\(vI (wR ((Z6-(x2:Int))-(1:Int)))=vI (Z6-(y3:Int)))/\(vI (Z15.i)=vI (Z11.2.i))/\(vI (Z15.h)=vI (Z11.2.h))/\Z3/\(((AD Z2.1)++([[Dat.int Z8,Dat.int Z9]]:List (List Dat)))=(AD Z11.1))))))) (∃ i4:(List V2),[DA.one (DC.sl 44 [.int,.int] (AD Z2.1))]=Gs.args i4/\Gs.pre i4/\(∃ i5:(List V2),[DA.one (DC.sl 44 [.int,.int] (AD (Ch i4)))]=Ea.args i5/\Ea.pre i5/\(ifB ((Af i5)) ((AD (Ch i4)=AD Z7.1)/\(vI (Z2.2.i)=vI ((Z7.2).i))/\(vI (Z2.2.h)=vI ((Z7.2).h))) (∃ y4:Nat,let Z16:=atC b z c y4;(y4<=8/\drF b z (8-y4) Z16=drP b z c)/\(8-y4<8-x1)/\((rf (vI z))/\(vI (wR ((x1:Int)+(1:Int)))=vI (y4:Int))/\(vI (Z2.2.i)=vI (Z16.i))/\(vI (Z2.2.h)=vI (Z16.h))/\Z3)))))))) ((([[Dat.int (-1:Int),Dat.int (-1:Int)],[Dat.int (1:Int),Dat.int (-1:Int)],[Dat.int (0:Int),Dat.int (1:Int)]]:List (List Dat))=AD Z7.1)/\(vI (Z1.i)=vI ((Z7.2).i))/\(vI (Z1.h)=vI ((Z7.2).h))))) (by kernel_rfl) ?_
 conv=>zeta
 delta ifB vI wR nI
 obtain ⟨hc,hz0,hz1⟩:=hpre
 have hw:IntKind.i64.wrap (IntKind.i64.wrap (2*z)+1)=2*z+1:=by rw [AB (x:=2*z) (by omega) (by omega),AB (by omega) (by omega)]
 refine ⟨⟨0,by
  exact ⟨Nat.zero_le _,rfl⟩,?_⟩,?_⟩
 ·refine ⟨rfl,rfl,?_,?_,?_⟩
  ·rfl
  ·rfl
  rfl
 intro (k:Nat) hki1
 have hki1:k<=8/\drF b z (8-k) (atC b z c k)=drP b z c:=hki1
 refine And.symm ⟨λ c8=>?_,λ c8=>?_⟩
 ·try simp only [nrm] at c8
  have hr:drP b z c=([(-1,-1),(1,-1),(0,1)],atC b z c k):=by rw [← hki1.2,show 8-k=0 by omega];rfl
  refine ⟨?_,?_,?_⟩
  ·first|(rw [hr];done)|(rw [hr];rfl)|(rw [hr,hpt];done)
  ·first|(rw [hr];done)|(rw [hr];rfl)|(rw [hr,hpt];done)
  first|(rw [hr];done)|(rw [hr];rfl)|(rw [hr,hpt];done)
 try simp only [nrm] at c8
 have hcr:=Ul b (atC b z c k)
 refine ⟨(b,(atC b z c k),(3:Int)),by
  rfl,rfl,by
  show Aw b (atC b z c k)
  first|exact Ce z hc k|exact (Do z (BV 3 (Ce z hc k)) j)|exact BV _ (Do z (BV 3 (Ce z hc k)) j)|(rw [Fx];omega)|trivial,?_⟩
 refine ⟨⟨0,by
  first|omega|trivial,?_⟩,?_⟩
 ·refine ⟨rfl,rfl,?_,?_,?_,?_,?_⟩
  ·show Value.int .i64 (IntKind.i64.wrap ((3:Int)+(blV b (atC b z c k) (3:Int))))=Value.int .i64 ((((GP b (atC b z c k)):Nat):Int)-(0:Int))
   first|rfl|exact Al (by rw [AB (by omega) (by omega)];omega)
  ·show Value.int .i64 ((blC b (atC b z c k) (3:Int)).i)=Value.int .i64 ((ptN b z (blC b (atC b z c k) 3) 0).2.i)
   first|rfl|exact Al (by rw [AB (by omega) (by omega)];omega)
  ·show Value.int .i64 ((blC b (atC b z c k) (3:Int)).h)=Value.int .i64 ((ptN b z (blC b (atC b z c k) 3) 0).2.h)
   first|rfl|exact Al (by rw [AB (by omega) (by omega)];omega)
  ·first|rfl|exact Al (by rw [AB (by omega) (by omega)];omega)
  first|rfl|exact Al (by rw [AB (by omega) (by omega)];omega)
 intro (j:Nat) hki12
 have hki12:j<=GP b (atC b z c k):=hki12
 refine ⟨λ c21=>?_,λ c21=>?_⟩
 ·try simp only [nrm] at c21
  have q1:=DD b (ptN b z (blC b (atC b z c k) 3) j).2 (n:=2*z+1) (by omega)
  have q2:=DD b (blC b (ptN b z (blC b (atC b z c k) 3) j).2 (2*z+1)) (n:=2*z+1) (by omega)
  refine ⟨(b,(ptN b z (blC b (atC b z c k) 3) j).2,(2*z+1)),by
   exact congrArg (λ x=>[DA.one (DC.im (Value.int .i64 x))]) hw,rfl,by
   show Aw b ((ptN b z (blC b (atC b z c k) 3) j).2)
   first|exact Ce z hc k|exact (Do z (BV 3 (Ce z hc k)) j)|exact BV _ (Do z (BV 3 (Ce z hc k)) j)|(rw [Fx];omega)|trivial,?_⟩
  refine ⟨(b,(blC b (ptN b z (blC b (atC b z c k) 3) j).2 (2*z+1)),(2*z+1)),by
   exact congrArg (λ x=>[DA.one (DC.im (Value.int .i64 x))]) hw,rfl,by
   show Aw b (blC b (ptN b z (blC b (atC b z c k) 3) j).2 (2*z+1))
   first|exact Ce z hc k|exact (Do z (BV 3 (Ce z hc k)) j)|exact BV _ (Do z (BV 3 (Ce z hc k)) j)|(rw [Fx];omega)|trivial,?_⟩
  refine ao (a:=(AD (ptN b z (blC b (atC b z c k) 3) j).1).length+([[Dat.int (IntKind.i64.wrap ((blV b ((ptN b z (blC b (atC b z c k) 3) j).2) (2*z+1))-z)),Dat.int (IntKind.i64.wrap ((blV b (blC b (ptN b z (blC b (atC b z c k) 3) j).2 (2*z+1)) (2*z+1))-z))]]:List (List Dat)).length<=2199023255552) (by first|rfl|omega|(rw [AL,Fx];simp only [List.length_cons,List.length_nil];omega)) λ o28=>?_
  refine ⟨j+1,by
   first|omega|trivial,by
   first|omega|(simp;omega),?_⟩
  refine ⟨rfl,rfl,?_,?_,?_,?_,?_⟩
  ·first|rfl|exact Al (by rw [AB (by omega) (by omega)];omega)
  ·show Value.int .i64 ((blC b (blC b (ptN b z (blC b (atC b z c k) 3) j).2 (2*z+1)) (2*z+1)).i)=Value.int .i64 ((ptN b z (blC b (atC b z c k) 3) (j+1)).2.i)
   first|rfl|exact Al (by rw [AB (by omega) (by omega)];omega)
  ·show Value.int .i64 ((blC b (blC b (ptN b z (blC b (atC b z c k) 3) j).2 (2*z+1)) (2*z+1)).h)=Value.int .i64 ((ptN b z (blC b (atC b z c k) 3) (j+1)).2.h)
   first|rfl|exact Al (by rw [AB (by omega) (by omega)];omega)
  ·first|rfl|exact Al (by rw [AB (by omega) (by omega)];omega)
  show ((AD (ptN b z (blC b (atC b z c k) 3) j).1)++([[Dat.int (IntKind.i64.wrap ((blV b ((ptN b z (blC b (atC b z c k) 3) j).2) (2*z+1))-z)),Dat.int (IntKind.i64.wrap ((blV b (blC b (ptN b z (blC b (atC b z c k) 3) j).2 (2*z+1)) (2*z+1))-z))]]:List (List Dat)))=(AD (ptN b z (blC b (atC b z c k) 3) (j+1)).1)
  rw [AB (by omega) (by omega),AB (by omega) (by omega)];exact QR _ _ _
 try simp only [nrm] at c21
 have hj:GP b (atC b z c k)=j:=by omega
 have hpt:ptN b z (blC b (atC b z c k) 3) j=att b z (atC b z c k):=by unfold att;rw [hj]
 refine ⟨(ptN b z (blC b (atC b z c k) 3) j).1,by
  rfl,by
  show ((ptN b z (blC b (atC b z c k) 3) j).1).length<=1048576
  first|exact Ce z hc k|exact (Do z (BV 3 (Ce z hc k)) j)|exact BV _ (Do z (BV 3 (Ce z hc k)) j)|(rw [Fx];omega)|trivial,?_⟩
 refine ⟨(Ch ((ptN b z (blC b (atC b z c k) 3) j).1)),by
  rfl,by
  first|exact Ce z hc k|exact (Do z (BV 3 (Ce z hc k)) j)|exact BV _ (Do z (BV 3 (Ce z hc k)) j)|(rw [Fx];omega)|trivial,?_⟩
 refine ⟨λ c45=>?_,λ c45=>?_⟩
 ·try simp only [nrm] at c45
  rw [hpt] at c45
  have hr:drP b z c=(Ch (att b z (atC b z c k)).1,(att b z (atC b z c k)).2):=by rw [← hki1.2,show 8-k=(7-k)+1 by omega];exact if_pos c45
  refine ⟨?_,?_,?_⟩
  ·first|(rw [hr];done)|(rw [hr];rfl)|(rw [hr,hpt];done)
  ·first|(rw [hr];done)|(rw [hr];rfl)|(rw [hr,hpt];done)
  first|(rw [hr];done)|(rw [hr];rfl)|(rw [hr,hpt];done)
 try simp only [nrm] at c45
 rw [hpt] at c45
 have hr:drF b z (8-(k+1)) (atC b z c (k+1))=drP b z c:=by rw [← hki1.2,show 8-k=(8-(k+1))+1 by omega];exact (if_neg (by rw [c45];simp)).symm
 refine ⟨k+1,by
  exact ⟨by omega,hr⟩,by
  first|omega|(simp;omega),?_⟩
 refine ⟨rfl,?_,?_,?_,?_⟩
 ·first|exact Al (AB (by omega) (by omega))|rfl|(rw [hpt];rfl)
 ·first|exact Al (AB (by omega) (by omega))|rfl|(rw [hpt];rfl)
 ·first|exact Al (AB (by omega) (by omega))|rfl|(rw [hpt];rfl)
 first|exact Al (AB (by omega) (by omega))|rfl|(rw [hpt];rfl)
end Go.Proofs.YtndnhlhnjiopfaaGreat
