import Derived.Test.YtdgmbbjoifneiaaGreatDoorPyRkD0
import Derived.Test.YtdgmbbjoifneiaaGreatDoorPyScW
import Derived.Test.YtdgmbbjoifneiaaGreatDoorPyHus
import Derived.Test.YtdgmbbjoifneiaaGreatDoorPyRkHs
namespace Go.Proofs.YtdgmbbjoifneiaaGreatDoor
set_option maxRecDepth 100000
set_option linter.unusedVariables false
set_option linter.unusedSimpArgs false
open Go.RowKit
def Bn (b:List UInt8) (c:Cur):V2:=(blV b c 21-10,blV b (blC b c 21) 21-10)
def OH (b:List UInt8) (c:Cur):Cur:=blC b (blC b c 21) 21
def MQ:(List UInt8)×Cur->List PC:=λ i=>[.bt i.1,.im (.int .i64 i.2.i),.im (.int .i64 i.2.h)]
def Ql:(List UInt8)×Cur->List PC:=λ i=>[.bt i.1,.im (.int .i64 ((OH i.1 i.2).i)),.im (.int .i64 ((OH i.1 i.2).h))]
def HT:Con:={ ι:=(List UInt8)×Cur,pre:=λ i=>Av i.1 i.2,args:=λ i=>[],ptr:=some (MQ,Ql),res:=λ i=>⟨false,[some 2],[.im (Value.int .i64 ((Bn i.1 i.2).1)),.im (Value.int .i64 ((Bn i.1 i.2).2))]⟩ }
theorem Vi:HT.OkP Tryz.prog 18 MQ Ql:=by
 refine VB (X:=⟨tt,[(33,A2)],[4000000],10,[]⟩) mixed AP (CTok.consP NX (CTok.nil _)) Tryz.func18 (λ _=>[]) ?_
 rintro ⟨b,c⟩ hpre
 have hpre:Av b c:=hpre
 refine AO (q:=∃ i1:(List UInt8)×Cur×Int,[DA.one (cI (21:Int))]=A2.args i1/\[PC.bt b,PC.im (Value.int .i64 c.i),PC.im (Value.int .i64 c.h)]=DX i1/\A2.pre i1/\(∃ i2:(List UInt8)×Cur×Int,[DA.one (cI (21:Int))]=A2.args i2/\[PC.bt b,PC.im (Value.int .i64 ((blC i1.1 i1.2.1 i1.2.2).i)),PC.im (Value.int .i64 ((blC i1.1 i1.2.1 i1.2.2).h))]=DX i2/\A2.pre i2/\((Value.int .i64 (IntKind.i64.wrap ((blV i1.1 i1.2.1 i1.2.2)-(10:Int)))=Value.int .i64 ((Bn b c).1))/\(Value.int .i64 (IntKind.i64.wrap ((blV i2.1 i2.2.1 i2.2.2)-(10:Int)))=Value.int .i64 ((Bn b c).2))/\(Value.int .i64 ((blC i2.1 i2.2.1 i2.2.2).i)=Value.int .i64 ((OH b c).i))/\(Value.int .i64 ((blC i2.1 i2.2.1 i2.2.2).h)=Value.int .i64 ((OH b c).h))))) (by kernel_rfl) ?_
 have k1:=BT 21 hpre
 have q1:=C4 b c (n:=21) (by omega)
 have q2:=C4 b (blC b c 21) (n:=21) (by omega)
 -- w1: below [DA.one (DC.im (Value.int .i64 (21 : Int)))]
 refine ⟨(b,c,(21:Int)),by
  rfl,rfl,by
  show Av b c
  first|exact hpre|exact k1,?_⟩
 -- w4: below [DA.one (DC.im (Value.int .i64 (21 : Int)))]
 refine ⟨(b,(blC b c (21:Int)),(21:Int)),by
  rfl,rfl,by
  show Av b (blC b c (21:Int))
  first|exact hpre|exact k1,?_⟩
 refine ⟨?_,?_,?_,?_⟩
 ·-- l7: Value.int .i64 (IntKind.i64.wrap ((blV b c (21 : Int)) - (10 : Int))) = Value.int .i64 ((Bn b c).1)
  show Value.int .i64 (IntKind.i64.wrap ((blV b c (21:Int))-(10:Int)))=Value.int .i64 ((Bn b c).1)
  first|rfl|(rw [AF (by omega) (by omega)];rfl)
 ·-- l8: Value.int .i64 (IntKind.i64.wrap ((blV b (blC b c (21 : Int)) (21 : Int)) - (10 : Int))) = Value.int .i64 ((Bn b c).2)
  show Value.int .i64 (IntKind.i64.wrap ((blV b (blC b c (21:Int)) (21:Int))-(10:Int)))=Value.int .i64 ((Bn b c).2)
  first|rfl|(rw [AF (by omega) (by omega)];rfl)
 ·-- l9: Value.int .i64 ((blC b (blC b c (21 : Int)) (21 : Int)).i) = Value.int .i64 ((OH b c).i)
  show Value.int .i64 ((blC b (blC b c (21:Int)) (21:Int)).i)=Value.int .i64 ((OH b c).i)
  first|rfl|(rw [AF (by omega) (by omega)];rfl)
 -- l10: Value.int .i64 ((blC b (blC b c (21 : Int)) (21 : Int)).h) = Value.int .i64 ((OH b c).h)
 show Value.int .i64 ((blC b (blC b c (21:Int)) (21:Int)).h)=Value.int .i64 ((OH b c).h)
 first|rfl|(rw [AF (by omega) (by omega)];rfl)
def ptS (b:List UInt8) (z:Int) (p:List V2×Cur):List V2×Cur:=
 (p.1++[(blV b p.2 (2*z+1)-z,blV b (blC b p.2 (2*z+1)) (2*z+1)-z)],blC b (blC b p.2 (2*z+1)) (2*z+1))
def ptN (b:List UInt8) (z:Int) (c:Cur):Nat->List V2×Cur
 | 0=>([],c)
 | j+1=>ptS b z (ptN b z c j)
def CH (b:List UInt8) (c:Cur):Nat:=(3+blV b c 3).toNat
def att (b:List UInt8) (z:Int) (c:Cur):List V2×Cur:=ptN b z (blC b c 3) (CH b c)
def drF (b:List UInt8) (z:Int):Nat->Cur->List V2×Cur
 | 0,c=>([(-1,-1),(1,-1),(0,1)],c)
 | k+1,c=>if AI (Ar (att b z c).1)=true then (Ar (att b z c).1,(att b z c).2) else drF b z k (att b z c).2
def drP (b:List UInt8) (z:Int) (c:Cur):List V2×Cur:=drF b z 8 c
def atC (b:List UInt8) (z:Int) (c:Cur):Nat->Cur
 | 0=>c
 | k+1=>(att b z (atC b z c k)).2
theorem E7 (b:List UInt8) (z:Int) (c:Cur):∀ j,(ptN b z c j).1.length=j
 | 0=>rfl
 | j+1=>by simp [ptN,ptS,E7 b z c j]
theorem Cz {b:List UInt8} {c:Cur} (z:Int) (h:Av b c):∀ j,Av b (ptN b z c j).2
 | 0=>h
 | j+1=>BT _ (BT _ (Cz z h j))
theorem Wr {b:List UInt8} {c:Cur} (z:Int) (h:Av b c):Av b (att b z c).2:=Cz z (BT 3 h) _
theorem Bo {b:List UInt8} {c:Cur} (z:Int) (h:Av b c):∀ k,Av b (atC b z c k)
 | 0=>h
 | k+1=>Wr z (Bo z h k)
theorem UN (b:List UInt8) (c:Cur):3<=CH b c/\CH b c<=5/\((CH b c:Nat):Int)=3+blV b c 3:=by
 have:=C4 b c (n:=3) (by omega)
 unfold CH;omega
theorem Pg (l:List V2) (x y:Int):AA l++[[Dat.int x,Dat.int y]]=AA (l++[(x,y)]):=by simp [AA,Ih]
theorem UO {b:List UInt8} {z:Int} (hz:0<=z) (c:Cur):∀ j,∀ x ∈ (ptN b z c j).1,(-z<=x.1/\x.1<=z)/\-z<=x.2/\x.2<=z
 | 0,x,hx=>by simp [ptN] at hx
 | j+1,x,hx=>by
  simp only [ptN,ptS] at hx
  rcases List.mem_append.1 hx with hx|hx
  ·exact UO hz c j x hx
  ·rw [List.mem_singleton.1 hx]
   have q1:=C4 b (ptN b z c j).2 (n:=2*z+1) (by omega)
   have q2:=C4 b (blC b (ptN b z c j).2 (2*z+1)) (n:=2*z+1) (by omega)
   exact ⟨⟨by show -z<=_-z;omega,by show _-z<=z;omega⟩,by show -z<=_-z;omega,by show _-z<=z;omega⟩
theorem UP {b:List UInt8} {z:Int} (hz:1<=z):∀ k c,AI (drF b z k c).1=true/\(drF b z k c).1.length<=16/\∀ x ∈ (drF b z k c).1,(-z<=x.1/\x.1<=z)/\-z<=x.2/\x.2<=z
 | 0,c=>by
  refine ⟨by simp only [drF];decide,by simp [drF],λ x hx=>?_⟩
  simp only [drF,List.mem_cons,List.not_mem_nil,or_false] at hx
  rcases hx with rfl|rfl|rfl <;> exact ⟨⟨by omega,by omega⟩,by omega,by omega⟩
 | k+1,c=>by
  unfold drF
  split
  ·rename_i h
   refine ⟨h,?_,λ x hx=>?_⟩
   ·simp only [AI,Bool.and_eq_true,Dm] at h
    have:=h.1.1
    simp only;omega
   ·exact UO (by omega) _ _ x (RW hx)
  ·exact UP hz k _
theorem Ws {b:List UInt8} {z:Int} (hz:1<=z) (c:Cur):AI (drP b z c).1=true/\(drP b z c).1.length<=16/\∀ x ∈ (drP b z c).1,(-z<=x.1/\x.1<=z)/\-z<=x.2/\x.2<=z:=UP hz 8 c
def KL:(List UInt8)×Cur×Int->List PC:=λ i=>[.bt i.1,.im (.int .i64 i.2.1.i),.im (.int .i64 i.2.1.h)]
def OI:(List UInt8)×Cur×Int->List PC:=λ i=>[.bt i.1,.im (.int .i64 (((drP i.1 i.2.2 i.2.1).2).i)),.im (.int .i64 (((drP i.1 i.2.2 i.2.1).2).h))]
def GB:Con:={ ι:=(List UInt8)×Cur×Int,pre:=λ i=>Av i.1 i.2.1/\0<=i.2.2/\i.2.2<=1000,args:=λ i=>[.one (.im (.int .i64 i.2.2))],ptr:=some (KL,OI),res:=λ i=>⟨false,[none],[.own 26 [.int,.int] (AA (drP i.1 i.2.2 i.2.1).1)]⟩ }
theorem UQ:GB.OkP Tryz.prog 16 KL OI:=by
 refine VB (X:=⟨tt,[(33,A2),(34,GA),(35,D3)],[4000000],48,[]⟩) mixed AP (CTok.consP NX (CTok.cons UM (CTok.cons PZ (CTok.nil _)))) Tryz.func16 (λ (i:(List UInt8)×Cur×Int)=>[(2,.mk 3 (Nat) (λ x1=>{ tm:=[(0,.one (.one (.bp 1 0))),(1,.one (.one (.im (Value.int .i64 i.2.2)))),(5,.one (.one (.im (Value.int .i64 (x1:Int)))))],en:=[(1,.box [.ext 2,.im (Value.int .i64 ((atC i.1 i.2.2 i.2.1 x1).i)),.im (Value.int .i64 ((atC i.1 i.2.2 i.2.1 x1).h))]),(2,.ro (.bytes i.1) [])] }) (λ x1=>x1<=8/\drF i.1 i.2.2 (8-x1) (atC i.1 i.2.2 i.2.1 x1)=drP i.1 i.2.2 i.2.1) (λ x1=>8-x1) (λ x1=>[(6,.mk 4 (Nat) (λ x2=>{ tm:=[(0,.one (.one (.bp 1 0))),(1,.one (.one (.im (Value.int .i64 i.2.2)))),(5,.one (.one (.im (Value.int .i64 (x1:Int))))),(7,.one (.one (.im (Value.int .i64 ((((CH i.1 (atC i.1 i.2.2 i.2.1 x1)):Nat):Int)-(x2:Int)))))),(6,.one (.one (.ext 3)))],en:=[(1,.box [.ext 2,.im (Value.int .i64 ((ptN i.1 i.2.2 (blC i.1 (atC i.1 i.2.2 i.2.1 x1) 3) x2).2.i)),.im (Value.int .i64 ((ptN i.1 i.2.2 (blC i.1 (atC i.1 i.2.2 i.2.1 x1) 3) x2).2.h))]),(2,.ro (.bytes i.1) []),(3,.own 26 [.int,.int] (AA (ptN i.1 i.2.2 (blC i.1 (atC i.1 i.2.2 i.2.1 x1) 3) x2).1))] }) (λ x2=>x2<=CH i.1 (atC i.1 i.2.2 i.2.1 x1)) (λ x2=>CH i.1 (atC i.1 i.2.2 i.2.1 x1)-x2) (λ _=>[]))]))]) ?_
 rintro ⟨b,c,z⟩ hpre
 have hpre:Av b c/\0<=z/\z<=1000:=hpre
 refine AO (q:=(∃ x1:Nat,(x1<=8/\drF b z (8-x1) (atC b z c x1)=drP b z c)/\((rf (Value.int .i64 z))/\(Value.int .i64 (0:Int)=Value.int .i64 (x1:Int))/\(Value.int .i64 c.i=Value.int .i64 ((atC b z c x1).i))/\(Value.int .i64 c.h=Value.int .i64 ((atC b z c x1).h))/\((.bytes b:RO)=.bytes b)))/\∀ x1:Nat,(x1<=8/\drF b z (8-x1) (atC b z c x1)=drP b z c)->(((decide ((x1:Int)<(8:Int)))=true->(∃ i1:(List UInt8)×Cur×Int,[DA.one (cI (3:Int))]=A2.args i1/\[PC.bt b,PC.im (Value.int .i64 ((atC b z c x1).i)),PC.im (Value.int .i64 ((atC b z c x1).h))]=DX i1/\A2.pre i1/\((∃ x2:Nat,(x2<=CH b (atC b z c x1))/\((rf (Value.int .i64 z))/\(rf (Value.int .i64 (x1:Int)))/\(Value.int .i64 (IntKind.i64.wrap ((3:Int)+(blV i1.1 i1.2.1 i1.2.2)))=Value.int .i64 ((((CH b (atC b z c x1)):Nat):Int)-(x2:Int)))/\(Value.int .i64 ((blC i1.1 i1.2.1 i1.2.2).i)=Value.int .i64 ((ptN b z (blC b (atC b z c x1) 3) x2).2.i))/\(Value.int .i64 ((blC i1.1 i1.2.1 i1.2.2).h)=Value.int .i64 ((ptN b z (blC b (atC b z c x1) 3) x2).2.h))/\((.bytes b:RO)=.bytes b)/\(([]:List (List Dat))=(AA (ptN b z (blC b (atC b z c x1) 3) x2).1))))/\∀ x2:Nat,(x2<=CH b (atC b z c x1))->(((decide (((((CH b (atC b z c x1)):Nat):Int)-(x2:Int))>(0:Int)))=true->(∃ i2:(List UInt8)×Cur×Int,[DA.one (cI (IntKind.i64.wrap ((IntKind.i64.wrap ((2:Int)*z))+(1:Int))))]=A2.args i2/\[PC.bt b,PC.im (Value.int .i64 ((ptN b z (blC b (atC b z c x1) 3) x2).2.i)),PC.im (Value.int .i64 ((ptN b z (blC b (atC b z c x1) 3) x2).2.h))]=DX i2/\A2.pre i2/\(∃ i3:(List UInt8)×Cur×Int,[DA.one (cI (IntKind.i64.wrap ((IntKind.i64.wrap ((2:Int)*z))+(1:Int))))]=A2.args i3/\[PC.bt b,PC.im (Value.int .i64 ((blC i2.1 i2.2.1 i2.2.2).i)),PC.im (Value.int .i64 ((blC i2.1 i2.2.1 i2.2.2).h))]=DX i3/\A2.pre i3/\(((AA (ptN b z (blC b (atC b z c x1) 3) x2).1).length+([[Dat.int (IntKind.i64.wrap ((blV i2.1 i2.2.1 i2.2.2)-z)),Dat.int (IntKind.i64.wrap ((blV i3.1 i3.2.1 i3.2.2)-z))]]:List (List Dat)).length<=2199023255552)/\(∃ y3:Nat,(y3<=CH b (atC b z c x1))/\(CH b (atC b z c x1)-y3<CH b (atC b z c x1)-x2)/\((rf (Value.int .i64 z))/\(rf (Value.int .i64 (x1:Int)))/\(Value.int .i64 (IntKind.i64.wrap (((((CH b (atC b z c x1)):Nat):Int)-(x2:Int))-(1:Int)))=Value.int .i64 ((((CH b (atC b z c x1)):Nat):Int)-(y3:Int)))/\(Value.int .i64 ((blC i3.1 i3.2.1 i3.2.2).i)=Value.int .i64 ((ptN b z (blC b (atC b z c x1) 3) y3).2.i))/\(Value.int .i64 ((blC i3.1 i3.2.1 i3.2.2).h)=Value.int .i64 ((ptN b z (blC b (atC b z c x1) 3) y3).2.h))/\((.bytes b:RO)=.bytes b)/\(((AA (ptN b z (blC b (atC b z c x1) 3) x2).1)++([[Dat.int (IntKind.i64.wrap ((blV i2.1 i2.2.1 i2.2.2)-z)),Dat.int (IntKind.i64.wrap ((blV i3.1 i3.2.1 i3.2.2)-z))]]:List (List Dat)))=(AA (ptN b z (blC b (atC b z c x1) 3) y3).1))))))))/\((decide (((((CH b (atC b z c x1)):Nat):Int)-(x2:Int))>(0:Int)))=false->(∃ i4:(List V2),[DA.one (DC.sl 26 [.int,.int] (AA (ptN b z (blC b (atC b z c x1) 3) x2).1))]=GA.args i4/\GA.pre i4/\(∃ i5:(List V2),[DA.one (DC.sl 26 [.int,.int] (AA (Ar i4)))]=D3.args i5/\D3.pre i5/\(((AI i5)=true->((AA (Ar i4)=AA (drP b z c).1)/\(Value.int .i64 ((ptN b z (blC b (atC b z c x1) 3) x2).2.i)=Value.int .i64 (((drP b z c).2).i))/\(Value.int .i64 ((ptN b z (blC b (atC b z c x1) 3) x2).2.h)=Value.int .i64 (((drP b z c).2).h))))/\((AI i5)=false->(∃ y4:Nat,(y4<=8/\drF b z (8-y4) (atC b z c y4)=drP b z c)/\(8-y4<8-x1)/\((rf (Value.int .i64 z))/\(Value.int .i64 (IntKind.i64.wrap ((x1:Int)+(1:Int)))=Value.int .i64 (y4:Int))/\(Value.int .i64 ((ptN b z (blC b (atC b z c x1) 3) x2).2.i)=Value.int .i64 ((atC b z c y4).i))/\(Value.int .i64 ((ptN b z (blC b (atC b z c x1) 3) x2).2.h)=Value.int .i64 ((atC b z c y4).h))/\((.bytes b:RO)=.bytes b))))))))))))/\((decide ((x1:Int)<(8:Int)))=false->((([[Dat.int (-1:Int),Dat.int (-1:Int)],[Dat.int (1:Int),Dat.int (-1:Int)],[Dat.int (0:Int),Dat.int (1:Int)]]:List (List Dat))=AA (drP b z c).1)/\(Value.int .i64 ((atC b z c x1).i)=Value.int .i64 (((drP b z c).2).i))/\(Value.int .i64 ((atC b z c x1).h)=Value.int .i64 (((drP b z c).2).h)))))) (by kernel_rfl) ?_
 obtain ⟨hc,hz0,hz1⟩:=hpre
 have hw:IntKind.i64.wrap (IntKind.i64.wrap (2*z)+1)=2*z+1:=by rw [AF (x:=2*z) (by omega) (by omega),AF (by omega) (by omega)]
 -- i1
 refine ⟨⟨0,by
  exact ⟨Nat.zero_le _,rfl⟩,?_⟩,?_⟩
 ·-- the beginning
  refine ⟨rfl,rfl,?_,?_,?_⟩
  ·-- b5: Value.int .i64 c.i = Value.int .i64 ((atC b z c 0).i)
   show Value.int .i64 c.i=Value.int .i64 ((atC b z c 0).i)
   rfl
  ·-- b6: Value.int .i64 c.h = Value.int .i64 ((atC b z c 0).h)
   show Value.int .i64 c.h=Value.int .i64 ((atC b z c 0).h)
   rfl
  -- b7: (.bytes b : RO) = .bytes b
  show (.bytes b:RO)=.bytes b
  rfl
 intro (k:Nat) hki1
 have hki1:k<=8/\drF b z (8-k) (atC b z c k)=drP b z c:=hki1
 refine And.symm ⟨λ c8=>?_,λ c8=>?_⟩
 ·-- c8f: (decide ((k : Int) < (8 : Int))) = false
  replace c8:(decide ((k:Int)<(8:Int)))=false:=c8
  try simp only [nrm] at c8
  have hr:drP b z c=([(-1,-1),(1,-1),(0,1)],atC b z c k):=by rw [← hki1.2,show 8-k=0 by omega];rfl
  refine ⟨?_,?_,?_⟩
  ·-- l57: ([[Dat.int (-1 : Int), Dat.int (-1 : Int)], [Dat.int (1 : Int), Dat.int (-1 : Int)], [Dat.int (0 : Int), Dat.int (1 : Int)]] : List (List Dat)) = AA (drP b z c).1
   show ([[Dat.int (-1:Int),Dat.int (-1:Int)],[Dat.int (1:Int),Dat.int (-1:Int)],[Dat.int (0:Int),Dat.int (1:Int)]]:List (List Dat))=AA (drP b z c).1
   first|(rw [hr];done)|(rw [hr];rfl)|(rw [hr,hpt];done)
  ·-- l58: Value.int .i64 ((atC b z c k).i) = Value.int .i64 (((drP b z c).2).i)
   show Value.int .i64 ((atC b z c k).i)=Value.int .i64 (((drP b z c).2).i)
   first|(rw [hr];done)|(rw [hr];rfl)|(rw [hr,hpt];done)
  -- l59: Value.int .i64 ((atC b z c k).h) = Value.int .i64 (((drP b z c).2).h)
  show Value.int .i64 ((atC b z c k).h)=Value.int .i64 (((drP b z c).2).h)
  first|(rw [hr];done)|(rw [hr];rfl)|(rw [hr,hpt];done)
 -- c8t: (decide ((k : Int) < (8 : Int))) = true
 replace c8:(decide ((k:Int)<(8:Int)))=true:=c8
 try simp only [nrm] at c8
 have hcr:=UN b (atC b z c k)
 -- w9: below [DA.one (DC.im (Value.int .i64 (3 : Int)))]
 refine ⟨(b,(atC b z c k),(3:Int)),by
  rfl,rfl,by
  show Av b (atC b z c k)
  first|exact Bo z hc k|exact (Cz z (BT 3 (Bo z hc k)) j)|exact BT _ (Cz z (BT 3 (Bo z hc k)) j)|(rw [E7];omega)|trivial,?_⟩
 -- i12
 refine ⟨⟨0,by
  first|omega|trivial,?_⟩,?_⟩
 ·-- the beginning
  refine ⟨rfl,rfl,?_,?_,?_,?_,?_⟩
  ·-- b16: Value.int .i64 (IntKind.i64.wrap ((3 : Int) + (blV b (atC b z c k) (3 : Int)))) = Value.int .i64 ((((CH b (atC b z c k)) : Nat) : Int) - (0 : Int))
   show Value.int .i64 (IntKind.i64.wrap ((3:Int)+(blV b (atC b z c k) (3:Int))))=Value.int .i64 ((((CH b (atC b z c k)):Nat):Int)-(0:Int))
   first|rfl|exact AQ (by rw [AF (by omega) (by omega)];omega)
  ·-- b17: Value.int .i64 ((blC b (atC b z c k) (3 : Int)).i) = Value.int .i64 ((ptN b z (blC b (atC b z c k) 3) 0).2.i)
   show Value.int .i64 ((blC b (atC b z c k) (3:Int)).i)=Value.int .i64 ((ptN b z (blC b (atC b z c k) 3) 0).2.i)
   first|rfl|exact AQ (by rw [AF (by omega) (by omega)];omega)
  ·-- b18: Value.int .i64 ((blC b (atC b z c k) (3 : Int)).h) = Value.int .i64 ((ptN b z (blC b (atC b z c k) 3) 0).2.h)
   show Value.int .i64 ((blC b (atC b z c k) (3:Int)).h)=Value.int .i64 ((ptN b z (blC b (atC b z c k) 3) 0).2.h)
   first|rfl|exact AQ (by rw [AF (by omega) (by omega)];omega)
  ·-- b19: (.bytes b : RO) = .bytes b
   show (.bytes b:RO)=.bytes b
   first|rfl|exact AQ (by rw [AF (by omega) (by omega)];omega)
  -- b20: ([] : List (List Dat)) = (AA (ptN b z (blC b (atC b z c k) 3) 0).1)
  show ([]:List (List Dat))=(AA (ptN b z (blC b (atC b z c k) 3) 0).1)
  first|rfl|exact AQ (by rw [AF (by omega) (by omega)];omega)
 intro (j:Nat) hki12
 have hki12:j<=CH b (atC b z c k):=hki12
 refine ⟨λ c21=>?_,λ c21=>?_⟩
 ·-- c21t: (decide (((((CH b (atC b z c k)) : Nat) : Int) - (j : Int)) > (0 : Int))) = true
  replace c21:(decide (((((CH b (atC b z c k)):Nat):Int)-(j:Int))>(0:Int)))=true:=c21
  try simp only [nrm] at c21
  have q1:=C4 b (ptN b z (blC b (atC b z c k) 3) j).2 (n:=2*z+1) (by omega)
  have q2:=C4 b (blC b (ptN b z (blC b (atC b z c k) 3) j).2 (2*z+1)) (n:=2*z+1) (by omega)
  -- w22: below [DA.one (DC.im (Value.int .i64 (IntKind.i64.wrap ((IntKind.i64.wrap ((2 : Int) * z)) + (1 : Int)))))]
  refine ⟨(b,(ptN b z (blC b (atC b z c k) 3) j).2,(2*z+1)),by
   exact congrArg (λ x=>[DA.one (DC.im (Value.int .i64 x))]) hw,rfl,by
   show Av b ((ptN b z (blC b (atC b z c k) 3) j).2)
   first|exact Bo z hc k|exact (Cz z (BT 3 (Bo z hc k)) j)|exact BT _ (Cz z (BT 3 (Bo z hc k)) j)|(rw [E7];omega)|trivial,?_⟩
  -- w25: below [DA.one (DC.im (Value.int .i64 (IntKind.i64.wrap ((IntKind.i64.wrap ((2 : Int) * z)) + (1 : Int)))))]
  refine ⟨(b,(blC b (ptN b z (blC b (atC b z c k) 3) j).2 (2*z+1)),(2*z+1)),by
   exact congrArg (λ x=>[DA.one (DC.im (Value.int .i64 x))]) hw,rfl,by
   show Av b (blC b (ptN b z (blC b (atC b z c k) 3) j).2 (2*z+1))
   first|exact Bo z hc k|exact (Cz z (BT 3 (Bo z hc k)) j)|exact BT _ (Cz z (BT 3 (Bo z hc k)) j)|(rw [E7];omega)|trivial,?_⟩
  refine ao (a:=(AA (ptN b z (blC b (atC b z c k) 3) j).1).length+([[Dat.int (IntKind.i64.wrap ((blV b ((ptN b z (blC b (atC b z c k) 3) j).2) (2*z+1))-z)),Dat.int (IntKind.i64.wrap ((blV b (blC b (ptN b z (blC b (atC b z c k) 3) j).2 (2*z+1)) (2*z+1))-z))]]:List (List Dat)).length<=2199023255552) (by first|rfl|omega|(rw [AB,E7];simp only [List.length_cons,List.length_nil];omega)) λ o28=>?_
  -- n29
  refine ⟨j+1,by
   first|omega|trivial,by
   first|omega|(simp;omega),?_⟩
  refine ⟨rfl,rfl,?_,?_,?_,?_,?_⟩
  ·-- e34: Value.int .i64 (IntKind.i64.wrap (((((CH b (atC b z c k)) : Nat) : Int) - (j : Int)) - (1 : Int))) = Value.int .i64 ((((CH b (atC b z c k)) : Nat) : Int) - ((j + 1) : Int))
   show Value.int .i64 (IntKind.i64.wrap (((((CH b (atC b z c k)):Nat):Int)-(j:Int))-(1:Int)))=Value.int .i64 ((((CH b (atC b z c k)):Nat):Int)-((j+1):Int))
   first|rfl|exact AQ (by rw [AF (by omega) (by omega)];omega)
  ·-- e35: Value.int .i64 ((blC b (blC b (ptN b z (blC b (atC b z c k) 3) j).2 (2 * z + 1)) (2 * z + 1)).i) = Value.int .i64 ((ptN b z (blC b (atC b z c k) 3) (j + 1)).2.i)
   show Value.int .i64 ((blC b (blC b (ptN b z (blC b (atC b z c k) 3) j).2 (2*z+1)) (2*z+1)).i)=Value.int .i64 ((ptN b z (blC b (atC b z c k) 3) (j+1)).2.i)
   first|rfl|exact AQ (by rw [AF (by omega) (by omega)];omega)
  ·-- e36: Value.int .i64 ((blC b (blC b (ptN b z (blC b (atC b z c k) 3) j).2 (2 * z + 1)) (2 * z + 1)).h) = Value.int .i64 ((ptN b z (blC b (atC b z c k) 3) (j + 1)).2.h)
   show Value.int .i64 ((blC b (blC b (ptN b z (blC b (atC b z c k) 3) j).2 (2*z+1)) (2*z+1)).h)=Value.int .i64 ((ptN b z (blC b (atC b z c k) 3) (j+1)).2.h)
   first|rfl|exact AQ (by rw [AF (by omega) (by omega)];omega)
  ·-- e37: (.bytes b : RO) = .bytes b
   show (.bytes b:RO)=.bytes b
   first|rfl|exact AQ (by rw [AF (by omega) (by omega)];omega)
  -- e38: ((AA (ptN b z (blC b (atC b z c k) 3) j).1) ++ ([[Dat.int (IntKind.i64.wrap ((blV b ((ptN b z (blC b (atC b z c k) 3) j).2) (2 * z + 1)) - z)), Dat.int (IntKind.i64.wrap ((blV b (blC b (ptN b z (blC b (atC b z c k) 3) j).2 (2 * z + 1)) (2 * z + 1)) - z))]] : List (List Dat))) = (AA (ptN b z (blC b (atC b z c k) 3) (j + 1)).1)
  show ((AA (ptN b z (blC b (atC b z c k) 3) j).1)++([[Dat.int (IntKind.i64.wrap ((blV b ((ptN b z (blC b (atC b z c k) 3) j).2) (2*z+1))-z)),Dat.int (IntKind.i64.wrap ((blV b (blC b (ptN b z (blC b (atC b z c k) 3) j).2 (2*z+1)) (2*z+1))-z))]]:List (List Dat)))=(AA (ptN b z (blC b (atC b z c k) 3) (j+1)).1)
  rw [AF (by omega) (by omega),AF (by omega) (by omega)];exact Pg _ _ _
 -- c21f: (decide (((((CH b (atC b z c k)) : Nat) : Int) - (j : Int)) > (0 : Int))) = false
 replace c21:(decide (((((CH b (atC b z c k)):Nat):Int)-(j:Int))>(0:Int)))=false:=c21
 try simp only [nrm] at c21
 have hj:CH b (atC b z c k)=j:=by omega
 have hpt:ptN b z (blC b (atC b z c k) 3) j=att b z (atC b z c k):=by unfold att;rw [hj]
 -- w39: sHull [DA.one (DC.sl 26 [.int, .int] (AA (ptN b z (blC b (atC b z c k) 3) j).1))]
 refine ⟨(ptN b z (blC b (atC b z c k) 3) j).1,by
  rfl,by
  show ((ptN b z (blC b (atC b z c k) 3) j).1).length<=1048576
  first|exact Bo z hc k|exact (Cz z (BT 3 (Bo z hc k)) j)|exact BT _ (Cz z (BT 3 (Bo z hc k)) j)|(rw [E7];omega)|trivial,?_⟩
 -- w42: sIsPoly [DA.one (DC.sl 26 [.int, .int] (AA (Ar ((ptN b z (blC b (atC b z c k) 3) j).1))))]
 refine ⟨(Ar ((ptN b z (blC b (atC b z c k) 3) j).1)),by
  rfl,by
  first|exact Bo z hc k|exact (Cz z (BT 3 (Bo z hc k)) j)|exact BT _ (Cz z (BT 3 (Bo z hc k)) j)|(rw [E7];omega)|trivial,?_⟩
 refine ⟨λ c45=>?_,λ c45=>?_⟩
 ·-- c45t: (AI (Ar ((ptN b z (blC b (atC b z c k) 3) j).1))) = true
  replace c45:(AI (Ar ((ptN b z (blC b (atC b z c k) 3) j).1)))=true:=c45
  try simp only [nrm] at c45
  rw [hpt] at c45
  have hr:drP b z c=(Ar (att b z (atC b z c k)).1,(att b z (atC b z c k)).2):=by rw [← hki1.2,show 8-k=(7-k)+1 by omega];exact if_pos c45
  refine ⟨?_,?_,?_⟩
  ·-- l46: AA (Ar ((ptN b z (blC b (atC b z c k) 3) j).1)) = AA (drP b z c).1
   show AA (Ar ((ptN b z (blC b (atC b z c k) 3) j).1))=AA (drP b z c).1
   first|(rw [hr];done)|(rw [hr];rfl)|(rw [hr,hpt];done)
  ·-- l47: Value.int .i64 ((ptN b z (blC b (atC b z c k) 3) j).2.i) = Value.int .i64 (((drP b z c).2).i)
   show Value.int .i64 ((ptN b z (blC b (atC b z c k) 3) j).2.i)=Value.int .i64 (((drP b z c).2).i)
   first|(rw [hr];done)|(rw [hr];rfl)|(rw [hr,hpt];done)
  -- l48: Value.int .i64 ((ptN b z (blC b (atC b z c k) 3) j).2.h) = Value.int .i64 (((drP b z c).2).h)
  show Value.int .i64 ((ptN b z (blC b (atC b z c k) 3) j).2.h)=Value.int .i64 (((drP b z c).2).h)
  first|(rw [hr];done)|(rw [hr];rfl)|(rw [hr,hpt];done)
 -- c45f: (AI (Ar ((ptN b z (blC b (atC b z c k) 3) j).1))) = false
 replace c45:(AI (Ar ((ptN b z (blC b (atC b z c k) 3) j).1)))=false:=c45
 try simp only [nrm] at c45
 rw [hpt] at c45
 have hr:drF b z (8-(k+1)) (atC b z c (k+1))=drP b z c:=by rw [← hki1.2,show 8-k=(8-(k+1))+1 by omega];exact (if_neg (by rw [c45];simp)).symm
 -- n49
 refine ⟨k+1,by
  exact ⟨by omega,hr⟩,by
  first|omega|(simp;omega),?_⟩
 refine ⟨rfl,?_,?_,?_,?_⟩
 ·-- e53: Value.int .i64 (IntKind.i64.wrap ((k : Int) + (1 : Int))) = Value.int .i64 ((k + 1) : Int)
  show Value.int .i64 (IntKind.i64.wrap ((k:Int)+(1:Int)))=Value.int .i64 ((k+1):Int)
  first|exact AQ (AF (by omega) (by omega))|rfl|(rw [hpt];rfl)
 ·-- e54: Value.int .i64 ((ptN b z (blC b (atC b z c k) 3) j).2.i) = Value.int .i64 ((atC b z c (k + 1)).i)
  show Value.int .i64 ((ptN b z (blC b (atC b z c k) 3) j).2.i)=Value.int .i64 ((atC b z c (k+1)).i)
  first|exact AQ (AF (by omega) (by omega))|rfl|(rw [hpt];rfl)
 ·-- e55: Value.int .i64 ((ptN b z (blC b (atC b z c k) 3) j).2.h) = Value.int .i64 ((atC b z c (k + 1)).h)
  show Value.int .i64 ((ptN b z (blC b (atC b z c k) 3) j).2.h)=Value.int .i64 ((atC b z c (k+1)).h)
  first|exact AQ (AF (by omega) (by omega))|rfl|(rw [hpt];rfl)
 -- e56: (.bytes b : RO) = .bytes b
 show (.bytes b:RO)=.bytes b
 first|exact AQ (AF (by omega) (by omega))|rfl|(rw [hpt];rfl)
end Go.Proofs.YtdgmbbjoifneiaaGreatDoor
