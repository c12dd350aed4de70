import Derived.Test.YtdgmbbjoifneiaaGreatDoorPyRkB
import Derived.Test.YtdgmbbjoifneiaaGreatDoorPyExE
namespace Go.Proofs.YtdgmbbjoifneiaaGreatDoor
set_option maxRecDepth 100000
set_option linter.unusedVariables false
set_option linter.unusedSimpArgs false
open Go.RowKit
def nxH (h:Int):Int:=IntKind.i64.wrap (IntKind.i64.wrap (h*6364136223846793005)+1442695040888963407)
def WW (h:Int):Int:=Eg .i64 (Lp .i64 (GH .i64 h 33) (GH .i64 h 45)) 255
structure Cur where
 i:Int
 h:Int
def byV (b:List UInt8) (c:Cur):Int:=if c.i<(b.length:Int) then Eg .i64 (IntKind.i64.wrap (WW (nxH c.h)+IntKind.i64.wrap (((b.getD c.i.toNat 0).toNat:Nat):Int))) 255 else WW (nxH c.h)
def byC (b:List UInt8) (c:Cur):Cur:=⟨if c.i<(b.length:Int) then IntKind.i64.wrap (c.i+1) else c.i,nxH c.h⟩
theorem NV (x:Int):0<=Eg .i64 x 255/\Eg .i64 x 255<=255:=by
 have h:(BitVec.ofInt 64 x &&& BitVec.ofInt 64 255).toNat<=255:=by
  rw [BitVec.toNat_and]
  exact Nat.le_trans Nat.and_le_right (by decide)
 show 0<=IntKind.i64.wrap (((BitVec.ofInt 64 x &&& BitVec.ofInt 64 255).toNat:Nat):Int)/\IntKind.i64.wrap (((BitVec.ofInt 64 x &&& BitVec.ofInt 64 255).toNat:Nat):Int)<=255
 rw [AF (by omega) (by omega)]
 omega
theorem Dw (b:List UInt8) (c:Cur):0<=byV b c/\byV b c<=255:=by
 unfold byV WW
 split
 ·exact NV _
 ·exact NV _
def Av (b:List UInt8) (c:Cur):Prop:=b.length<=1048576/\0<=c.i/\c.i<=(b.length:Int)
theorem Em {b:List UInt8} {c:Cur} (h:Av b c):Av b (byC b c):=by
 unfold Av at *
 unfold byC
 simp only
 split
 ·rw [AF (by omega) (by omega)];omega
 ·exact h
def blV (b:List UInt8) (c:Cur) (n:Int):Int:=
 if n<=0 then 0 else if n<=256 then Int.tmod (byV b c) n else
  Int.tmod (byV b c*16777216+byV b (byC b c)*65536+byV b (byC b (byC b c))*256+byV b (byC b (byC b (byC b c)))) n
def blC (b:List UInt8) (c:Cur) (n:Int):Cur:=
 if n<=0 then c else if n<=256 then byC b c else byC b (byC b (byC b (byC b c)))
theorem BT {b:List UInt8} {c:Cur} (n:Int) (h:Av b c):Av b (blC b c n):=by
 unfold blC
 split
 ·exact h
 ·split
  ·exact Em h
  ·exact Em (Em (Em (Em h)))
theorem C4 (b:List UInt8) (c:Cur) {n:Int} (h:0<n):0<=blV b c n/\blV b c n<n:=by
 have q1:=(Dw b c).1
 have q2:=(Dw b (byC b c)).1
 have q3:=(Dw b (byC b (byC b c))).1
 have q4:=(Dw b (byC b (byC b (byC b c)))).1
 unfold blV
 rw [if_neg (by omega)]
 split
 ·exact ⟨Int.tmod_nonneg _ q1,Int.tmod_lt_of_pos _ h⟩
 ·exact ⟨Int.tmod_nonneg _ (by omega),Int.tmod_lt_of_pos _ h⟩
def Dx:(List UInt8)×Cur->List PC:=λ i=>[.bt i.1,.im (.int .i64 i.2.i),.im (.int .i64 i.2.h)]
def P8:(List UInt8)×Cur->List PC:=λ i=>[.bt i.1,.im (.int .i64 ((byC i.1 i.2).i)),.im (.int .i64 ((byC i.1 i.2).h))]
def A4:Con:={ ι:=(List UInt8)×Cur,pre:=λ i=>Av i.1 i.2,args:=λ i=>[],ptr:=some (Dx,P8),res:=λ i=>⟨false,[none],[.im (Value.int .i64 (byV i.1 i.2))]⟩ }
theorem P9:A4.OkP Tryz.prog 37 Dx P8:=by
 refine VB (X:=⟨tt,[],[4000000],58,[]⟩) mixed AP (CTok.nil _) Tryz.func37 (λ _=>[]) ?_
 rintro ⟨b,c⟩ hpre
 have hpre:Av b c:=hpre
 refine AO (q:=(0<=(33:Int))/\((0<=(45:Int))/\(((decide (c.i<((b.length:Nat):Int)))=true->((0<=c.i/\c.i<(b.length:Int))/\(((c.i).toNat<b.length)/\((Value.int .i64 (Eg .i64 (IntKind.i64.wrap ((Eg .i64 (Lp .i64 (GH .i64 (IntKind.i64.wrap ((IntKind.i64.wrap (c.h*(6364136223846793005:Int)))+(1442695040888963407:Int))) (33:Int)) (GH .i64 (IntKind.i64.wrap ((IntKind.i64.wrap (c.h*(6364136223846793005:Int)))+(1442695040888963407:Int))) (45:Int))) (255:Int))+(IntKind.i64.wrap (((b.getD ((c.i).toNat) 0).toNat:Nat):Int)))) (255:Int))=Value.int .i64 (byV b c))/\(Value.int .i64 (IntKind.i64.wrap (c.i+(1:Int)))=Value.int .i64 ((byC b c).i))/\(Value.int .i64 (IntKind.i64.wrap ((IntKind.i64.wrap (c.h*(6364136223846793005:Int)))+(1442695040888963407:Int)))=Value.int .i64 ((byC b c).h))))))/\((decide (c.i<((b.length:Nat):Int)))=false->((Value.int .i64 (Eg .i64 (Lp .i64 (GH .i64 (IntKind.i64.wrap ((IntKind.i64.wrap (c.h*(6364136223846793005:Int)))+(1442695040888963407:Int))) (33:Int)) (GH .i64 (IntKind.i64.wrap ((IntKind.i64.wrap (c.h*(6364136223846793005:Int)))+(1442695040888963407:Int))) (45:Int))) (255:Int))=Value.int .i64 (byV b c))/\(Value.int .i64 c.i=Value.int .i64 ((byC b c).i))/\(Value.int .i64 (IntKind.i64.wrap ((IntKind.i64.wrap (c.h*(6364136223846793005:Int)))+(1442695040888963407:Int)))=Value.int .i64 ((byC b c).h))))))) (by kernel_rfl) ?_
 obtain ⟨hp1,hp2,hp3⟩:=hpre
 refine ao (a:=0<=(33:Int)) (by first|rfl|omega|(simp;done)|(simp;omega)) λ o1=>?_
 refine ao (a:=0<=(45:Int)) (by first|rfl|omega|(simp;done)|(simp;omega)) λ o2=>?_
 refine And.symm ⟨λ c3=>?_,λ c3=>?_⟩
 ·-- c3f: (decide (c.i < ((b.length : Nat) : Int))) = false
  replace c3:(decide (c.i<((b.length:Nat):Int)))=false:=c3
  try simp only [nrm] at c3
  refine ⟨?_,?_,?_⟩
  ·-- l9: Value.int .i64 (Eg .i64 (Lp .i64 (GH .i64 (IntKind.i64.wrap ((IntKind.i64.wrap (c.h * (6364136223846793005 : Int))) + (1442695040888963407 : Int))) (33 : Int)) (GH .i64 (IntKind.i64.wrap ((IntKind.i64.wrap (c.h * (6364136223846793005 : Int))) + (1442695040888963407 : Int))) (45 : Int))) (255 : Int)) = Value.int .i64 (byV b c)
   show Value.int .i64 (Eg .i64 (Lp .i64 (GH .i64 (IntKind.i64.wrap ((IntKind.i64.wrap (c.h*(6364136223846793005:Int)))+(1442695040888963407:Int))) (33:Int)) (GH .i64 (IntKind.i64.wrap ((IntKind.i64.wrap (c.h*(6364136223846793005:Int)))+(1442695040888963407:Int))) (45:Int))) (255:Int))=Value.int .i64 (byV b c)
   first|rfl|(unfold byV;rw [if_neg (by omega)];rfl)|(unfold byV;rw [if_pos (by omega)];rfl)|(unfold byC;rw [if_neg (by omega)])|(unfold byC;rw [if_pos (by omega)])
  ·-- l10: Value.int .i64 c.i = Value.int .i64 ((byC b c).i)
   show Value.int .i64 c.i=Value.int .i64 ((byC b c).i)
   first|rfl|(unfold byV;rw [if_neg (by omega)];rfl)|(unfold byV;rw [if_pos (by omega)];rfl)|(unfold byC;rw [if_neg (by omega)])|(unfold byC;rw [if_pos (by omega)])
  -- l11: Value.int .i64 (IntKind.i64.wrap ((IntKind.i64.wrap (c.h * (6364136223846793005 : Int))) + (1442695040888963407 : Int))) = Value.int .i64 ((byC b c).h)
  show Value.int .i64 (IntKind.i64.wrap ((IntKind.i64.wrap (c.h*(6364136223846793005:Int)))+(1442695040888963407:Int)))=Value.int .i64 ((byC b c).h)
  first|rfl|(unfold byV;rw [if_neg (by omega)];rfl)|(unfold byV;rw [if_pos (by omega)];rfl)|(unfold byC;rw [if_neg (by omega)])|(unfold byC;rw [if_pos (by omega)])
 -- c3t: (decide (c.i < ((b.length : Nat) : Int))) = true
 replace c3:(decide (c.i<((b.length:Nat):Int)))=true:=c3
 try simp only [nrm] at c3
 refine ao (a:=0<=c.i/\c.i<(b.length:Int)) (by first|rfl|omega|(simp;done)|(simp;omega)) λ o4=>?_
 refine ao (a:=(c.i).toNat<b.length) (by first|rfl|omega|(simp;done)|(simp;omega)) λ o5=>?_
 refine ⟨?_,?_,?_⟩
 ·-- l6: Value.int .i64 (Eg .i64 (IntKind.i64.wrap ((Eg .i64 (Lp .i64 (GH .i64 (IntKind.i64.wrap ((IntKind.i64.wrap (c.h * (6364136223846793005 : Int))) + (1442695040888963407 : Int))) (33 : Int)) (GH .i64 (IntKind.i64.wrap ((IntKind.i64.wrap (c.h * (6364136223846793005 : Int))) + (1442695040888963407 : Int))) (45 : Int))) (255 : Int)) + (IntKind.i64.wrap (((b.getD ((c.i).toNat) 0).toNat : Nat) :
  show Value.int .i64 (Eg .i64 (IntKind.i64.wrap ((Eg .i64 (Lp .i64 (GH .i64 (IntKind.i64.wrap ((IntKind.i64.wrap (c.h*(6364136223846793005:Int)))+(1442695040888963407:Int))) (33:Int)) (GH .i64 (IntKind.i64.wrap ((IntKind.i64.wrap (c.h*(6364136223846793005:Int)))+(1442695040888963407:Int))) (45:Int))) (255:Int))+(IntKind.i64.wrap (((b.getD ((c.i).toNat) 0).toNat:Nat):Int)))) (255:Int))=Value.int .i64 (byV b c)
  first|rfl|(unfold byV;rw [if_neg (by omega)];rfl)|(unfold byV;rw [if_pos (by omega)];rfl)|(unfold byC;rw [if_neg (by omega)])|(unfold byC;rw [if_pos (by omega)])
 ·-- l7: Value.int .i64 (IntKind.i64.wrap (c.i + (1 : Int))) = Value.int .i64 ((byC b c).i)
  show Value.int .i64 (IntKind.i64.wrap (c.i+(1:Int)))=Value.int .i64 ((byC b c).i)
  first|rfl|(unfold byV;rw [if_neg (by omega)];rfl)|(unfold byV;rw [if_pos (by omega)];rfl)|(unfold byC;rw [if_neg (by omega)])|(unfold byC;rw [if_pos (by omega)])
 -- l8: Value.int .i64 (IntKind.i64.wrap ((IntKind.i64.wrap (c.h * (6364136223846793005 : Int))) + (1442695040888963407 : Int))) = Value.int .i64 ((byC b c).h)
 show Value.int .i64 (IntKind.i64.wrap ((IntKind.i64.wrap (c.h*(6364136223846793005:Int)))+(1442695040888963407:Int)))=Value.int .i64 ((byC b c).h)
 first|rfl|(unfold byV;rw [if_neg (by omega)];rfl)|(unfold byV;rw [if_pos (by omega)];rfl)|(unfold byC;rw [if_neg (by omega)])|(unfold byC;rw [if_pos (by omega)])
def DX:(List UInt8)×Cur×Int->List PC:=λ i=>[.bt i.1,.im (.int .i64 i.2.1.i),.im (.int .i64 i.2.1.h)]
def NW:(List UInt8)×Cur×Int->List PC:=λ i=>[.bt i.1,.im (.int .i64 ((blC i.1 i.2.1 i.2.2).i)),.im (.int .i64 ((blC i.1 i.2.1 i.2.2).h))]
def A2:Con:={ ι:=(List UInt8)×Cur×Int,pre:=λ i=>Av i.1 i.2.1,args:=λ i=>[.one (.im (.int .i64 i.2.2))],ptr:=some (DX,NW),res:=λ i=>⟨false,[none],[.im (Value.int .i64 (blV i.1 i.2.1 i.2.2))]⟩ }
theorem NX:A2.OkP Tryz.prog 33 DX NW:=by
 refine VB (X:=⟨tt,[(37,A4)],[4000000],37,[]⟩) mixed AP (CTok.consP P9 (CTok.nil _)) Tryz.func33 (λ _=>[]) ?_
 rintro ⟨b,c,n⟩ hpre
 have hpre:Av b c:=hpre
 refine AO (q:=((decide (n<=(0:Int)))=true->((Value.int .i64 (0:Int)=Value.int .i64 (blV b c n))/\(Value.int .i64 c.i=Value.int .i64 ((blC b c n).i))/\(Value.int .i64 c.h=Value.int .i64 ((blC b c n).h))))/\((decide (n<=(0:Int)))=false->(((decide (n<=(256:Int)))=true->(∃ i1:(List UInt8)×Cur,[]=A4.args i1/\[PC.bt b,PC.im (Value.int .i64 c.i),PC.im (Value.int .i64 c.h)]=Dx i1/\A4.pre i1/\((n≠0)/\((Value.int .i64 (Int.tmod (byV i1.1 i1.2) n)=Value.int .i64 (blV b c n))/\(Value.int .i64 ((byC i1.1 i1.2).i)=Value.int .i64 ((blC b c n).i))/\(Value.int .i64 ((byC i1.1 i1.2).h)=Value.int .i64 ((blC b c n).h))))))/\((decide (n<=(256:Int)))=false->(∃ i2:(List UInt8)×Cur,[]=A4.args i2/\[PC.bt b,PC.im (Value.int .i64 c.i),PC.im (Value.int .i64 c.h)]=Dx i2/\A4.pre i2/\(∃ i3:(List UInt8)×Cur,[]=A4.args i3/\[PC.bt b,PC.im (Value.int .i64 ((byC i2.1 i2.2).i)),PC.im (Value.int .i64 ((byC i2.1 i2.2).h))]=Dx i3/\A4.pre i3/\(∃ i4:(List UInt8)×Cur,[]=A4.args i4/\[PC.bt b,PC.im (Value.int .i64 ((byC i3.1 i3.2).i)),PC.im (Value.int .i64 ((byC i3.1 i3.2).h))]=Dx i4/\A4.pre i4/\(∃ i5:(List UInt8)×Cur,[]=A4.args i5/\[PC.bt b,PC.im (Value.int .i64 ((byC i4.1 i4.2).i)),PC.im (Value.int .i64 ((byC i4.1 i4.2).h))]=Dx i5/\A4.pre i5/\((n≠0)/\((Value.int .i64 (Int.tmod (IntKind.i64.wrap ((IntKind.i64.wrap ((IntKind.i64.wrap ((IntKind.i64.wrap ((byV i2.1 i2.2)*(16777216:Int)))+(IntKind.i64.wrap ((byV i3.1 i3.2)*(65536:Int)))))+(IntKind.i64.wrap ((byV i4.1 i4.2)*(256:Int)))))+(byV i5.1 i5.2))) n)=Value.int .i64 (blV b c n))/\(Value.int .i64 ((byC i5.1 i5.2).i)=Value.int .i64 ((blC b c n).i))/\(Value.int .i64 ((byC i5.1 i5.2).h)=Value.int .i64 ((blC b c n).h)))))))))))) (by kernel_rfl) ?_
 have k1:=Em hpre
 have k2:=Em k1
 have k3:=Em k2
 have q1:=Dw b c
 have q2:=Dw b (byC b c)
 have q3:=Dw b (byC b (byC b c))
 have q4:=Dw b (byC b (byC b (byC b c)))
 refine ⟨λ c1=>?_,λ c1=>?_⟩
 ·-- c1t: (decide (n ≤ (0 : Int))) = true
  replace c1:(decide (n<=(0:Int)))=true:=c1
  try simp only [nrm] at c1
  have hV:blV b c n=0:=if_pos c1
  have hC:blC b c n=c:=if_pos c1
  refine ⟨?_,?_,?_⟩
  ·-- l2: Value.int .i64 (0 : Int) = Value.int .i64 (blV b c n)
   show Value.int .i64 (0:Int)=Value.int .i64 (blV b c n)
   first|(rw [hV];done)|(rw [hC];done)
  ·-- l3: Value.int .i64 c.i = Value.int .i64 ((blC b c n).i)
   show Value.int .i64 c.i=Value.int .i64 ((blC b c n).i)
   first|(rw [hV];done)|(rw [hC];done)
  -- l4: Value.int .i64 c.h = Value.int .i64 ((blC b c n).h)
  show Value.int .i64 c.h=Value.int .i64 ((blC b c n).h)
  first|(rw [hV];done)|(rw [hC];done)
 -- c1f: (decide (n ≤ (0 : Int))) = false
 replace c1:(decide (n<=(0:Int)))=false:=c1
 try simp only [nrm] at c1
 refine ⟨λ c5=>?_,λ c5=>?_⟩
 ·-- c5t: (decide (n ≤ (256 : Int))) = true
  replace c5:(decide (n<=(256:Int)))=true:=c5
  try simp only [nrm] at c5
  have hV:blV b c n=Int.tmod (byV b c) n:=(if_neg (by omega)).trans (if_pos c5)
  have hC:blC b c n=byC b c:=(if_neg (by omega)).trans (if_pos c5)
  -- w6: byte []
  refine ⟨(b,c),by
   rfl,rfl,by
   show Av b c
   first|exact hpre|exact k1|exact k2|exact k3,?_⟩
  refine ao (a:=n≠0) (by first|rfl|omega|(simp;done)|(simp;omega)) λ o9=>?_
  refine ⟨?_,?_,?_⟩
  ·-- l10: Value.int .i64 (Int.tmod (byV b c) n) = Value.int .i64 (blV b c n)
   show Value.int .i64 (Int.tmod (byV b c) n)=Value.int .i64 (blV b c n)
   first|(rw [hV];done)|(rw [hC];done)
  ·-- l11: Value.int .i64 ((byC b c).i) = Value.int .i64 ((blC b c n).i)
   show Value.int .i64 ((byC b c).i)=Value.int .i64 ((blC b c n).i)
   first|(rw [hV];done)|(rw [hC];done)
  -- l12: Value.int .i64 ((byC b c).h) = Value.int .i64 ((blC b c n).h)
  show Value.int .i64 ((byC b c).h)=Value.int .i64 ((blC b c n).h)
  first|(rw [hV];done)|(rw [hC];done)
 -- c5f: (decide (n ≤ (256 : Int))) = false
 replace c5:(decide (n<=(256:Int)))=false:=c5
 try simp only [nrm] at c5
 have hC:blC b c n=byC b (byC b (byC b (byC b c))):=(if_neg (by omega)).trans (if_neg (by omega))
 have hw:IntKind.i64.wrap (IntKind.i64.wrap (IntKind.i64.wrap (IntKind.i64.wrap (byV b c*16777216)+IntKind.i64.wrap (byV b (byC b c)*65536))+IntKind.i64.wrap (byV b (byC b (byC b c))*256))+byV b (byC b (byC b (byC b c))))=byV b c*16777216+byV b (byC b c)*65536+byV b (byC b (byC b c))*256+byV b (byC b (byC b (byC b c))):=by
  rw [AF (x:=byV b c*16777216) (by omega) (by omega),AF (x:=byV b (byC b c)*65536) (by omega) (by omega),AF (x:=byV b (byC b (byC b c))*256) (by omega) (by omega)]
  rw [AF (x:=byV b c*16777216+byV b (byC b c)*65536) (by omega) (by omega),AF (x:=byV b c*16777216+byV b (byC b c)*65536+byV b (byC b (byC b c))*256) (by omega) (by omega),AF (by omega) (by omega)]
 have hV:Int.tmod (IntKind.i64.wrap (IntKind.i64.wrap (IntKind.i64.wrap (IntKind.i64.wrap (byV b c*16777216)+IntKind.i64.wrap (byV b (byC b c)*65536))+IntKind.i64.wrap (byV b (byC b (byC b c))*256))+byV b (byC b (byC b (byC b c))))) n=blV b c n:=by
  rw [hw];exact ((if_neg (by omega)).trans (if_neg (by omega))).symm
 -- w13: byte []
 refine ⟨(b,c),by
  rfl,rfl,by
  show Av b c
  first|exact hpre|exact k1|exact k2|exact k3,?_⟩
 -- w16: byte []
 refine ⟨(b,(byC b c)),by
  rfl,rfl,by
  show Av b (byC b c)
  first|exact hpre|exact k1|exact k2|exact k3,?_⟩
 -- w19: byte []
 refine ⟨(b,(byC b (byC b c))),by
  rfl,rfl,by
  show Av b (byC b (byC b c))
  first|exact hpre|exact k1|exact k2|exact k3,?_⟩
 -- w22: byte []
 refine ⟨(b,(byC b (byC b (byC b c)))),by
  rfl,rfl,by
  show Av b (byC b (byC b (byC b c)))
  first|exact hpre|exact k1|exact k2|exact k3,?_⟩
 refine ao (a:=n≠0) (by first|rfl|omega|(simp;done)|(simp;omega)) λ o25=>?_
 refine ⟨?_,?_,?_⟩
 ·-- l26: Value.int .i64 (Int.tmod (IntKind.i64.wrap ((IntKind.i64.wrap ((IntKind.i64.wrap ((IntKind.i64.wrap ((byV b c) * (16777216 : Int))) + (IntKind.i64.wrap ((byV b (byC b c)) * (65536 : Int))))) + (IntKind.i64.wrap ((byV b (byC b (byC b c))) * (256 : Int))))) + (byV b (byC b (byC b (byC b c)))))) n) = Value.int .i64 (blV b c n)
  show Value.int .i64 (Int.tmod (IntKind.i64.wrap ((IntKind.i64.wrap ((IntKind.i64.wrap ((IntKind.i64.wrap ((byV b c)*(16777216:Int)))+(IntKind.i64.wrap ((byV b (byC b c))*(65536:Int)))))+(IntKind.i64.wrap ((byV b (byC b (byC b c)))*(256:Int)))))+(byV b (byC b (byC b (byC b c)))))) n)=Value.int .i64 (blV b c n)
  first|(rw [hV];done)|(rw [hC];done)
 ·-- l27: Value.int .i64 ((byC b (byC b (byC b (byC b c)))).i) = Value.int .i64 ((blC b c n).i)
  show Value.int .i64 ((byC b (byC b (byC b (byC b c)))).i)=Value.int .i64 ((blC b c n).i)
  first|(rw [hV];done)|(rw [hC];done)
 -- l28: Value.int .i64 ((byC b (byC b (byC b (byC b c)))).h) = Value.int .i64 ((blC b c n).h)
 show Value.int .i64 ((byC b (byC b (byC b (byC b c)))).h)=Value.int .i64 ((blC b c n).h)
 first|(rw [hV];done)|(rw [hC];done)
end Go.Proofs.YtdgmbbjoifneiaaGreatDoor
