import Derived.Test.YtkffpiaagjcmpaaGreatFrRkB
import Derived.Test.YtkffpiaagjcmpaaGreatFrExE
import Derived.Test.YtkffpiaagjcmpaaGreatProg
import Derived.Test.YtkffpiaagjcmpaaGreatFrBas
import Derived.Outline
namespace Go.Proofs.YtkffpiaagjcmpaaGreat
set_option maxRecDepth 100000
set_option linter.unusedVariables false
set_option linter.unusedSimpArgs false
open Go.RowKit
def nxH (h:Int):Int:=IntKind.i64.wrap (IntKind.i64.wrap (h*6364136223846793005)+1442695040888963407)
def AAe (h:Int):Int:=Mn .i64 (Yp .i64 (Uu .i64 h 33) (Uu .i64 h 45)) 255
structure Cur where
 i:Int
 h:Int
def byV (b:List UInt8) (c:Cur):Int:=if c.i<(b.length:Int) then Mn .i64 (IntKind.i64.wrap (AAe (nxH c.h)+IntKind.i64.wrap (((b.getD c.i.toNat 0).toNat:Nat):Int))) 255 else AAe (nxH c.h)
def byC (b:List UInt8) (c:Cur):Cur:=⟨if c.i<(b.length:Int) then IntKind.i64.wrap (c.i+1) else c.i,nxH c.h⟩
theorem QP (x:Int):0<=Mn .i64 x 255/\Mn .i64 x 255<=255:=by
 have h:(BitVec.ofInt 64 x &&& BitVec.ofInt 64 255).toNat<=255:=by
  rw [BitVec.toNat_and]
  exact Nat.le_trans Nat.and_le_right (by decide)
 show 0<=IntKind.i64.wrap (((BitVec.ofInt 64 x &&& BitVec.ofInt 64 255).toNat:Nat):Int)/\IntKind.i64.wrap (((BitVec.ofInt 64 x &&& BitVec.ofInt 64 255).toNat:Nat):Int)<=255
 rw [AE (by omega) (by omega)]
 omega
theorem CQ (b:List UInt8) (c:Cur):0<=byV b c/\byV b c<=255:=by
 unfold byV AAe
 split
 ·exact QP _
 ·exact QP _
def Ac (b:List UInt8) (c:Cur):Prop:=b.length<=1048576/\0<=c.i/\c.i<=(b.length:Int)
theorem FR {b:List UInt8} {c:Cur} (h:Ac b c):Ac b (byC b c):=by
 unfold Ac at *
 unfold byC
 simp only
 split
 ·rw [AE (by omega) (by omega)];omega
 ·exact h
def blV (b:List UInt8) (c:Cur) (n:Int):Int:=
 if n<=0 then 0 else if n<=256 then Int.tmod (byV b c) n else
  Int.tmod (byV b c*16777216+byV b (byC b c)*65536+byV b (byC b (byC b c))*256+byV b (byC b (byC b (byC b c)))) n
def blC (b:List UInt8) (c:Cur) (n:Int):Cur:=
 if n<=0 then c else if n<=256 then byC b c else byC b (byC b (byC b (byC b c)))
theorem Aw {b:List UInt8} {c:Cur} (n:Int) (h:Ac b c):Ac b (blC b c n):=by
 unfold blC
 split
 ·exact h
 ·split
  ·exact FR h
  ·exact FR (FR (FR (FR h)))
theorem A8 (b:List UInt8) (c:Cur) {n:Int} (h:0<n):0<=blV b c n/\blV b c n<n:=by
 have q1:=(CQ b c).1
 have q2:=(CQ b (byC b c)).1
 have q3:=(CQ b (byC b (byC b c))).1
 have q4:=(CQ b (byC b (byC b (byC b c)))).1
 unfold blV
 rw [if_neg (by omega)]
 split
 ·exact ⟨Int.tmod_nonneg _ q1,Int.tmod_lt_of_pos _ h⟩
 ·exact ⟨Int.tmod_nonneg _ (by omega),Int.tmod_lt_of_pos _ h⟩
def C8:(List UInt8)×Cur->List PC:=λ i=>[.bt i.1,.im (.int .i64 i.2.i),.im (.int .i64 i.2.h)]
def Tw:(List UInt8)×Cur->List PC:=λ i=>[.bt i.1,.im (.int .i64 ((byC i.1 i.2).i)),.im (.int .i64 ((byC i.1 i.2).h))]
def A1:Con:={ ι:=(List UInt8)×Cur,pre:=λ i=>Ac i.1 i.2,args:=λ i=>[],ptr:=some (C8,Tw),res:=λ i=>⟨false,[none],[rcI (byV i.1 i.2)]⟩ }
theorem Oi:A1.OkP Tryz.prog 33 C8 Tw:=by
 refine XR (X:=⟨tt,[],[4000000],58,[]⟩) mixed AN (CTok.nil _) Tryz.func33 (λ _=>[]) ?_
 rintro ⟨b,c⟩ hpre
 have hpre:Ac b c:=hpre
 refine AM (q:=let Z1:=wR ((wR (c.h*(6364136223846793005:Int)))+(1442695040888963407:Int));let Z3:=vI Z1=vI ((byC b c).h);let Z2:=Mn .i64 (Yp .i64 (Uu .i64 Z1 (33:Int)) (Uu .i64 Z1 (45:Int))) (255:Int);(0<=(33:Int))/\((0<=(45:Int))/\(ifB ((decide (c.i<(nI b.length)))) ((0<=c.i/\c.i<(b.length:Int))/\(((c.i).toNat<b.length)/\((vI (Mn .i64 (wR (Z2+(wR (nI ((b.getD ((c.i).toNat) 0).toNat))))) (255:Int))=vI (byV b c))/\(vI (wR (c.i+(1:Int)))=vI ((byC b c).i))/\Z3))) ((vI Z2=vI (byV b c))/\(vI c.i=vI ((byC b c).i))/\Z3)))) (by kernel_rfl) ?_
 conv=>zeta
 delta ifB vI wR nI
 obtain ⟨hp1,hp2,hp3⟩:=hpre
 refine ao (by first|rfl|omega|(simp;done)|(simp;omega)) λ o1=>?_
 refine ao (by first|rfl|omega|(simp;done)|(simp;omega)) λ o2=>?_
 refine And.symm ⟨λ c3=>?_,λ c3=>?_⟩
 ·try simp only [nrm] at c3
  refine ⟨?_,?_,?_⟩
  ·first|rfl|(unfold byV;rw [if_neg (by omega)];rfl)|(unfold byV;rw [if_pos (by omega)];rfl)|(unfold byC;rw [if_neg (by omega)])|(unfold byC;rw [if_pos (by omega)])
  ·first|rfl|(unfold byV;rw [if_neg (by omega)];rfl)|(unfold byV;rw [if_pos (by omega)];rfl)|(unfold byC;rw [if_neg (by omega)])|(unfold byC;rw [if_pos (by omega)])
  first|rfl|(unfold byV;rw [if_neg (by omega)];rfl)|(unfold byV;rw [if_pos (by omega)];rfl)|(unfold byC;rw [if_neg (by omega)])|(unfold byC;rw [if_pos (by omega)])
 try simp only [nrm] at c3
 refine ao (by first|rfl|omega|(simp;done)|(simp;omega)) λ o4=>?_
 refine ao (by first|rfl|omega|(simp;done)|(simp;omega)) λ o5=>?_
 refine ⟨?_,?_,?_⟩
 ·first|rfl|(unfold byV;rw [if_neg (by omega)];rfl)|(unfold byV;rw [if_pos (by omega)];rfl)|(unfold byC;rw [if_neg (by omega)])|(unfold byC;rw [if_pos (by omega)])
 ·first|rfl|(unfold byV;rw [if_neg (by omega)];rfl)|(unfold byV;rw [if_pos (by omega)];rfl)|(unfold byC;rw [if_neg (by omega)])|(unfold byC;rw [if_pos (by omega)])
 first|rfl|(unfold byV;rw [if_neg (by omega)];rfl)|(unfold byV;rw [if_pos (by omega)];rfl)|(unfold byC;rw [if_neg (by omega)])|(unfold byC;rw [if_pos (by omega)])
def BC:(List UInt8)×Cur×Int->List PC:=λ i=>[.bt i.1,.im (.int .i64 i.2.1.i),.im (.int .i64 i.2.1.h)]
def QQ:(List UInt8)×Cur×Int->List PC:=λ i=>[.bt i.1,.im (.int .i64 ((blC i.1 i.2.1 i.2.2).i)),.im (.int .i64 ((blC i.1 i.2.1 i.2.2).h))]
def AP:Con:={ ι:=(List UInt8)×Cur×Int,pre:=λ i=>Ac i.1 i.2.1,args:=λ i=>[.one (cI i.2.2)],ptr:=some (BC,QQ),res:=λ i=>⟨false,[none],[rcI (blV i.1 i.2.1 i.2.2)]⟩ }
theorem L1:AP.OkP Tryz.prog 69 BC QQ:=by
 refine XR (X:=⟨tt,[(33,A1)],[4000000],37,[]⟩) mixed AN (CTok.consP Oi (CTok.nil _)) Tryz.func69 (λ _=>[]) ?_
 rintro ⟨b,c,n⟩ hpre
 have hpre:Ac b c:=hpre
 refine AM (q:=let Z2:=List UInt8;let Z1:=blC b c n;ifB ((decide (n<=(0:Int)))) ((vI (0:Int)=vI (blV b c n))/\(vI c.i=vI (Z1.i))/\(vI c.h=vI (Z1.h))) (ifB ((decide (n<=(256:Int)))) (∃ i1:Z2×Cur,[]=A1.args i1/\[PC.bt b,PC.im (vI c.i),PC.im (vI c.h)]=C8 i1/\A1.pre i1/\((n≠0)/\((vI (Int.tmod (byV i1.1 i1.2) n)=vI (blV b c n))/\(vI ((byC i1.1 i1.2).i)=vI (Z1.i))/\(vI ((byC i1.1 i1.2).h)=vI (Z1.h))))) (∃ i2:Z2×Cur,[]=A1.args i2/\[PC.bt b,PC.im (vI c.i),PC.im (vI c.h)]=C8 i2/\A1.pre i2/\(∃ i3:Z2×Cur,[]=A1.args i3/\[PC.bt b,PC.im (vI ((byC i2.1 i2.2).i)),PC.im (vI ((byC i2.1 i2.2).h))]=C8 i3/\A1.pre i3/\(∃ i4:Z2×Cur,[]=A1.args i4/\[PC.bt b,PC.im (vI ((byC i3.1 i3.2).i)),PC.im (vI ((byC i3.1 i3.2).h))]=C8 i4/\A1.pre i4/\(∃ i5:Z2×Cur,[]=A1.args i5/\[PC.bt b,PC.im (vI ((byC i4.1 i4.2).i)),PC.im (vI ((byC i4.1 i4.2).h))]=C8 i5/\A1.pre i5/\((n≠0)/\((vI (Int.tmod (wR ((wR ((wR ((wR ((byV i2.1 i2.2)*(16777216:Int)))+(wR ((byV i3.1 i3.2)*(65536:Int)))))+(wR ((byV i4.1 i4.2)*(256:Int)))))+(byV i5.1 i5.2))) n)=vI (blV b c n))/\(vI ((byC i5.1 i5.2).i)=vI (Z1.i))/\(vI ((byC i5.1 i5.2).h)=vI (Z1.h)))))))))) (by kernel_rfl) ?_
 conv=>zeta
 delta ifB vI wR
 have k1:=FR hpre
 have k2:=FR k1
 have k3:=FR k2
 have q1:=CQ b c
 have q2:=CQ b (byC b c)
 have q3:=CQ b (byC b (byC b c))
 have q4:=CQ b (byC b (byC b (byC b c)))
 refine ⟨λ c1=>?_,λ c1=>?_⟩
 ·try simp only [nrm] at c1
  have hV:blV b c n=0:=if_pos c1
  have hC:blC b c n=c:=if_pos c1
  refine ⟨?_,?_,?_⟩
  ·first|(rw [hV];done)|(rw [hC];done)
  ·first|(rw [hV];done)|(rw [hC];done)
  first|(rw [hV];done)|(rw [hC];done)
 try simp only [nrm] at c1
 refine ⟨λ c5=>?_,λ c5=>?_⟩
 ·try simp only [nrm] at c5
  have hV:blV b c n=Int.tmod (byV b c) n:=(if_neg (by omega)).trans (if_pos c5)
  have hC:blC b c n=byC b c:=(if_neg (by omega)).trans (if_pos c5)
  refine ⟨(b,c),by
   rfl,rfl,by
   show Ac b c
   first|exact hpre|exact k1|exact k2|exact k3,?_⟩
  refine ao (by first|rfl|omega|(simp;done)|(simp;omega)) λ o9=>?_
  refine ⟨?_,?_,?_⟩
  ·show Value.int .i64 (Int.tmod (byV b c) n)=Value.int .i64 (blV b c n)
   first|(rw [hV];done)|(rw [hC];done)
  ·show Value.int .i64 ((byC b c).i)=Value.int .i64 ((blC b c n).i)
   first|(rw [hV];done)|(rw [hC];done)
  show Value.int .i64 ((byC b c).h)=Value.int .i64 ((blC b c n).h)
  first|(rw [hV];done)|(rw [hC];done)
 try simp only [nrm] at c5
 have hC:blC b c n=byC b (byC b (byC b (byC b c))):=(if_neg (by omega)).trans (if_neg (by omega))
 have hw:IntKind.i64.wrap (IntKind.i64.wrap (IntKind.i64.wrap (IntKind.i64.wrap (byV b c*16777216)+IntKind.i64.wrap (byV b (byC b c)*65536))+IntKind.i64.wrap (byV b (byC b (byC b c))*256))+byV b (byC b (byC b (byC b c))))=byV b c*16777216+byV b (byC b c)*65536+byV b (byC b (byC b c))*256+byV b (byC b (byC b (byC b c))):=by
  rw [AE (x:=byV b c*16777216) (by omega) (by omega),AE (x:=byV b (byC b c)*65536) (by omega) (by omega),AE (x:=byV b (byC b (byC b c))*256) (by omega) (by omega)]
  rw [AE (x:=byV b c*16777216+byV b (byC b c)*65536) (by omega) (by omega),AE (x:=byV b c*16777216+byV b (byC b c)*65536+byV b (byC b (byC b c))*256) (by omega) (by omega),AE (by omega) (by omega)]
 have hV:Int.tmod (IntKind.i64.wrap (IntKind.i64.wrap (IntKind.i64.wrap (IntKind.i64.wrap (byV b c*16777216)+IntKind.i64.wrap (byV b (byC b c)*65536))+IntKind.i64.wrap (byV b (byC b (byC b c))*256))+byV b (byC b (byC b (byC b c))))) n=blV b c n:=by
  rw [hw];exact ((if_neg (by omega)).trans (if_neg (by omega))).symm
 refine ⟨(b,c),by
  rfl,rfl,by
  show Ac b c
  first|exact hpre|exact k1|exact k2|exact k3,?_⟩
 refine ⟨(b,(byC b c)),by
  rfl,rfl,by
  show Ac b (byC b c)
  first|exact hpre|exact k1|exact k2|exact k3,?_⟩
 refine ⟨(b,(byC b (byC b c))),by
  rfl,rfl,by
  show Ac b (byC b (byC b c))
  first|exact hpre|exact k1|exact k2|exact k3,?_⟩
 refine ⟨(b,(byC b (byC b (byC b c)))),by
  rfl,rfl,by
  show Ac b (byC b (byC b (byC b c)))
  first|exact hpre|exact k1|exact k2|exact k3,?_⟩
 refine ao (by first|rfl|omega|(simp;done)|(simp;omega)) λ o25=>?_
 refine ⟨?_,?_,?_⟩
 ·show Value.int .i64 (Int.tmod (IntKind.i64.wrap ((IntKind.i64.wrap ((IntKind.i64.wrap ((IntKind.i64.wrap ((byV b c)*(16777216:Int)))+(IntKind.i64.wrap ((byV b (byC b c))*(65536:Int)))))+(IntKind.i64.wrap ((byV b (byC b (byC b c)))*(256:Int)))))+(byV b (byC b (byC b (byC b c)))))) n)=Value.int .i64 (blV b c n)
  first|(rw [hV];done)|(rw [hC];done)
 ·show Value.int .i64 ((byC b (byC b (byC b (byC b c)))).i)=Value.int .i64 ((blC b c n).i)
  first|(rw [hV];done)|(rw [hC];done)
 show Value.int .i64 ((byC b (byC b (byC b (byC b c)))).h)=Value.int .i64 ((blC b c n).h)
 first|(rw [hV];done)|(rw [hC];done)
end Go.Proofs.YtkffpiaagjcmpaaGreat
namespace Go.Proofs.YtkffpiaagjcmpaaGreat
set_option maxRecDepth 100000
set_option linter.unusedVariables false
set_option linter.unusedSimpArgs false
open Go.RowKit
theorem E6 (n lo hi:Int) (w:World):Calls Tryz.prog 40 #[.int .i64 n,.int .i64 lo,.int .i64 hi] w λ e w'=>e=.returned (.bool (inR n lo hi))/\w=w':=by
 by_cases h1:lo<=n
 ·by_cases h2:n<=hi
  ·rw [PI h1 h2]
   go_enter Tryz.func40,Tryz.ntmps40
   go_wp2
   go_ret
   exact ⟨rfl,rfl⟩
  ·rw [PJ (by omega)]
   go_enter Tryz.func40,Tryz.ntmps40
   go_wp2
   go_ret
   exact ⟨rfl,rfl⟩
 ·rw [TQ (by omega)]
  go_enter Tryz.func40,Tryz.ntmps40
  go_wp2
  go_ret
  exact ⟨rfl,rfl⟩
theorem Oj (n lo hi:Int) (w:World):Calls Tryz.prog 161 #[.int .i64 n,.int .i64 lo,.int .i64 hi] w λ e w'=>e=.returned (.bool (inR n lo hi))/\w=w':=by
 by_cases h1:lo<=n
 ·by_cases h2:n<=hi
  ·rw [PI h1 h2]
   go_enter Tryz.func161,Tryz.ntmps161
   go_wp2
   go_ret
   exact ⟨rfl,rfl⟩
  ·rw [PJ (by omega)]
   go_enter Tryz.func161,Tryz.ntmps161
   go_wp2
   go_ret
   exact ⟨rfl,rfl⟩
 ·rw [TQ (by omega)]
  go_enter Tryz.func161,Tryz.ntmps161
  go_wp2
  go_ret
  exact ⟨rfl,rfl⟩
theorem Tx (x y:Int) (w:World):Calls Tryz.prog 35 #[.agg #[.int .i64 x,.int .i64 y]] w λ e w'=>e=.returned (.bool (AD (x,y)))/\Below w.heap.size w w':=by
 have e:AD (x,y)=(inR x (-1000) 1000 && inR y (-1000) 1000):=rfl
 rw [e];clear e
 cases h1:inR x (-1000) 1000 <;> cases h2:inR y (-1000) 1000
 all_goals
  go_enter Tryz.func35,Tryz.ntmps35
  go_wp2_with (go_at_call 40;refine (E6 _ _ _ _).mono ?_;rintro e w' ⟨rfl,rfl⟩)
  go_ret
  exact ⟨rfl,(by (with_reducible repeat (first|exact Below.refl _ _|assumption|refine Below.drew ?_|refine Below.setCell ?_ ?_ _|refine Below.alloc ?_ ?_ _));all_goals first|(simp;done)|(simp;omega)|omega)⟩
theorem Bc (x y:Int) (w:World):Calls Tryz.prog 126 #[.agg #[.int .i64 x,.int .i64 y]] w λ e w'=>e=.returned (.bool (AD (x,y)))/\Below w.heap.size w w':=by
 have e:AD (x,y)=(inR x (-1000) 1000 && inR y (-1000) 1000):=rfl
 rw [e];clear e
 cases h1:inR x (-1000) 1000 <;> cases h2:inR y (-1000) 1000
 all_goals
  go_enter Tryz.func126,Tryz.ntmps126
  go_wp2_with (go_at_call 161;refine (Oj _ _ _ _).mono ?_;rintro e w' ⟨rfl,rfl⟩)
  go_ret
  exact ⟨rfl,(by (with_reducible repeat (first|exact Below.refl _ _|assumption|refine Below.drew ?_|refine Below.setCell ?_ ?_ _|refine Below.alloc ?_ ?_ _));all_goals first|(simp;done)|(simp;omega)|omega)⟩
theorem XS (a1 a2 b1 b2 c1 c2:Int) (ha:AD (a1,a2)=true) (hb:AD (b1,b2)=true) (hc:AD (c1,c2)=true) (w:World) :
  Calls Tryz.prog 41 #[.agg #[.int .i64 a1,.int .i64 a2],.agg #[.int .i64 b1,.int .i64 b2],.agg #[.int .i64 c1,.int .i64 c2]] w λ e w'=>e=.returned (.int .i64 (AF (a1,a2) (b1,b2) (c1,c2)))/\Below w.heap.size w w':=by
 have A:=BW ha
 have B:=BW hb
 have C:=BW hc
 simp only at A B C
 obtain ⟨xa1,xa2,xa3,xa4⟩:=A
 obtain ⟨xb1,xb2,xb3,xb4⟩:=B
 obtain ⟨xc1,xc2,xc3,xc4⟩:=C
 clear ha hb hc
 have m1:=OK (a:=b1-a1) (b:=c2-a2) (m:=2000) (n:=2000) (by omega) (by omega) (by omega) (by omega)
 have m2:=OK (a:=b2-a2) (b:=c1-a1) (m:=2000) (n:=2000) (by omega) (by omega) (by omega) (by omega)
 simp only [Int.reduceMul,Int.reduceNeg] at m1 m2
 obtain ⟨M1,M2⟩:=m1
 obtain ⟨M3,M4⟩:=m2
 go_enter Tryz.func41,Tryz.ntmps41
 go_wp2
 go_ret
 exact ⟨rfl,(by (with_reducible repeat (first|exact Below.refl _ _|assumption|refine Below.drew ?_|refine Below.setCell ?_ ?_ _|refine Below.alloc ?_ ?_ _));all_goals first|(simp;done)|(simp;omega)|omega)⟩
theorem XT (a1 a2 b1 b2 c1 c2:Int) (ha:AD (a1,a2)=true) (hb:AD (b1,b2)=true) (hc:AD (c1,c2)=true) (w:World) :
  Calls Tryz.prog 162 #[.agg #[.int .i64 a1,.int .i64 a2],.agg #[.int .i64 b1,.int .i64 b2],.agg #[.int .i64 c1,.int .i64 c2]] w λ e w'=>e=.returned (.int .i64 (AF (a1,a2) (b1,b2) (c1,c2)))/\Below w.heap.size w w':=by
 have A:=BW ha
 have B:=BW hb
 have C:=BW hc
 simp only at A B C
 obtain ⟨xa1,xa2,xa3,xa4⟩:=A
 obtain ⟨xb1,xb2,xb3,xb4⟩:=B
 obtain ⟨xc1,xc2,xc3,xc4⟩:=C
 have m1:=OK (a:=b1-a1) (b:=c2-a2) (m:=2000) (n:=2000) (by omega) (by omega) (by omega) (by omega)
 have m2:=OK (a:=b2-a2) (b:=c1-a1) (m:=2000) (n:=2000) (by omega) (by omega) (by omega) (by omega)
 simp only [Int.reduceMul,Int.reduceNeg] at m1 m2
 obtain ⟨M1,M2⟩:=m1
 obtain ⟨M3,M4⟩:=m2
 go_enter Tryz.func162,Tryz.ntmps162
 go_wp2_with fail
 refine (Bc _ _ _).mono ?_
 rintro e w1 ⟨rfl,h1⟩
 have B1:Below w.heap.size w w1:=Below.trans (by (with_reducible repeat (first|exact Below.refl _ _|assumption|refine Below.drew ?_|refine Below.setCell ?_ ?_ _|refine Below.alloc ?_ ?_ _));all_goals first|(simp;done)|(simp;omega)|omega) (h1.mono (by first|(simp;done)|(simp;omega)|omega))
 have S1:=h1.size
 have T1:=B1.size
 try simp at S1
 obtain ⟨k1,f1⟩:=EJ h1
 try simp at k1
 try simp at f1
 have Hc1:=Lib.hid h1
 clear h1
 have u1_0:w.heap.size<w1.heap.size:=by omega
 have u1_1:w.heap.size+1<w1.heap.size:=by omega
 have u1_2:w.heap.size+1+1<w1.heap.size:=by omega
 go_wp2_with fail
 refine (Bc _ _ _).mono ?_
 rintro e w2 ⟨rfl,h2⟩
 have B2:Below w.heap.size w w2:=Below.trans (by (with_reducible repeat (first|exact Below.refl _ _|assumption|refine Below.drew ?_|refine Below.setCell ?_ ?_ _|refine Below.alloc ?_ ?_ _));all_goals first|(simp;done)|(simp;omega)|omega) (h2.mono (by first|(simp;done)|(simp;omega)|omega))
 have S2:=h2.size
 have T2:=B2.size
 try simp at S2
 obtain ⟨k2,f2⟩:=EJ h2
 try simp at k2
 try simp at f2
 have Hc2:=Lib.hid h2
 clear h2
 have u2_0:w.heap.size<w2.heap.size:=by omega
 have u2_1:w.heap.size+1<w2.heap.size:=by omega
 have u2_2:w.heap.size+1+1<w2.heap.size:=by omega
 go_wp2_with fail
 refine (Bc _ _ _).mono ?_
 rintro e w3 ⟨rfl,h3⟩
 have B3:Below w.heap.size w w3:=Below.trans (by (with_reducible repeat (first|exact Below.refl _ _|assumption|refine Below.drew ?_|refine Below.setCell ?_ ?_ _|refine Below.alloc ?_ ?_ _));all_goals first|(simp;done)|(simp;omega)|omega) (h3.mono (by first|(simp;done)|(simp;omega)|omega))
 have S3:=h3.size
 have T3:=B3.size
 try simp at S3
 obtain ⟨k3,f3⟩:=EJ h3
 try simp at k3
 try simp at f3
 have Hc3:=Lib.hid h3
 clear h3
 have u3_0:w.heap.size<w3.heap.size:=by omega
 have u3_1:w.heap.size+1<w3.heap.size:=by omega
 have u3_2:w.heap.size+1+1<w3.heap.size:=by omega
 go_wp2
 go_ret
 exact ⟨rfl,(by (with_reducible repeat (first|exact Below.refl _ _|assumption|refine Below.drew ?_|refine Below.setCell ?_ ?_ _|refine Below.alloc ?_ ?_ _));all_goals first|(simp;done)|(simp;omega)|omega)⟩
end Go.Proofs.YtkffpiaagjcmpaaGreat
namespace Go.Proofs.YtkffpiaagjcmpaaGreat
set_option maxRecDepth 100000
set_option linter.unusedVariables false
set_option linter.unusedSimpArgs false
open Go.RowKit
structure PredVec (g:Nat) (caps:Array Value) (p:V2->Bool) (W:World):Prop where
 enter:∀ (args:Array Value) (w:World),(callFunc g args).run Tryz.prog w=.ok (.enter g args) w
 calls:∀ (x y:Int) (w:World),Below W.heap.size W w->Calls Tryz.prog g (#[.agg #[.int .i64 x,.int .i64 y]]++caps) w λ e w'=>e=.returned (.bool (p (x,y)))/\Below w.heap.size w w'
set_option maxHeartbeats 400000 in
theorem SY (g : Nat) (caps : Array Value) (p : V2 → Bool) (l : List V2) (v : Value) (w : World) (hv : VecsAt w v l) (hp : PredVec g caps p w) :
    Calls Tryz.prog 127 #[v, .func (.func g) #[] caps] w fun e w' => e = .returned (.int .i64 (EH p l)) ∧ Below w.heap.size w w' := by
  obtain ⟨a, cap, rfl, hl, hc, hcell⟩ := hv.open
  have hent := hp.enter
  have HP := Lib.hid hp.calls; clear hp
  have HC := Lib.hid hcell; clear hcell hv
  go_enter Tryz.func127, Tryz.ntmps127
  go_wp2
  go_loopw [8] (fun i wr => ∃ k : Nat, k ≤ l.length ∧ i = .int .i64 k ∧ (l.take k).any p = false ∧ Below w.heap.size w wr) (fun i _ => l.length - (intOf i).toNat)
  case atStart => exact ⟨0, Nat.zero_le _, rfl, by simp, Below.refl _ _⟩
  case round =>
    obtain ⟨k, hk, rfl, hany, hb⟩ := hrel
    have HA := Lib.hid hany; clear hany
    by_cases hlt : k < l.length
    · obtain ⟨b, off, rfl, hbs, c0, c1⟩ := HC.out k hlt
      have d0 := (hb.cell (p := ⟨b, off + k * 2, none⟩) hbs).trans c0
      have d1 := (hb.cell (p := ⟨b, off + k * 2 + 1, none⟩) hbs).trans c1
      obtain ⟨x, y, hxy⟩ : ∃ x y, l.getD k (0, 0) = (x, y) := ⟨_, _, rfl⟩
      rw [hxy] at d0 d1
      simp only at d0 d1
      clear c0 c1
      have HX := Lib.hid hxy; clear hxy
      have HB := Lib.hid hb; clear hb
      go_wp2_with fail
      refine (HP.out x y _ HB.out).mono ?_
      rintro e w1 ⟨rfl, hb1⟩
      cases hpx : p (x, y)
      · go_wp2
        go_roundw
        case rel => exact ⟨k + 1, by omega, by go_num, by rw [Hg p l (0, 0) k hlt, HA.out, HX.out, hpx]; rfl, HB.out.trans (hb1.mono HB.out.size)⟩
        case measure => simp [intOf]; omega
      · go_wp2
        go_ret
        exact ⟨Kc (PK p l (0, 0) k hlt HA.out (by rw [HX.out]; exact hpx)).symm, HB.out.trans (hb1.mono HB.out.size)⟩
    · have HB := Lib.hid hb; clear hb
      go_wp2
      go_ret
      exact ⟨Kc (K1 p l (by have := HA.out; rwa [List.take_of_length_le (by omega)] at this)).symm, HB.out⟩
theorem Hl (g:Nat) (caps:Array Value) (p:V2->Bool) (l:List V2) (v:Value) (w:World) (hv:VecsAt w v l) (hp:PredVec g caps p w) :
  Calls Tryz.prog 73 #[v,.func (.func g) #[] caps] w λ e w'=>e=.returned (.bool (l.any p))/\Below w.heap.size w w':=by
 rw [← My]
 have HV:=Lib.hid hv;clear hv
 have HP:=Lib.hid hp;clear hp
 go_enter Tryz.func73,Tryz.ntmps73
 go_wp2_with fail
 refine (SY g caps p l _ _ HV.out HP.out).mono ?_
 rintro e w1 ⟨rfl,hb1⟩
 have HB:=Lib.hid hb1;clear hb1
 go_wp2
 go_ret
 exact ⟨rfl,HB.out⟩
theorem SZ (W:World):PredVec 74 #[] (λ p=>!AD p) W where
 enter:=λ args w=>by kernel_rfl
 calls:=λ x y w _=>by
  show Calls Tryz.prog 74 #[.agg #[.int .i64 x,.int .i64 y]] w _
  go_enter Tryz.func74,Tryz.ntmps74
  go_wp2_with fail
  refine (Tx _ _ _).mono ?_
  rintro e w1 ⟨rfl,h1⟩
  have B1:Below w.heap.size w w1:=Below.trans (by (with_reducible repeat (first|exact Below.refl _ _|assumption|refine Below.drew ?_|refine Below.setCell ?_ ?_ _|refine Below.alloc ?_ ?_ _));all_goals first|(simp;done)|(simp;omega)|omega) (h1.mono (by first|(simp;done)|(simp;omega)|omega))
  have S1:=h1.size
  have T1:=B1.size
  try simp at S1
  obtain ⟨k1,f1⟩:=EJ h1
  try simp at k1
  try simp at f1
  have Hc1:=Lib.hid h1
  clear h1
  have u1_0:w.heap.size<w1.heap.size:=by omega
  go_wp2
  go_ret
  exact ⟨rfl,(by (with_reducible repeat (first|exact Below.refl _ _|assumption|refine Below.drew ?_|refine Below.setCell ?_ ?_ _|refine Below.alloc ?_ ?_ _));all_goals first|(simp;done)|(simp;omega)|omega)⟩
theorem Jk (l:List V2) (v:Value) (w:World) (hv:VecsAt w v l) :
  Calls Tryz.prog 36 #[v] w λ e w'=>e=.returned (.bool (l.all AD))/\Below w.heap.size w w':=by
 have e:l.all AD=!(l.any λ p=>!AD p):=by simp [List.not_any_eq_all_not]
 rw [e];clear e
 have HV:=Lib.hid hv;clear hv
 go_enter Tryz.func36,Tryz.ntmps36
 go_wp2_with fail
 refine (Hl _ #[] _ l _ _ HV.out (SZ _)).mono ?_
 rintro e w1 ⟨rfl,hb1⟩
 have HB:=Lib.hid hb1;clear hb1
 go_wp2
 go_ret
 exact ⟨rfl,HB.out⟩
theorem XU (m:Int) (hm0:0<=m) (hm1:m<=1000) (b0:Nat) (W:World) (hb0:b0<W.heap.size) (hcell:W.cell? ⟨b0,0,none⟩=some (.int .i64 m)) :
  PredVec 128 #[.pointer (some ⟨b0,0,none⟩)] (λ p=>!B0 m p) W where
 enter:=λ args w=>by kernel_rfl
 calls:=λ x y w hbw=>by
  show Calls Tryz.prog 128 #[.agg #[.int .i64 x,.int .i64 y],.pointer (some ⟨b0,0,none⟩)] w _
  have d0:=(hbw.cell (p:=⟨b0,0,none⟩) hb0).trans hcell
  have e:B0 m (x,y)=(inR x (-m) m && inR y (-m) m):=rfl
  simp only [e]
  have hz:b0<w.heap.size:=Nat.lt_of_lt_of_le hb0 hbw.size
  clear e hbw hcell hb0
  cases h1:inR x (-m) m <;> cases h2:inR y (-m) m
  all_goals
   go_enter Tryz.func128,Tryz.ntmps128
   go_wp2_with (go_at_call 40;refine (E6 _ _ _ _).mono ?_;rintro e w' ⟨rfl,rfl⟩)
   go_ret
   exact ⟨rfl,(by (with_reducible repeat (first|exact Below.refl _ _|assumption|refine Below.drew ?_|refine Below.setCell ?_ ?_ _|refine Below.alloc ?_ ?_ _));all_goals first|(simp;done)|(simp;omega)|omega)⟩
theorem Ol (m:Int) (hm0:0<=m) (hm1:m<=1000) (l:List V2) (v:Value) (w:World) (hv:VecsAt w v l) :
  Calls Tryz.prog 75 #[.int .i64 m,v] w λ e w'=>e=.returned (.bool (l.all (B0 m)))/\Below w.heap.size w w':=by
 have e:l.all (B0 m)=!(l.any λ p=>!B0 m p):=by simp [List.not_any_eq_all_not]
 rw [e];clear e
 have HV:=Lib.hid hv;clear hv
 go_enter Tryz.func75,Tryz.ntmps75
 go_wp2_with fail
 refine (Hl _ _ _ l _ _ (HV.out.below ((Below.refl _ _).alloc (Nat.le_refl _) _)) (XU m hm0 hm1 w.heap.size _ (by simp) (by go_simp))).mono ?_
 rintro e w1 ⟨rfl,hb1⟩
 have HB:=Lib.hid hb1;clear hb1
 go_wp2
 go_ret
 exact ⟨rfl,((Below.refl _ _).alloc (Nat.le_refl _) _).trans (HB.out.mono (by simp))⟩
end Go.Proofs.YtkffpiaagjcmpaaGreat
namespace Go.Proofs.YtkffpiaagjcmpaaGreat
set_option maxRecDepth 100000
set_option linter.unusedVariables false
set_option linter.unusedSimpArgs false
open Go.RowKit
theorem Ih (l:List V2) (h:inR l.length 3 16=false):AG l=false:=by simp [AG,h]
theorem L2 (l:List V2) (h:l.all AD=false):AG l=false:=by simp only [AG,h];simp
theorem KJ (l:List V2) (h1:inR l.length 3 16=true) (h2:l.all AD=true):AG l=(List.range l.length).all (Fs l):=by simp only [AG,h1,h2];rfl
theorem KL (l:List V2) (k j m:Nat) (hm:m=(k+1)%l.length) (pa pb pc:V2) (ha:l.getD k (0,0)=pa) (hb:l.getD m (0,0)=pb) (hc:l.getD j (0,0)=pc) :
  Cj l k j=(decide (j=k) || decide (j=m) || decide (0<AF pa pb pc)):=by
 subst hm ha hb hc;rfl
set_option maxHeartbeats 2000000 in
theorem GN (l : List V2) (v : Value) (w : World) (hv : VecsAt w v l) :
    Calls Tryz.prog 10 #[v] w fun e w' => e = .returned (.bool (AG l)) ∧ Below w.heap.size w w' := by
  have HV := Lib.hid hv
  obtain ⟨a, cap, rfl, hl, hc, hcell⟩ := hv.open
  have HC := Lib.hid hcell; clear hcell hv
  cases h1 : inR l.length 3 16
  · rw [Ih l h1]
    go_enter Tryz.func10, Tryz.ntmps10
    go_wp2_with fail
    refine (E6 _ _ _ _).mono ?_
    rintro e w' ⟨rfl, rfl⟩
    go_wp2
    go_ret
    exact ⟨rfl, Below.refl _ _⟩
  · have hn := Az.1 h1
    obtain ⟨hn1, hn2⟩ := hn
    have hn3 : 3 ≤ l.length := by omega
    have hn4 : l.length ≤ 16 := by omega
    clear hn1 hn2
    cases h2 : l.all AD
    · rw [L2 l h2]
      go_enter Tryz.func10, Tryz.ntmps10
      go_wp2_with fail
      refine (E6 _ _ _ _).mono ?_
      rintro e w' ⟨rfl, rfl⟩
      go_wp2_with fail
      refine (Jk l _ _ HV.out).mono ?_
      rintro e w1 ⟨rfl, hb1⟩
      have HB := Lib.hid hb1; clear hb1
      go_wp2
      go_ret
      exact ⟨rfl, HB.out⟩
    · rw [KJ l h1 h2]
      have HI := Lib.hid h2
      go_enter Tryz.func10, Tryz.ntmps10
      go_wp2_with fail
      refine (E6 _ _ _ _).mono ?_
      rintro e w' ⟨rfl, rfl⟩
      go_wp2_with fail
      refine (Jk l _ _ HV.out).mono ?_
      rintro e w1 ⟨rfl, hb1⟩
      have HB := Lib.hid hb1; clear hb1
      go_wp2
      clear h1 h2
      go_loopw [21] (fun i wr => ∃ k : Nat, k ≤ l.length ∧ i = .int .i64 k ∧ (List.range k).all (Fs l) = true ∧ Below w.heap.size w wr) (fun i _ => l.length - (intOf i).toNat)
      case atStart => exact ⟨0, Nat.zero_le _, rfl, by simp, HB.out⟩
      case round =>
        obtain ⟨k, hk, rfl, hall, hb⟩ := hrel
        have HA := Lib.hid hall; clear hall
        by_cases hlt : k < l.length
        · obtain ⟨m, hm⟩ : ∃ m, m = (k + 1) % l.length := ⟨_, rfl⟩
          have hmlt : m < l.length := by rw [hm]; exact Nat.mod_lt _ (by omega)
          have hmi : ((k : Int) + 1) % (l.length : Int) = (m : Int) := by rw [hm]; simp
          obtain ⟨b, off, rfl, hbs, c0, c1⟩ := HC.out k hlt
          obtain ⟨b', off', he, _, c2, c3⟩ := HC.out m hmlt
          obtain ⟨rfl, rfl⟩ : b' = b ∧ off' = off := by simpa [eq_comm] using he
          clear he
          have d0 := (hb.cell (p := ⟨b', off' + k * 2, none⟩) hbs).trans c0
          have d1 := (hb.cell (p := ⟨b', off' + k * 2 + 1, none⟩) hbs).trans c1
          have d2 := (hb.cell (p := ⟨b', off' + m * 2, none⟩) hbs).trans c2
          have d3 := (hb.cell (p := ⟨b', off' + m * 2 + 1, none⟩) hbs).trans c3
          have va := Dt HI.out (0, 0) k hlt
          have vb := Dt HI.out (0, 0) m hmlt
          obtain ⟨x, y, hxy⟩ : ∃ x y, l.getD k (0, 0) = (x, y) := ⟨_, _, rfl⟩
          obtain ⟨x', y', hxy'⟩ : ∃ x y, l.getD m (0, 0) = (x, y) := ⟨_, _, rfl⟩
          rw [hxy] at d0 d1 va
          rw [hxy'] at d2 d3 vb
          simp only at d0 d1 d2 d3
          have hz : b' < wr.heap.size := Nat.lt_of_lt_of_le hbs hb.size
          have hws := hb.size
          clear c0 c1 c2 c3
          have HX := Lib.hid hxy; clear hxy
          have HX' := Lib.hid hxy'; clear hxy'
          have HM := Lib.hid hm; clear hm
          have HVA := Lib.hid va; clear va
          have HVB := Lib.hid vb; clear vb
          have HB' := Lib.hid hb; clear hb HB
          obtain ⟨wo, rfl⟩ : ∃ wo : World, wo = wr := ⟨_, rfl⟩
          go_wp2
          have HW1 : Below w.heap.size w ((wo.alloc (.cells #[.int .i64 x, .int .i64 y] 24)).alloc (.cells #[.int .i64 x', .int .i64 y'] 24)) := (HB'.out.alloc hws _).alloc (by simp; omega) _
          have HH := Lib.hid HW1; clear HW1 d0 d1 d2 d3
          rw [hmi]
          go_loopw [35] (fun i wr => ∃ j : Nat, j ≤ l.length ∧ i = .int .i64 j ∧ (List.range j).all (Cj l k) = true ∧ Below (wo.heap.size + 2) ((wo.alloc (.cells #[.int .i64 x, .int .i64 y] 24)).alloc (.cells #[.int .i64 x', .int .i64 y'] 24)) wr) (fun i _ => l.length - (intOf i).toNat)
          case atStart => exact ⟨0, Nat.zero_le _, rfl, by simp, Below.refl _ _⟩
          case round =>
            obtain ⟨j, hj, rfl, hall, hb⟩ := hrel
            have HA2 := Lib.hid hall; clear hall
            have e0 : wr.cell? ⟨wo.heap.size, 0, none⟩ = some (.int .i64 x) := (hb.cell (p := ⟨wo.heap.size, 0, none⟩) (by simp)).trans (by go_simp)
            have e1 : wr.cell? ⟨wo.heap.size, 1, none⟩ = some (.int .i64 y) := (hb.cell (p := ⟨wo.heap.size, 1, none⟩) (by simp)).trans (by go_simp)
            have e2 : wr.cell? ⟨wo.heap.size + 1, 0, none⟩ = some (.int .i64 x') := (hb.cell (p := ⟨wo.heap.size + 1, 0, none⟩) (by simp)).trans (by go_simp)
            have e3 : wr.cell? ⟨wo.heap.size + 1, 1, none⟩ = some (.int .i64 y') := (hb.cell (p := ⟨wo.heap.size + 1, 1, none⟩) (by simp)).trans (by go_simp)
            have hsz := hb.size
            simp only [World.size_alloc] at hsz
            have z0 : wo.heap.size < wr.heap.size := by omega
            have z1 : wo.heap.size + 1 < wr.heap.size := by omega
            have z2 : b' < wr.heap.size := by omega
            have zw : w.heap.size ≤ wr.heap.size := by omega
            have HB2 := Lib.hid (HH.out.trans (hb.mono (by omega)))
            have hbb := hb.cell (p := ⟨b', off' + j * 2, none⟩) (by show b' < _; omega)
            have hbb' := hb.cell (p := ⟨b', off' + j * 2 + 1, none⟩) (by show b' < _; omega)
            have hbo := HH.out.cell (p := ⟨b', off' + j * 2, none⟩) hbs
            have hbo' := HH.out.cell (p := ⟨b', off' + j * 2 + 1, none⟩) hbs
            have HR := Lib.hid hb; clear hb
            by_cases hjlt : j < l.length
            · obtain ⟨b2, off2, he, _, c4, c5⟩ := HC.out j hjlt
              obtain ⟨rfl, rfl⟩ : b2 = b' ∧ off2 = off' := by simpa [eq_comm] using he
              clear he
              have d4 := hbb.trans (hbo.trans c4)
              have d5 := hbb'.trans (hbo'.trans c5)
              have vc := Dt HI.out (0, 0) j hjlt
              obtain ⟨px, py, hpp⟩ : ∃ x y, l.getD j (0, 0) = (x, y) := ⟨_, _, rfl⟩
              rw [hpp] at d4 d5 vc
              simp only at d4 d5
              clear hbb hbb' hbo hbo' c4 c5
              have HP := Lib.hid hpp; clear hpp
              have HVC := Lib.hid vc; clear vc
              have hst := KL l k j m HM.out _ _ _ HX.out HX'.out HP.out
              have HST := Lib.hid hst; clear hst
              by_cases hjk : j = k
              · have hn1 : ((j : Int) != (k : Int)) = false := by simp [hjk]
                have HJ := Lib.hid hjk; clear hjk
                go_wp2
                go_roundw
                case rel => exact ⟨j + 1, by omega, by go_num, by rw [BH, HA2.out, HST.out, HJ.out]; simp, HR.out.alloc (by omega) _⟩
                case measure => simp [intOf]; omega
              · have hn1 : ((j : Int) != (k : Int)) = true := by simp; omega
                have HJ := Lib.hid hjk; clear hjk
                by_cases hjm : j = m
                · have hn2 : ((j : Int) != (m : Int)) = false := by simp [hjm]
                  have HJM := Lib.hid hjm; clear hjm
                  go_wp2
                  go_roundw
                  case rel => exact ⟨j + 1, by omega, by go_num, by rw [BH, HA2.out, HST.out, HJM.out]; simp, HR.out.alloc (by omega) _⟩
                  case measure => simp [intOf]; omega
                · have hn2 : ((j : Int) != (m : Int)) = true := by simp; omega
                  have HJM := Lib.hid hjm; clear hjm
                  go_wp2_with fail
                  refine (XS _ _ _ _ _ _ HVA.out HVB.out HVC.out _).mono ?_
                  rintro e w2 ⟨rfl, hb2⟩
                  have hb2s := hb2.size
                  simp only [World.size_alloc] at hb2s
                  have HB3 := Lib.hid hb2; clear hb2
                  by_cases ht : AF (x, y) (x', y') (px, py) ≤ 0
                  · go_wp2
                    go_ret
                    refine ⟨Bf (CM _ _ k hlt ?_).symm, (HB2.out.alloc zw _).trans (HB3.out.mono (by simp; omega))⟩
                    refine CM _ _ j hjlt ?_
                    rw [HST.out]
                    simp [HJ.out, HJM.out, ht]
                  · go_wp2
                    go_roundw
                    case rel =>
                      refine ⟨j + 1, by omega, by go_num, ?_, (HR.out.alloc (by omega) _).trans (HB3.out.mono (by simp; omega))⟩
                      rw [BH, HA2.out, HST.out]
                      have : 0 < AF (x, y) (x', y') (px, py) := by omega
                      simp [this]
                    case measure => simp [intOf]; omega
            · clear hbb hbb' hbo hbo'
              go_wp2
              go_roundw
              case rel =>
                refine ⟨k + 1, by omega, by go_num, ?_, HB2.out⟩
                rw [BH, HA.out]
                have := HA2.out
                rw [show j = l.length by omega] at this
                simpa [Fs] using this
              case measure => simp [intOf]; omega
        · have HB' := Lib.hid hb; clear hb HB
          go_wp2
          go_ret
          exact ⟨Bf (by have := HA.out; rw [show k = l.length by omega] at this; exact this.symm), HB'.out⟩
theorem Mu (l:List V2) (k j:Nat) (hk:k<l.length) (hj:j<l.length) (h:Cj l k j=false):AG l=false:=by
 have h1:Fs l k=false:=CM _ _ j hj h
 have h2:(List.range l.length).all (Fs l)=false:=CM _ _ k hk h1
 simp only [AG,h2];simp
set_option maxHeartbeats 2000000 in
theorem Om (l : List V2) (v : Value) (w : World) (hv : VecsAt w v l) :
    Calls Tryz.prog 125 #[v] w fun e w' => e = .returned (.bool (AG l)) ∧ Below w.heap.size w w' := by
  obtain ⟨a, cap, rfl, hl, hc, hcell⟩ := hv.open
  have HC := Lib.hid hcell; clear hcell hv
  cases h1 : inR l.length 3 16
  · rw [Ih l h1]
    go_enter Tryz.func125, Tryz.ntmps125
    go_wp2_with fail
    refine (Oj _ _ _ _).mono ?_
    rintro e w' ⟨rfl, rfl⟩
    go_wp2
    go_ret
    exact ⟨rfl, Below.refl _ _⟩
  · have hn := Az.1 h1
    obtain ⟨hn1, hn2⟩ := hn
    have hn3 : 3 ≤ l.length := by omega
    have hn4 : l.length ≤ 16 := by omega
    clear hn1 hn2
    have HH1 := Lib.hid h1
    go_enter Tryz.func125, Tryz.ntmps125
    go_wp2_with fail
    refine (Oj _ _ _ _).mono ?_
    rintro e w' ⟨rfl, rfl⟩
    go_wp2
    clear h1
    go_loopw [16] (fun i wr => ∃ k : Nat, k ≤ l.length ∧ i = .int .i64 k ∧ (k = 0 ∨ l.all AD = true) ∧ (List.range k).all (Fs l) = true ∧ Below w.heap.size w wr) (fun i _ => l.length - (intOf i).toNat)
    case atStart => exact ⟨0, Nat.zero_le _, rfl, .inl rfl, by simp, Below.refl _ _⟩
    case round =>
      obtain ⟨k, hk, rfl, hkv, hall, hb⟩ := hrel
      have HA := Lib.hid hall; clear hall
      have HK := Lib.hid hkv; clear hkv
      by_cases hlt : k < l.length
      · obtain ⟨m, hm⟩ : ∃ m, m = (k + 1) % l.length := ⟨_, rfl⟩
        have hmlt : m < l.length := by rw [hm]; exact Nat.mod_lt _ (by omega)
        have hmi : ((k : Int) + 1) % (l.length : Int) = (m : Int) := by rw [hm]; simp
        obtain ⟨b, off, rfl, hbs, c0, c1⟩ := HC.out k hlt
        obtain ⟨b', off', he, _, c2, c3⟩ := HC.out m hmlt
        obtain ⟨rfl, rfl⟩ : b' = b ∧ off' = off := by simpa [eq_comm] using he
        clear he
        have d0 := (hb.cell (p := ⟨b', off' + k * 2, none⟩) hbs).trans c0
        have d1 := (hb.cell (p := ⟨b', off' + k * 2 + 1, none⟩) hbs).trans c1
        have d2 := (hb.cell (p := ⟨b', off' + m * 2, none⟩) hbs).trans c2
        have d3 := (hb.cell (p := ⟨b', off' + m * 2 + 1, none⟩) hbs).trans c3
        obtain ⟨x, y, hxy⟩ : ∃ x y, l.getD k (0, 0) = (x, y) := ⟨_, _, rfl⟩
        obtain ⟨x', y', hxy'⟩ : ∃ x y, l.getD m (0, 0) = (x, y) := ⟨_, _, rfl⟩
        rw [hxy] at d0 d1
        rw [hxy'] at d2 d3
        simp only at d0 d1 d2 d3
        have hz : b' < wr.heap.size := Nat.lt_of_lt_of_le hbs hb.size
        have hws := hb.size
        clear c0 c1 c2 c3
        have HX := Lib.hid hxy; clear hxy
        have HX' := Lib.hid hxy'; clear hxy'
        have HM := Lib.hid hm; clear hm
        have HB' := Lib.hid hb; clear hb
        obtain ⟨wo, rfl⟩ : ∃ wo : World, wo = wr := ⟨_, rfl⟩
        go_wp2
        have HW1 : Below w.heap.size w ((wo.alloc (.cells #[.int .i64 x, .int .i64 y] 24)).alloc (.cells #[.int .i64 x', .int .i64 y'] 24)) := (HB'.out.alloc hws _).alloc (by simp; omega) _
        have HH := Lib.hid HW1; clear HW1 d0 d1 d2 d3
        try rw [hmi]
        go_loopw [30] (fun i wr => ∃ j : Nat, j ≤ l.length ∧ i = .int .i64 j ∧ (l.take j).all AD = true ∧ (List.range j).all (Cj l k) = true ∧ Below (wo.heap.size + 2) ((wo.alloc (.cells #[.int .i64 x, .int .i64 y] 24)).alloc (.cells #[.int .i64 x', .int .i64 y'] 24)) wr) (fun i _ => l.length - (intOf i).toNat)
        case atStart => exact ⟨0, Nat.zero_le _, rfl, by simp, by simp, Below.refl _ _⟩
        case round =>
          obtain ⟨j, hj, rfl, hjv, hall, hb⟩ := hrel
          have HA2 := Lib.hid hall; clear hall
          have HJV := Lib.hid hjv; clear hjv
          have e0 : wr.cell? ⟨wo.heap.size, 0, none⟩ = some (.int .i64 x) := (hb.cell (p := ⟨wo.heap.size, 0, none⟩) (by simp)).trans (by go_simp)
          have e1 : wr.cell? ⟨wo.heap.size, 1, none⟩ = some (.int .i64 y) := (hb.cell (p := ⟨wo.heap.size, 1, none⟩) (by simp)).trans (by go_simp)
          have e2 : wr.cell? ⟨wo.heap.size + 1, 0, none⟩ = some (.int .i64 x') := (hb.cell (p := ⟨wo.heap.size + 1, 0, none⟩) (by simp)).trans (by go_simp)
          have e3 : wr.cell? ⟨wo.heap.size + 1, 1, none⟩ = some (.int .i64 y') := (hb.cell (p := ⟨wo.heap.size + 1, 1, none⟩) (by simp)).trans (by go_simp)
          have hsz := hb.size
          simp only [World.size_alloc] at hsz
          have z0 : wo.heap.size < wr.heap.size := by omega
          have z1 : wo.heap.size + 1 < wr.heap.size := by omega
          have z2 : b' < wr.heap.size := by omega
          have zw : w.heap.size ≤ wr.heap.size := by omega
          have HB2 := Lib.hid (HH.out.trans (hb.mono (by omega)))
          have hbb := hb.cell (p := ⟨b', off' + j * 2, none⟩) (by show b' < _; omega)
          have hbb' := hb.cell (p := ⟨b', off' + j * 2 + 1, none⟩) (by show b' < _; omega)
          have hbo := HH.out.cell (p := ⟨b', off' + j * 2, none⟩) hbs
          have hbo' := HH.out.cell (p := ⟨b', off' + j * 2 + 1, none⟩) hbs
          have HR := Lib.hid hb; clear hb
          by_cases hjlt : j < l.length
          · obtain ⟨b2, off2, he, _, c4, c5⟩ := HC.out j hjlt
            obtain ⟨rfl, rfl⟩ : b2 = b' ∧ off2 = off' := by simpa [eq_comm] using he
            clear he
            have d4 := hbb.trans (hbo.trans c4)
            have d5 := hbb'.trans (hbo'.trans c5)
            obtain ⟨px, py, hpp⟩ : ∃ x y, l.getD j (0, 0) = (x, y) := ⟨_, _, rfl⟩
            rw [hpp] at d4 d5
            simp only at d4 d5
            clear hbb hbb' hbo hbo' c4 c5
            have HP := Lib.hid hpp; clear hpp
            have hst := KL l k j m HM.out _ _ _ HX.out HX'.out HP.out
            have HST := Lib.hid hst; clear hst
            cases hvc : AD (px, py)
            · go_wp2_with fail
              refine (Bc _ _ _).mono ?_
              rintro e w2 ⟨rfl, hb2⟩
              have HB3 := Lib.hid hb2; clear hb2
              go_wp2
              go_ret
              refine ⟨Bf (L2 l (K3 _ l (0, 0) j hjlt (by rw [HP.out]; exact hvc))).symm, (HB2.out.alloc zw _).trans (HB3.out.mono (by simp; omega))⟩
            · have HVC := Lib.hid hvc
              have HJV' : Hid ((l.take (j + 1)).all AD = true) := by show _ = _; rw [Mf _ l (0, 0) j hjlt, HJV.out, HP.out, hvc]; rfl
              by_cases hjk : j = k
              · have hn1 : ((j : Int) != (k : Int)) = false := by simp [hjk]
                have HJ := Lib.hid hjk; clear hjk
                go_wp2_with fail
                refine (Bc _ _ _).mono ?_
                rintro e w2 ⟨rfl, hb2⟩
                have HB3 := Lib.hid hb2; clear hb2
                go_wp2
                go_roundw
                case rel => exact ⟨j + 1, by omega, by go_num, HJV'.out, by rw [BH, HA2.out, HST.out, HJ.out]; simp, (HR.out.alloc (by omega) _).trans (HB3.out.mono (by simp; omega))⟩
                case measure => simp [intOf]; omega
              · have hn1 : ((j : Int) != (k : Int)) = true := by simp; omega
                have HJ := Lib.hid hjk; clear hjk
                by_cases hjm : j = m
                · have hn2 : ((j : Int) != (m : Int)) = false := by simp [hjm]
                  have HJM := Lib.hid hjm; clear hjm
                  go_wp2_with fail
                  refine (Bc _ _ _).mono ?_
                  rintro e w2 ⟨rfl, hb2⟩
                  have HB3 := Lib.hid hb2; clear hb2
                  go_wp2
                  go_roundw
                  case rel => exact ⟨j + 1, by omega, by go_num, HJV'.out, by rw [BH, HA2.out, HST.out, HJM.out]; simp, (HR.out.alloc (by omega) _).trans (HB3.out.mono (by simp; omega))⟩
                  case measure => simp [intOf]; omega
                · have hn2 : ((j : Int) != (m : Int)) = true := by simp; omega
                  have HJM := Lib.hid hjm; clear hjm
                  have hvab : AD (x, y) = true ∧ AD (x', y') = true := by
                    rw [← HX.out, ← HX'.out]
                    rcases HK.out with h0 | h0
                    · have hm1 : m = 1 := by have := HM.out; rw [h0, Nat.mod_eq_of_lt (by omega)] at this; omega
                      have hj1 := HJ.out
                      have hj2 := HJM.out
                      have g0 := Dt HJV.out (0, 0) k (by simp; omega)
                      have g1 := Dt HJV.out (0, 0) m (by simp; omega)
                      simp only [List.getD, List.getElem?_take] at g0 g1 ⊢
                      rw [if_pos (by omega)] at g0 g1
                      exact ⟨g0, g1⟩
                    · exact ⟨Dt h0 (0, 0) k hlt, Dt h0 (0, 0) m hmlt⟩
                  have HVAB := Lib.hid hvab; clear hvab
                  go_wp2_with fail
                  refine (Bc _ _ _).mono ?_
                  rintro e w2 ⟨rfl, hb2⟩
                  have S2 := hb2.size
                  simp only [World.size_alloc] at S2
                  obtain ⟨k2, f2⟩ := EJ hb2
                  simp only [World.size_alloc] at k2 f2
                  have u0 : wo.heap.size < w2.heap.size := by omega
                  have u1 : wo.heap.size + 1 < w2.heap.size := by omega
                  have u2 : wr.heap.size < w2.heap.size := by omega
                  have v0 : wo.heap.size < wr.heap.size + 1 := by omega
                  have v1 : wo.heap.size + 1 < wr.heap.size + 1 := by omega
                  have HB3 := Lib.hid hb2; clear hb2
                  go_wp2_with fail
                  refine (XT _ _ _ _ _ _ HVAB.out.1 HVAB.out.2 HVC.out _).mono ?_
                  rintro e w3 ⟨rfl, hb3⟩
                  have S3 := hb3.size
                  have HB4 := Lib.hid hb3; clear hb3
                  clear hvc
                  by_cases ht : AF (x, y) (x', y') (px, py) ≤ 0
                  · go_wp2
                    go_ret
                    refine ⟨Bf (Mu l k j hlt hjlt ?_).symm, ((HB2.out.alloc zw _).trans (HB3.out.mono (by simp; omega))).trans (HB4.out.mono (by omega))⟩
                    rw [HST.out]
                    simp [HJ.out, HJM.out, ht]
                  · go_wp2
                    go_roundw
                    case rel =>
                      refine ⟨j + 1, by omega, by go_num, HJV'.out, ?_, ((HR.out.alloc (by omega) _).trans (HB3.out.mono (by simp; omega))).trans (HB4.out.mono (by omega))⟩
                      rw [BH, HA2.out, HST.out]
                      have : 0 < AF (x, y) (x', y') (px, py) := by omega
                      simp [this]
                    case measure => simp [intOf]; omega
          · clear hbb hbb' hbo hbo'
            go_wp2
            go_roundw
            case rel =>
              have hje : j = l.length := by omega
              refine ⟨k + 1, by omega, by go_num, .inr ?_, ?_, HB2.out⟩
              · have := HJV.out
                rw [hje, List.take_length] at this
                exact this
              · rw [BH, HA.out]
                have := HA2.out
                rw [hje] at this
                simpa [Fs] using this
            case measure => simp [intOf]; omega
      · have HB' := Lib.hid hb; clear hb
        go_wp2
        go_ret
        refine ⟨Bf ?_, HB'.out⟩
        have hke : k = l.length := by omega
        have h3 := HA.out
        rw [hke] at h3
        rcases HK.out with h0 | h0
        · omega
        · rw [KJ l HH1.out h0, h3]
end Go.Proofs.YtkffpiaagjcmpaaGreat
namespace Go.Proofs.YtkffpiaagjcmpaaGreat
set_option maxRecDepth 100000
set_option linter.unusedVariables false
set_option linter.unusedSimpArgs false
open Go.RowKit
theorem Nq (m:Int) (hm0:0<=m) (hm1:m<=1000) (l:List V2) (v:Value) (w:World) (hv:VecsAt w v l) :
  Calls Tryz.prog 76 #[v,.int .i64 m] w λ e w'=>e=.returned (.bool (shape m l))/\Below w.heap.size w w':=by
 have HV:=Lib.hid hv
 obtain ⟨a,cap,rfl,hl,hc,_⟩:=hv.open
 clear hv
 by_cases h5:l.length<=5
 ·cases hp:AG l
  ·have e:shape m l=false:=by simp [shape,hp]
   rw [e];clear e
   go_enter Tryz.func76,Tryz.ntmps76
   go_wp2_with fail
   refine (GN l _ _ HV.out).mono ?_
   rintro e w1 ⟨rfl,hb1⟩
   have HB:=Lib.hid hb1;clear hb1
   go_wp2
   go_ret
   exact ⟨rfl,HB.out⟩
  ·have e:shape m l=l.all (B0 m):=by simp [shape,hp,h5]
   rw [e];clear e
   go_enter Tryz.func76,Tryz.ntmps76
   go_wp2_with fail
   refine (GN l _ _ HV.out).mono ?_
   rintro e w1 ⟨rfl,hb1⟩
   have HB:=Lib.hid hb1;clear hb1
   go_wp2_with fail
   refine (Ol m hm0 hm1 l _ _ (HV.out.below HB.out)).mono ?_
   rintro e w2 ⟨rfl,hb2⟩
   have HB2:=Lib.hid (HB.out.trans (hb2.mono HB.out.size));clear hb2
   go_wp2
   go_ret
   exact ⟨rfl,HB2.out⟩
 ·have e:shape m l=false:=by simp [shape,h5]
  rw [e];clear e
  go_enter Tryz.func76,Tryz.ntmps76
  go_wp2
  go_ret
  exact ⟨rfl,Below.refl _ _⟩
structure PredVS (g:Nat) (caps:Array Value) (p:List V2->Bool) (W:World):Prop where
 enter:∀ (args:Array Value) (w:World),(callFunc g args).run Tryz.prog w=.ok (.enter g args) w
 calls:∀ (l:List V2) (v:Value) (w:World),Below W.heap.size W w->VecsAt w v l->Calls Tryz.prog g (#[v]++caps) w λ e w'=>e=.returned (.bool (p l))/\Below w.heap.size w w'
set_option maxHeartbeats 400000 in
theorem VL (g : Nat) (caps : Array Value) (p : List V2 → Bool) (l : List (List V2)) (v : Value) (w : World) (hv : VecSSAt w v l) (hp : PredVS g caps p w) :
    Calls Tryz.prog 129 #[v, .func (.func g) #[] caps] w fun e w' => e = .returned (.int .i64 (EH p l)) ∧ Below w.heap.size w w' := by
  obtain ⟨a, cap, rfl, hl, hc, hcell⟩ := hv.open
  have hent := hp.enter
  have HP := Lib.hid hp.calls; clear hp
  have HC := Lib.hid hcell; clear hcell hv
  go_enter Tryz.func129, Tryz.ntmps129
  go_wp2
  go_loopw [8] (fun i wr => ∃ k : Nat, k ≤ l.length ∧ i = .int .i64 k ∧ (l.take k).any p = false ∧ Below w.heap.size w wr) (fun i _ => l.length - (intOf i).toNat)
  case atStart => exact ⟨0, Nat.zero_le _, rfl, by simp, Below.refl _ _⟩
  case round =>
    obtain ⟨k, hk, rfl, hany, hb⟩ := hrel
    have HA := Lib.hid hany; clear hany
    by_cases hlt : k < l.length
    · obtain ⟨b, off, u, rfl, hbs, c0, hu⟩ := HC.out k hlt
      have d0 := (hb.cell (p := ⟨b, off + k, none⟩) hbs).trans c0
      have HU := Lib.hid (hu.below hb); clear hu
      clear c0
      have HB := Lib.hid hb; clear hb
      go_wp2_with fail
      refine (HP.out _ u _ HB.out HU.out).mono ?_
      rintro e w1 ⟨rfl, hb1⟩
      cases hpx : p (l.getD k [])
      · have hpe : (l.take (k + 1)).any p = false := by rw [Hg p l [] k hlt, HA.out, hpx]; rfl
        have HPE := Lib.hid hpe; clear hpe
        go_wp2
        go_roundw
        case rel => exact ⟨k + 1, by omega, by go_num, HPE.out, HB.out.trans (hb1.mono HB.out.size)⟩
        case measure => simp [intOf]; omega
      · have hpe := PK p l [] k hlt HA.out hpx
        have HPE := Lib.hid hpe; clear hpe
        go_wp2
        go_ret
        exact ⟨Kc HPE.out.symm, HB.out.trans (hb1.mono HB.out.size)⟩
    · have HB := Lib.hid hb; clear hb
      go_wp2
      go_ret
      exact ⟨Kc (K1 p l (by have := HA.out; rwa [List.take_of_length_le (by omega)] at this)).symm, HB.out⟩
theorem On (g:Nat) (caps:Array Value) (p:List V2->Bool) (l:List (List V2)) (v:Value) (w:World) (hv:VecSSAt w v l) (hp:PredVS g caps p w) :
  Calls Tryz.prog 77 #[v,.func (.func g) #[] caps] w λ e w'=>e=.returned (.bool (l.any p))/\Below w.heap.size w w':=by
 rw [← My]
 have HV:=Lib.hid hv;clear hv
 have HP:=Lib.hid hp;clear hp
 go_enter Tryz.func77,Tryz.ntmps77
 go_wp2_with fail
 refine (VL g caps p l _ _ HV.out HP.out).mono ?_
 rintro e w1 ⟨rfl,hb1⟩
 have HB:=Lib.hid hb1;clear hb1
 go_wp2
 go_ret
 exact ⟨rfl,HB.out⟩
theorem Mv (W:World):PredVS 78 #[] (λ l=>!shape 200 l) W where
 enter:=λ args w=>by kernel_rfl
 calls:=λ l v w _ hv=>by
  show Calls Tryz.prog 78 #[v] w _
  have HV:=Lib.hid hv;clear hv
  go_enter Tryz.func78,Tryz.ntmps78
  go_wp2_with fail
  refine (Nq 200 (by omega) (by omega) l _ _ HV.out).mono ?_
  rintro e w1 ⟨rfl,hb1⟩
  have HB:=Lib.hid hb1;clear hb1
  go_wp2
  go_ret
  exact ⟨rfl,HB.out⟩
theorem QR {w:World} {b:Nat} {x y u v:Int} (hb:b<w.heap.size) (h0:w.cell? ⟨b,0,none⟩=some (.int .i64 x)) (h1:w.cell? ⟨b,1,none⟩=some (.int .i64 y)) (h2:w.cell? ⟨b,2,none⟩=some (.int .i64 u)) (h3:w.cell? ⟨b,3,none⟩=some (.int .i64 v)) :
  VecsAt w (.slice (some ⟨b,0,none⟩) 2 2) [(x,y),(u,v)]:=by
 refine ⟨some ⟨b,0,none⟩,2,rfl,by simp,by decide,by simp [AY],.inr ⟨b,0,rfl,hb,?_⟩⟩
 intro j hj i hi
 simp at hj
 have hj' : j=0∨j=1:=by omega
 have hi' : i=0∨i=1:=by omega
 rcases hj' with rfl|rfl <;> rcases hi' with rfl|rfl <;> simp [AY,h0,h1,h2,h3]
theorem Sa {lx ly hx hy:Int} {r:List V2} {o:List (List V2)} {t:List V2} (h:[(lx,ly),(hx,hy)].all (B0 200)=false):AH ⟨(lx,ly),(hx,hy),r,o,t⟩=false:=by simp only [AH,h];simp
theorem Sb {lx ly hx hy:Int} {r:List V2} {o:List (List V2)} {t:List V2} (h:¬ lx<hx):AH ⟨(lx,ly),(hx,hy),r,o,t⟩=false:=by simp [AH,h]
theorem Sc {lx ly hx hy:Int} {r:List V2} {o:List (List V2)} {t:List V2} (h:¬ ly<hy):AH ⟨(lx,ly),(hx,hy),r,o,t⟩=false:=by simp [AH,h]
theorem Sd {lx ly hx hy:Int} {r:List V2} {o:List (List V2)} {t:List V2} (h:shape 20 r=false):AH ⟨(lx,ly),(hx,hy),r,o,t⟩=false:=by simp [AH,h]
theorem Se {lx ly hx hy:Int} {r:List V2} {o:List (List V2)} {t:List V2} (h:o.all (shape 200)=false):AH ⟨(lx,ly),(hx,hy),r,o,t⟩=false:=by simp only [AH,h];simp
theorem Sf {lx ly hx hy:Int} {r:List V2} {o:List (List V2)} {t:List V2} (h:¬ o.length<=4):AH ⟨(lx,ly),(hx,hy),r,o,t⟩=false:=by simp [AH,h]
theorem Sg {lx ly hx hy:Int} {r:List V2} {o:List (List V2)} {t:List V2} (h:¬ t.length<=3):AH ⟨(lx,ly),(hx,hy),r,o,t⟩=false:=by simp [AH,h]
theorem Si {lx ly hx hy:Int} {r:List V2} {o:List (List V2)} {t:List V2} (h1:[(lx,ly),(hx,hy)].all (B0 200)=true) (h2:lx<hx) (h3:ly<hy) (h4:shape 20 r=true) (h5:o.all (shape 200)=true) (h6:o.length<=4) (h7:t.length<=3) :
  AH ⟨(lx,ly),(hx,hy),r,o,t⟩=t.all (B0 200):=by simp only [AH,h1,h2,h3,h4,h5,h6,h7];simp
set_option maxHeartbeats 1000000 in
theorem D6 (s : Scn) (v : Value) (w : World) (hv : SceneAt w v s) :
    Calls Tryz.prog 37 #[v] w fun e w' => e = .returned (.bool (AH s)) ∧ Below w.heap.size w w' := by
  obtain ⟨⟨lx, ly⟩, ⟨hx, hy⟩, rob, obs, tabs⟩ := s
  obtain ⟨r, o, t, rfl, hr, ho, ht⟩ := hv
  simp only at hr ho ht
  have HR := Lib.hid hr
  have HO := Lib.hid ho
  have HT := Lib.hid ht
  obtain ⟨ra, rcap, rfl, _, _, _⟩ := hr.open
  obtain ⟨oa, ocap, rfl, _, olen, _⟩ := ho.open
  obtain ⟨ta, tcap, rfl, _, tlen, _⟩ := ht.open
  clear hr ho ht
  have olen' : obs.length ≤ 9223372036854775807 := by omega
  have tlen' : tabs.length ≤ 9223372036854775807 := by omega
  go_enter Tryz.func37, Tryz.ntmps37
  go_wp2_with fail
  refine (Ol 200 (by omega) (by omega) [(lx, ly), (hx, hy)] _ _ (QR (by simp) (by go_simp) (by go_simp) (by go_simp) (by go_simp))).mono ?_
  rintro e w1 ⟨rfl, h1⟩
  have B1 : Below w.heap.size w w1 := Below.trans (by (repeat (first | with_reducible exact Below.refl _ _ | with_reducible assumption | with_reducible refine Below.drew ?_ | with_reducible refine Below.setCell ?_ ?_ _ | with_reducible refine Below.alloc ?_ ?_ _)); all_goals first | (simp; done) | (simp; omega) | omega) (h1.mono (by first | (simp; done) | (simp; omega) | omega))
  have S1 := h1.size
  have T1 := B1.size
  try simp at S1
  obtain ⟨k1, f1⟩ := EJ h1
  try simp at k1
  try simp at f1
  have Hc1 := Lib.hid h1
  clear h1
  have u1_0 : w.heap.size < w1.heap.size := by omega
  have u1_1 : w.heap.size + 1 < w1.heap.size := by omega
  cases hA : [(lx, ly), (hx, hy)].all (B0 200)
  · go_wp2
    go_ret
    exact ⟨Bf (Sa hA).symm, (by (repeat (first | with_reducible exact Below.refl _ _ | with_reducible assumption | with_reducible refine Below.drew ?_ | with_reducible refine Below.setCell ?_ ?_ _ | with_reducible refine Below.alloc ?_ ?_ _)); all_goals first | (simp; done) | (simp; omega) | omega)⟩
  have HAL := Lib.hid hA
  by_cases h2 : lx < hx
  case neg =>
    go_wp2
    go_ret
    exact ⟨Bf (Sb (by omega)).symm, (by (repeat (first | with_reducible exact Below.refl _ _ | with_reducible assumption | with_reducible refine Below.drew ?_ | with_reducible refine Below.setCell ?_ ?_ _ | with_reducible refine Below.alloc ?_ ?_ _)); all_goals first | (simp; done) | (simp; omega) | omega)⟩
  by_cases h3 : ly < hy
  case neg =>
    go_wp2
    go_ret
    exact ⟨Bf (Sc (by omega)).symm, (by (repeat (first | with_reducible exact Below.refl _ _ | with_reducible assumption | with_reducible refine Below.drew ?_ | with_reducible refine Below.setCell ?_ ?_ _ | with_reducible refine Below.alloc ?_ ?_ _)); all_goals first | (simp; done) | (simp; omega) | omega)⟩
  go_wp2_with fail
  refine (Nq 20 (by omega) (by omega) rob _ _ (HR.out.below B1)).mono ?_
  rintro e w2 ⟨rfl, h2⟩
  have B2 : Below w.heap.size w w2 := Below.trans (by (repeat (first | with_reducible exact Below.refl _ _ | with_reducible assumption | with_reducible refine Below.drew ?_ | with_reducible refine Below.setCell ?_ ?_ _ | with_reducible refine Below.alloc ?_ ?_ _)); all_goals first | (simp; done) | (simp; omega) | omega) (h2.mono (by first | (simp; done) | (simp; omega) | omega))
  have S2 := h2.size
  have T2 := B2.size
  try simp at S2
  obtain ⟨k2, f2⟩ := EJ h2
  try simp at k2
  try simp at f2
  have Hc2 := Lib.hid h2
  clear h2
  have u2_0 : w.heap.size < w2.heap.size := by omega
  have u2_1 : w.heap.size + 1 < w2.heap.size := by omega
  cases h4 : shape 20 rob
  · go_wp2
    go_ret
    exact ⟨Bf (Sd h4).symm, (by (repeat (first | with_reducible exact Below.refl _ _ | with_reducible assumption | with_reducible refine Below.drew ?_ | with_reducible refine Below.setCell ?_ ?_ _ | with_reducible refine Below.alloc ?_ ?_ _)); all_goals first | (simp; done) | (simp; omega) | omega)⟩
  have H4 := Lib.hid h4
  by_cases h6 : obs.length ≤ 4
  case neg =>
    go_wp2
    go_ret
    exact ⟨Bf (Sf (by omega)).symm, (by (repeat (first | with_reducible exact Below.refl _ _ | with_reducible assumption | with_reducible refine Below.drew ?_ | with_reducible refine Below.setCell ?_ ?_ _ | with_reducible refine Below.alloc ?_ ?_ _)); all_goals first | (simp; done) | (simp; omega) | omega)⟩
  go_wp2_with fail
  refine (On _ #[] _ obs _ _ (HO.out.below B2) (Mv _)).mono ?_
  rintro e w3 ⟨rfl, h3⟩
  have B3 : Below w.heap.size w w3 := Below.trans (by (repeat (first | with_reducible exact Below.refl _ _ | with_reducible assumption | with_reducible refine Below.drew ?_ | with_reducible refine Below.setCell ?_ ?_ _ | with_reducible refine Below.alloc ?_ ?_ _)); all_goals first | (simp; done) | (simp; omega) | omega) (h3.mono (by first | (simp; done) | (simp; omega) | omega))
  have S3 := h3.size
  have T3 := B3.size
  try simp at S3
  obtain ⟨k3, f3⟩ := EJ h3
  try simp at k3
  try simp at f3
  have Hc3 := Lib.hid h3
  clear h3
  have u3_0 : w.heap.size < w3.heap.size := by omega
  have u3_1 : w.heap.size + 1 < w3.heap.size := by omega
  have e5 : (obs.any fun l => !shape 200 l) = !(obs.all (shape 200)) := by simp [List.not_all_eq_any_not]
  rw [e5]; clear e5
  cases h5 : obs.all (shape 200)
  · go_wp2
    go_ret
    exact ⟨Bf (Se h5).symm, (by (repeat (first | with_reducible exact Below.refl _ _ | with_reducible assumption | with_reducible refine Below.drew ?_ | with_reducible refine Below.setCell ?_ ?_ _ | with_reducible refine Below.alloc ?_ ?_ _)); all_goals first | (simp; done) | (simp; omega) | omega)⟩
  have H5 := Lib.hid h5
  by_cases h7 : tabs.length ≤ 3
  case neg =>
    go_wp2
    go_ret
    exact ⟨Bf (Sg (by omega)).symm, (by (repeat (first | with_reducible exact Below.refl _ _ | with_reducible assumption | with_reducible refine Below.drew ?_ | with_reducible refine Below.setCell ?_ ?_ _ | with_reducible refine Below.alloc ?_ ?_ _)); all_goals first | (simp; done) | (simp; omega) | omega)⟩
  go_wp2_with fail
  refine (Ol 200 (by omega) (by omega) tabs _ _ (HT.out.below B3)).mono ?_
  rintro e w4 ⟨rfl, h4⟩
  have B4 : Below w.heap.size w w4 := Below.trans (by (repeat (first | with_reducible exact Below.refl _ _ | with_reducible assumption | with_reducible refine Below.drew ?_ | with_reducible refine Below.setCell ?_ ?_ _ | with_reducible refine Below.alloc ?_ ?_ _)); all_goals first | (simp; done) | (simp; omega) | omega) (h4.mono (by first | (simp; done) | (simp; omega) | omega))
  have S4 := h4.size
  have T4 := B4.size
  try simp at S4
  obtain ⟨k4, f4⟩ := EJ h4
  try simp at k4
  try simp at f4
  have Hc4 := Lib.hid h4
  clear h4
  have u4_0 : w.heap.size < w4.heap.size := by omega
  have u4_1 : w.heap.size + 1 < w4.heap.size := by omega
  go_wp2
  go_ret
  exact ⟨Bf (Si HAL.out (by omega) (by omega) H4.out H5.out (by omega) (by omega)).symm, (by (repeat (first | with_reducible exact Below.refl _ _ | with_reducible assumption | with_reducible refine Below.drew ?_ | with_reducible refine Below.setCell ?_ ?_ _ | with_reducible refine Below.alloc ?_ ?_ _)); all_goals first | (simp; done) | (simp; omega) | omega)⟩
end Go.Proofs.YtkffpiaagjcmpaaGreat
namespace Go.Proofs.YtkffpiaagjcmpaaGreat
set_option maxRecDepth 100000
set_option linter.unusedVariables false
set_option linter.unusedSimpArgs false
open Go.RowKit
theorem QS (n:Int) (w:World):Calls Tryz.prog 38 #[.int .i64 n] w λ e w'=>e=.returned (.bool (inR n 0 3))/\w=w':=by
 go_enter Tryz.func38,Tryz.ntmps38
 go_wp2_with (go_at_call 40;refine (E6 _ _ _ _).mono ?_;rintro e w' ⟨rfl,rfl⟩)
 go_ret
 exact ⟨rfl,rfl⟩
end Go.Proofs.YtkffpiaagjcmpaaGreat
