import Derived.Test.YtkffpiaagjcmpaaGreatEvRkB
import Derived.Test.YtkffpiaagjcmpaaGreatEvExE
namespace Go.Proofs.YtkffpiaagjcmpaaGreat
set_option maxRecDepth 100000
set_option linter.unusedVariables false
set_option linter.unusedSimpArgs false
open Go.RowKit
def nxH (h:Int):Int:=IntKind.i64.wrap (IntKind.i64.wrap (h*6364136223846793005)+1442695040888963407)
def ABo (h:Int):Int:=NM .i64 (ZH .i64 (U6 .i64 h 33) (U6 .i64 h 45)) 255
structure Cur where
 i:Int
 h:Int
def byV (b:List UInt8) (c:Cur):Int:=if c.i<(b.length:Int) then NM .i64 (IntKind.i64.wrap (ABo (nxH c.h)+IntKind.i64.wrap (((b.getD c.i.toNat 0).toNat:Nat):Int))) 255 else ABo (nxH c.h)
def byC (b:List UInt8) (c:Cur):Cur:=⟨if c.i<(b.length:Int) then IntKind.i64.wrap (c.i+1) else c.i,nxH c.h⟩
theorem RV (x:Int):0<=NM .i64 x 255/\NM .i64 x 255<=255:=by
 have h:(BitVec.ofInt 64 x &&& BitVec.ofInt 64 255).toNat<=255:=by
  rw [BitVec.toNat_and]
  exact Nat.le_trans Nat.and_le_right (by decide)
 show 0<=IntKind.i64.wrap (((BitVec.ofInt 64 x &&& BitVec.ofInt 64 255).toNat:Nat):Int)/\IntKind.i64.wrap (((BitVec.ofInt 64 x &&& BitVec.ofInt 64 255).toNat:Nat):Int)<=255
 rw [AC (by omega) (by omega)]
 omega
theorem Co (b:List UInt8) (c:Cur):0<=byV b c/\byV b c<=255:=by
 unfold byV ABo
 split
 ·exact RV _
 ·exact RV _
def Am (b:List UInt8) (c:Cur):Prop:=b.length<=1048576/\0<=c.i/\c.i<=(b.length:Int)
theorem GB {b:List UInt8} {c:Cur} (h:Am b c):Am b (byC b c):=by
 unfold Am at *
 unfold byC
 simp only
 split
 ·rw [AC (by omega) (by omega)];omega
 ·exact h
def blV (b:List UInt8) (c:Cur) (n:Int):Int:=
 if n<=0 then 0 else if n<=256 then Int.tmod (byV b c) n else
  Int.tmod (byV b c*16777216+byV b (byC b c)*65536+byV b (byC b (byC b c))*256+byV b (byC b (byC b (byC b c)))) n
def blC (b:List UInt8) (c:Cur) (n:Int):Cur:=
 if n<=0 then c else if n<=256 then byC b c else byC b (byC b (byC b (byC b c)))
theorem A2 {b:List UInt8} {c:Cur} (n:Int) (h:Am b c):Am b (blC b c n):=by
 unfold blC
 split
 ·exact h
 ·split
  ·exact GB h
  ·exact GB (GB (GB (GB h)))
theorem A4 (b:List UInt8) (c:Cur) {n:Int} (h:0<n):0<=blV b c n/\blV b c n<n:=by
 have q1:=(Co b c).1
 have q2:=(Co b (byC b c)).1
 have q3:=(Co b (byC b (byC b c))).1
 have q4:=(Co b (byC b (byC b (byC b c)))).1
 unfold blV
 rw [if_neg (by omega)]
 split
 ·exact ⟨Int.tmod_nonneg _ q1,Int.tmod_lt_of_pos _ h⟩
 ·exact ⟨Int.tmod_nonneg _ (by omega),Int.tmod_lt_of_pos _ h⟩
def Dn:(List UInt8)×Cur->List PC:=λ i=>[.bt i.1,.im (.int .i64 i.2.i),.im (.int .i64 i.2.h)]
def Ug:(List UInt8)×Cur->List PC:=λ i=>[.bt i.1,.im (.int .i64 ((byC i.1 i.2).i)),.im (.int .i64 ((byC i.1 i.2).h))]
def A9:Con:={ ι:=(List UInt8)×Cur,pre:=λ i=>Am i.1 i.2,args:=λ i=>[],ptr:=some (Dn,Ug),res:=λ i=>⟨false,[none],[rcI (byV i.1 i.2)]⟩ }
theorem Pa:A9.OkP Tryz.prog 33 Dn Ug:=by
 refine YN (X:=⟨tt,[],[4000000],58,[]⟩) mixed AQ (CTok.nil _) Tryz.func33 (λ _=>[]) ?_
 rintro ⟨b,c⟩ hpre
 have hpre:Am b c:=hpre
 refine AP (q:=let Z1:=wR ((wR (c.h*(6364136223846793005:Int)))+(1442695040888963407:Int));let Z3:=vI Z1=vI ((byC b c).h);let Z2:=NM .i64 (ZH .i64 (U6 .i64 Z1 (33:Int)) (U6 .i64 Z1 (45:Int))) (255:Int);(0<=(33:Int))/\((0<=(45:Int))/\(ifB ((decide (c.i<(nI b.length)))) ((0<=c.i/\c.i<(b.length:Int))/\(((c.i).toNat<b.length)/\((vI (NM .i64 (wR (Z2+(wR (nI ((b.getD ((c.i).toNat) 0).toNat))))) (255:Int))=vI (byV b c))/\(vI (wR (c.i+(1:Int)))=vI ((byC b c).i))/\Z3))) ((vI Z2=vI (byV b c))/\(vI c.i=vI ((byC b c).i))/\Z3)))) (by kernel_rfl) ?_
 conv=>zeta
 delta ifB vI wR nI
 obtain ⟨hp1,hp2,hp3⟩:=hpre
 refine ao (by first|rfl|omega|(simp;done)|(simp;omega)) λ o1=>?_
 refine ao (by first|rfl|omega|(simp;done)|(simp;omega)) λ o2=>?_
 refine And.symm ⟨λ c3=>?_,λ c3=>?_⟩
 ·try simp only [nrm] at c3
  refine ⟨?_,?_,?_⟩
  ·first|rfl|(unfold byV;rw [if_neg (by omega)];rfl)|(unfold byV;rw [if_pos (by omega)];rfl)|(unfold byC;rw [if_neg (by omega)])|(unfold byC;rw [if_pos (by omega)])
  ·first|rfl|(unfold byV;rw [if_neg (by omega)];rfl)|(unfold byV;rw [if_pos (by omega)];rfl)|(unfold byC;rw [if_neg (by omega)])|(unfold byC;rw [if_pos (by omega)])
  first|rfl|(unfold byV;rw [if_neg (by omega)];rfl)|(unfold byV;rw [if_pos (by omega)];rfl)|(unfold byC;rw [if_neg (by omega)])|(unfold byC;rw [if_pos (by omega)])
 try simp only [nrm] at c3
 refine ao (by first|rfl|omega|(simp;done)|(simp;omega)) λ o4=>?_
 refine ao (by first|rfl|omega|(simp;done)|(simp;omega)) λ o5=>?_
 refine ⟨?_,?_,?_⟩
 ·first|rfl|(unfold byV;rw [if_neg (by omega)];rfl)|(unfold byV;rw [if_pos (by omega)];rfl)|(unfold byC;rw [if_neg (by omega)])|(unfold byC;rw [if_pos (by omega)])
 ·first|rfl|(unfold byV;rw [if_neg (by omega)];rfl)|(unfold byV;rw [if_pos (by omega)];rfl)|(unfold byC;rw [if_neg (by omega)])|(unfold byC;rw [if_pos (by omega)])
 first|rfl|(unfold byV;rw [if_neg (by omega)];rfl)|(unfold byV;rw [if_pos (by omega)];rfl)|(unfold byC;rw [if_neg (by omega)])|(unfold byC;rw [if_pos (by omega)])
def BN:(List UInt8)×Cur×Int->List PC:=λ i=>[.bt i.1,.im (.int .i64 i.2.1.i),.im (.int .i64 i.2.1.h)]
def RW:(List UInt8)×Cur×Int->List PC:=λ i=>[.bt i.1,.im (.int .i64 ((blC i.1 i.2.1 i.2.2).i)),.im (.int .i64 ((blC i.1 i.2.1 i.2.2).h))]
def AT:Con:={ ι:=(List UInt8)×Cur×Int,pre:=λ i=>Am i.1 i.2.1,args:=λ i=>[.one (cI i.2.2)],ptr:=some (BN,RW),res:=λ i=>⟨false,[none],[rcI (blV i.1 i.2.1 i.2.2)]⟩ }
theorem Mr:AT.OkP Tryz.prog 69 BN RW:=by
 refine YN (X:=⟨tt,[(33,A9)],[4000000],37,[]⟩) mixed AQ (CTok.consP Pa (CTok.nil _)) Tryz.func69 (λ _=>[]) ?_
 rintro ⟨b,c,n⟩ hpre
 have hpre:Am b c:=hpre
 refine AP (q:=let Z2:=List UInt8;let Z1:=blC b c n;ifB ((decide (n<=(0:Int)))) ((vI (0:Int)=vI (blV b c n))/\(vI c.i=vI (Z1.i))/\(vI c.h=vI (Z1.h))) (ifB ((decide (n<=(256:Int)))) (∃ i1:Z2×Cur,[]=A9.args i1/\[PC.bt b,PC.im (vI c.i),PC.im (vI c.h)]=Dn i1/\A9.pre i1/\((n≠0)/\((vI (Int.tmod (byV i1.1 i1.2) n)=vI (blV b c n))/\(vI ((byC i1.1 i1.2).i)=vI (Z1.i))/\(vI ((byC i1.1 i1.2).h)=vI (Z1.h))))) (∃ i2:Z2×Cur,[]=A9.args i2/\[PC.bt b,PC.im (vI c.i),PC.im (vI c.h)]=Dn i2/\A9.pre i2/\(∃ i3:Z2×Cur,[]=A9.args i3/\[PC.bt b,PC.im (vI ((byC i2.1 i2.2).i)),PC.im (vI ((byC i2.1 i2.2).h))]=Dn i3/\A9.pre i3/\(∃ i4:Z2×Cur,[]=A9.args i4/\[PC.bt b,PC.im (vI ((byC i3.1 i3.2).i)),PC.im (vI ((byC i3.1 i3.2).h))]=Dn i4/\A9.pre i4/\(∃ i5:Z2×Cur,[]=A9.args i5/\[PC.bt b,PC.im (vI ((byC i4.1 i4.2).i)),PC.im (vI ((byC i4.1 i4.2).h))]=Dn i5/\A9.pre i5/\((n≠0)/\((vI (Int.tmod (wR ((wR ((wR ((wR ((byV i2.1 i2.2)*(16777216:Int)))+(wR ((byV i3.1 i3.2)*(65536:Int)))))+(wR ((byV i4.1 i4.2)*(256:Int)))))+(byV i5.1 i5.2))) n)=vI (blV b c n))/\(vI ((byC i5.1 i5.2).i)=vI (Z1.i))/\(vI ((byC i5.1 i5.2).h)=vI (Z1.h)))))))))) (by kernel_rfl) ?_
 conv=>zeta
 delta ifB vI wR
 have k1:=GB hpre
 have k2:=GB k1
 have k3:=GB k2
 have q1:=Co b c
 have q2:=Co b (byC b c)
 have q3:=Co b (byC b (byC b c))
 have q4:=Co b (byC b (byC b (byC b c)))
 refine ⟨λ c1=>?_,λ c1=>?_⟩
 ·try simp only [nrm] at c1
  have hV:blV b c n=0:=if_pos c1
  have hC:blC b c n=c:=if_pos c1
  refine ⟨?_,?_,?_⟩
  ·first|(rw [hV];done)|(rw [hC];done)
  ·first|(rw [hV];done)|(rw [hC];done)
  first|(rw [hV];done)|(rw [hC];done)
 try simp only [nrm] at c1
 refine ⟨λ c5=>?_,λ c5=>?_⟩
 ·try simp only [nrm] at c5
  have hV:blV b c n=Int.tmod (byV b c) n:=(if_neg (by omega)).trans (if_pos c5)
  have hC:blC b c n=byC b c:=(if_neg (by omega)).trans (if_pos c5)
  refine ⟨(b,c),by
   rfl,rfl,by
   show Am b c
   first|exact hpre|exact k1|exact k2|exact k3,?_⟩
  refine ao (by first|rfl|omega|(simp;done)|(simp;omega)) λ o9=>?_
  refine ⟨?_,?_,?_⟩
  ·show Value.int .i64 (Int.tmod (byV b c) n)=Value.int .i64 (blV b c n)
   first|(rw [hV];done)|(rw [hC];done)
  ·show Value.int .i64 ((byC b c).i)=Value.int .i64 ((blC b c n).i)
   first|(rw [hV];done)|(rw [hC];done)
  show Value.int .i64 ((byC b c).h)=Value.int .i64 ((blC b c n).h)
  first|(rw [hV];done)|(rw [hC];done)
 try simp only [nrm] at c5
 have hC:blC b c n=byC b (byC b (byC b (byC b c))):=(if_neg (by omega)).trans (if_neg (by omega))
 have hw:IntKind.i64.wrap (IntKind.i64.wrap (IntKind.i64.wrap (IntKind.i64.wrap (byV b c*16777216)+IntKind.i64.wrap (byV b (byC b c)*65536))+IntKind.i64.wrap (byV b (byC b (byC b c))*256))+byV b (byC b (byC b (byC b c))))=byV b c*16777216+byV b (byC b c)*65536+byV b (byC b (byC b c))*256+byV b (byC b (byC b (byC b c))):=by
  rw [AC (x:=byV b c*16777216) (by omega) (by omega),AC (x:=byV b (byC b c)*65536) (by omega) (by omega),AC (x:=byV b (byC b (byC b c))*256) (by omega) (by omega)]
  rw [AC (x:=byV b c*16777216+byV b (byC b c)*65536) (by omega) (by omega),AC (x:=byV b c*16777216+byV b (byC b c)*65536+byV b (byC b (byC b c))*256) (by omega) (by omega),AC (by omega) (by omega)]
 have hV:Int.tmod (IntKind.i64.wrap (IntKind.i64.wrap (IntKind.i64.wrap (IntKind.i64.wrap (byV b c*16777216)+IntKind.i64.wrap (byV b (byC b c)*65536))+IntKind.i64.wrap (byV b (byC b (byC b c))*256))+byV b (byC b (byC b (byC b c))))) n=blV b c n:=by
  rw [hw];exact ((if_neg (by omega)).trans (if_neg (by omega))).symm
 refine ⟨(b,c),by
  rfl,rfl,by
  show Am b c
  first|exact hpre|exact k1|exact k2|exact k3,?_⟩
 refine ⟨(b,(byC b c)),by
  rfl,rfl,by
  show Am b (byC b c)
  first|exact hpre|exact k1|exact k2|exact k3,?_⟩
 refine ⟨(b,(byC b (byC b c))),by
  rfl,rfl,by
  show Am b (byC b (byC b c))
  first|exact hpre|exact k1|exact k2|exact k3,?_⟩
 refine ⟨(b,(byC b (byC b (byC b c)))),by
  rfl,rfl,by
  show Am b (byC b (byC b (byC b c)))
  first|exact hpre|exact k1|exact k2|exact k3,?_⟩
 refine ao (by first|rfl|omega|(simp;done)|(simp;omega)) λ o25=>?_
 refine ⟨?_,?_,?_⟩
 ·show Value.int .i64 (Int.tmod (IntKind.i64.wrap ((IntKind.i64.wrap ((IntKind.i64.wrap ((IntKind.i64.wrap ((byV b c)*(16777216:Int)))+(IntKind.i64.wrap ((byV b (byC b c))*(65536:Int)))))+(IntKind.i64.wrap ((byV b (byC b (byC b c)))*(256:Int)))))+(byV b (byC b (byC b (byC b c)))))) n)=Value.int .i64 (blV b c n)
  first|(rw [hV];done)|(rw [hC];done)
 ·show Value.int .i64 ((byC b (byC b (byC b (byC b c)))).i)=Value.int .i64 ((blC b c n).i)
  first|(rw [hV];done)|(rw [hC];done)
 show Value.int .i64 ((byC b (byC b (byC b (byC b c)))).h)=Value.int .i64 ((blC b c n).h)
 first|(rw [hV];done)|(rw [hC];done)
end Go.Proofs.YtkffpiaagjcmpaaGreat
