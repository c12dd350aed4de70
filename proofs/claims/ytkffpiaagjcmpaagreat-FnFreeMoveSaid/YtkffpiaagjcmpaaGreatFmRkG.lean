import Derived.Test.YtkffpiaagjcmpaaGreatFmRkB
import Derived.Test.YtkffpiaagjcmpaaGreatFmExE
import Derived.Test.YtkffpiaagjcmpaaGreatFmRkF
namespace Go.Proofs.YtkffpiaagjcmpaaGreat
set_option maxRecDepth 100000
set_option linter.unusedVariables false
set_option linter.unusedSimpArgs false
open Go.RowKit
def nxH (h:Int):Int:=IntKind.i64.wrap (IntKind.i64.wrap (h*6364136223846793005)+1442695040888963407)
def ACp (h:Int):Int:=OM .i64 (AAh .i64 (WO .i64 h 33) (WO .i64 h 45)) 255
structure Cur where
 i:Int
 h:Int
def byV (b:List UInt8) (c:Cur):Int:=if c.i<(b.length:Int) then OM .i64 (IntKind.i64.wrap (ACp (nxH c.h)+IntKind.i64.wrap (((b.getD c.i.toNat 0).toNat:Nat):Int))) 255 else ACp (nxH c.h)
def byC (b:List UInt8) (c:Cur):Cur:=⟨if c.i<(b.length:Int) then IntKind.i64.wrap (c.i+1) else c.i,nxH c.h⟩
theorem Sb (x:Int):0<=OM .i64 x 255/\OM .i64 x 255<=255:=by
 have h:(BitVec.ofInt 64 x &&& BitVec.ofInt 64 255).toNat<=255:=by
  rw [BitVec.toNat_and]
  exact Nat.le_trans Nat.and_le_right (by decide)
 show 0<=IntKind.i64.wrap (((BitVec.ofInt 64 x &&& BitVec.ofInt 64 255).toNat:Nat):Int)/\IntKind.i64.wrap (((BitVec.ofInt 64 x &&& BitVec.ofInt 64 255).toNat:Nat):Int)<=255
 rw [AB (by omega) (by omega)]
 omega
theorem DR (b:List UInt8) (c:Cur):0<=byV b c/\byV b c<=255:=by
 unfold byV ACp
 split
 ·exact Sb _
 ·exact Sb _
def Aj (b:List UInt8) (c:Cur):Prop:=b.length<=1048576/\0<=c.i/\c.i<=(b.length:Int)
theorem G5 {b:List UInt8} {c:Cur} (h:Aj b c):Aj b (byC b c):=by
 unfold Aj at *
 unfold byC
 simp only
 split
 ·rw [AB (by omega) (by omega)];omega
 ·exact h
def blV (b:List UInt8) (c:Cur) (n:Int):Int:=
 if n<=0 then 0 else if n<=256 then Int.tmod (byV b c) n else
  Int.tmod (byV b c*16777216+byV b (byC b c)*65536+byV b (byC b (byC b c))*256+byV b (byC b (byC b (byC b c)))) n
def blC (b:List UInt8) (c:Cur) (n:Int):Cur:=
 if n<=0 then c else if n<=256 then byC b c else byC b (byC b (byC b (byC b c)))
theorem A4 {b:List UInt8} {c:Cur} (n:Int) (h:Aj b c):Aj b (blC b c n):=by
 unfold blC
 split
 ·exact h
 ·split
  ·exact G5 h
  ·exact G5 (G5 (G5 (G5 h)))
theorem BG (b:List UInt8) (c:Cur) {n:Int} (h:0<n):0<=blV b c n/\blV b c n<n:=by
 have q1:=(DR b c).1
 have q2:=(DR b (byC b c)).1
 have q3:=(DR b (byC b (byC b c))).1
 have q4:=(DR b (byC b (byC b (byC b c)))).1
 unfold blV
 rw [if_neg (by omega)]
 split
 ·exact ⟨Int.tmod_nonneg _ q1,Int.tmod_lt_of_pos _ h⟩
 ·exact ⟨Int.tmod_nonneg _ (by omega),Int.tmod_lt_of_pos _ h⟩
def EM:(List UInt8)×Cur->List PC:=λ i=>[.bt i.1,.im (.int .i64 i.2.i),.im (.int .i64 i.2.h)]
def Vy:(List UInt8)×Cur->List PC:=λ i=>[.bt i.1,.im (.int .i64 ((byC i.1 i.2).i)),.im (.int .i64 ((byC i.1 i.2).h))]
def BK:Con:={ ι:=(List UInt8)×Cur,pre:=λ i=>Aj i.1 i.2,args:=λ i=>[],ptr:=some (EM,Vy),res:=λ i=>⟨false,[none],[rcI (byV i.1 i.2)]⟩ }
theorem Qh:BK.OkP Tryz.prog 33 EM Vy:=by
 refine XL (X:=⟨tt,[],[4000000],58,[]⟩) mixed AI (CTok.nil _) Tryz.func33 (λ _=>[]) ?_
 rintro ⟨b,c⟩ hpre
 have hpre:Aj b c:=hpre
 refine AH (q:=let Z1:=wR ((wR (c.h*(6364136223846793005:Int)))+(1442695040888963407:Int));let Z3:=vI Z1=vI ((byC b c).h);let Z2:=OM .i64 (AAh .i64 (WO .i64 Z1 (33:Int)) (WO .i64 Z1 (45:Int))) (255:Int);(0<=(33:Int))/\((0<=(45:Int))/\(ifB ((decide (c.i<(nI b.length)))) ((0<=c.i/\c.i<(b.length:Int))/\(((c.i).toNat<b.length)/\((vI (OM .i64 (wR (Z2+(wR (nI ((b.getD ((c.i).toNat) 0).toNat))))) (255:Int))=vI (byV b c))/\(vI (wR (c.i+(1:Int)))=vI ((byC b c).i))/\Z3))) ((vI Z2=vI (byV b c))/\(vI c.i=vI ((byC b c).i))/\Z3)))) (by kernel_rfl) ?_
 conv=>zeta
 delta ifB vI wR nI
 obtain ⟨hp1,hp2,hp3⟩:=hpre
 refine ao (by first|rfl|omega|(simp;done)|(simp;omega)) λ o1=>?_
 refine ao (by first|rfl|omega|(simp;done)|(simp;omega)) λ o2=>?_
 refine And.symm ⟨λ c3=>?_,λ c3=>?_⟩
 ·try simp only [nrm] at c3
  refine ⟨?_,?_,?_⟩
  ·first|rfl|(unfold byV;rw [if_neg (by omega)];rfl)|(unfold byV;rw [if_pos (by omega)];rfl)|(unfold byC;rw [if_neg (by omega)])|(unfold byC;rw [if_pos (by omega)])
  ·first|rfl|(unfold byV;rw [if_neg (by omega)];rfl)|(unfold byV;rw [if_pos (by omega)];rfl)|(unfold byC;rw [if_neg (by omega)])|(unfold byC;rw [if_pos (by omega)])
  first|rfl|(unfold byV;rw [if_neg (by omega)];rfl)|(unfold byV;rw [if_pos (by omega)];rfl)|(unfold byC;rw [if_neg (by omega)])|(unfold byC;rw [if_pos (by omega)])
 try simp only [nrm] at c3
 refine ao (by first|rfl|omega|(simp;done)|(simp;omega)) λ o4=>?_
 refine ao (by first|rfl|omega|(simp;done)|(simp;omega)) λ o5=>?_
 refine ⟨?_,?_,?_⟩
 ·first|rfl|(unfold byV;rw [if_neg (by omega)];rfl)|(unfold byV;rw [if_pos (by omega)];rfl)|(unfold byC;rw [if_neg (by omega)])|(unfold byC;rw [if_pos (by omega)])
 ·first|rfl|(unfold byV;rw [if_neg (by omega)];rfl)|(unfold byV;rw [if_pos (by omega)];rfl)|(unfold byC;rw [if_neg (by omega)])|(unfold byC;rw [if_pos (by omega)])
 first|rfl|(unfold byV;rw [if_neg (by omega)];rfl)|(unfold byV;rw [if_pos (by omega)];rfl)|(unfold byC;rw [if_neg (by omega)])|(unfold byC;rw [if_pos (by omega)])
def BL:(List UInt8)×Cur×Int->List PC:=λ i=>[.bt i.1,.im (.int .i64 i.2.1.i),.im (.int .i64 i.2.1.h)]
def Sc:(List UInt8)×Cur×Int->List PC:=λ i=>[.bt i.1,.im (.int .i64 ((blC i.1 i.2.1 i.2.2).i)),.im (.int .i64 ((blC i.1 i.2.1 i.2.2).h))]
def AR:Con:={ ι:=(List UInt8)×Cur×Int,pre:=λ i=>Aj i.1 i.2.1,args:=λ i=>[.one (cI i.2.2)],ptr:=some (BL,Sc),res:=λ i=>⟨false,[none],[rcI (blV i.1 i.2.1 i.2.2)]⟩ }
theorem J8:AR.OkP Tryz.prog 69 BL Sc:=by
 refine XL (X:=⟨tt,[(33,BK)],[4000000],37,[]⟩) mixed AI (CTok.consP Qh (CTok.nil _)) Tryz.func69 (λ _=>[]) ?_
 rintro ⟨b,c,n⟩ hpre
 have hpre:Aj b c:=hpre
 refine AH (q:=let Z2:=List UInt8;let Z1:=blC b c n;ifB ((decide (n<=(0:Int)))) ((vI (0:Int)=vI (blV b c n))/\(vI c.i=vI (Z1.i))/\(vI c.h=vI (Z1.h))) (ifB ((decide (n<=(256:Int)))) (∃ i1:Z2×Cur,[]=BK.args i1/\[PC.bt b,PC.im (vI c.i),PC.im (vI c.h)]=EM i1/\BK.pre i1/\((n≠0)/\((vI (Int.tmod (byV i1.1 i1.2) n)=vI (blV b c n))/\(vI ((byC i1.1 i1.2).i)=vI (Z1.i))/\(vI ((byC i1.1 i1.2).h)=vI (Z1.h))))) (∃ i2:Z2×Cur,[]=BK.args i2/\[PC.bt b,PC.im (vI c.i),PC.im (vI c.h)]=EM i2/\BK.pre i2/\(∃ i3:Z2×Cur,[]=BK.args i3/\[PC.bt b,PC.im (vI ((byC i2.1 i2.2).i)),PC.im (vI ((byC i2.1 i2.2).h))]=EM i3/\BK.pre i3/\(∃ i4:Z2×Cur,[]=BK.args i4/\[PC.bt b,PC.im (vI ((byC i3.1 i3.2).i)),PC.im (vI ((byC i3.1 i3.2).h))]=EM i4/\BK.pre i4/\(∃ i5:Z2×Cur,[]=BK.args i5/\[PC.bt b,PC.im (vI ((byC i4.1 i4.2).i)),PC.im (vI ((byC i4.1 i4.2).h))]=EM i5/\BK.pre i5/\((n≠0)/\((vI (Int.tmod (wR ((wR ((wR ((wR ((byV i2.1 i2.2)*(16777216:Int)))+(wR ((byV i3.1 i3.2)*(65536:Int)))))+(wR ((byV i4.1 i4.2)*(256:Int)))))+(byV i5.1 i5.2))) n)=vI (blV b c n))/\(vI ((byC i5.1 i5.2).i)=vI (Z1.i))/\(vI ((byC i5.1 i5.2).h)=vI (Z1.h)))))))))) (by kernel_rfl) ?_
 conv=>zeta
 delta ifB vI wR
 have k1:=G5 hpre
 have k2:=G5 k1
 have k3:=G5 k2
 have q1:=DR b c
 have q2:=DR b (byC b c)
 have q3:=DR b (byC b (byC b c))
 have q4:=DR b (byC b (byC b (byC b c)))
 refine ⟨λ c1=>?_,λ c1=>?_⟩
 ·try simp only [nrm] at c1
  have hV:blV b c n=0:=if_pos c1
  have hC:blC b c n=c:=if_pos c1
  refine ⟨?_,?_,?_⟩
  ·first|(rw [hV];done)|(rw [hC];done)
  ·first|(rw [hV];done)|(rw [hC];done)
  first|(rw [hV];done)|(rw [hC];done)
 try simp only [nrm] at c1
 refine ⟨λ c5=>?_,λ c5=>?_⟩
 ·try simp only [nrm] at c5
  have hV:blV b c n=Int.tmod (byV b c) n:=(if_neg (by omega)).trans (if_pos c5)
  have hC:blC b c n=byC b c:=(if_neg (by omega)).trans (if_pos c5)
  refine ⟨(b,c),by
   rfl,rfl,by
   show Aj b c
   first|exact hpre|exact k1|exact k2|exact k3,?_⟩
  refine ao (by first|rfl|omega|(simp;done)|(simp;omega)) λ o9=>?_
  refine ⟨?_,?_,?_⟩
  ·show Value.int .i64 (Int.tmod (byV b c) n)=Value.int .i64 (blV b c n)
   first|(rw [hV];done)|(rw [hC];done)
  ·show Value.int .i64 ((byC b c).i)=Value.int .i64 ((blC b c n).i)
   first|(rw [hV];done)|(rw [hC];done)
  show Value.int .i64 ((byC b c).h)=Value.int .i64 ((blC b c n).h)
  first|(rw [hV];done)|(rw [hC];done)
 try simp only [nrm] at c5
 have hC:blC b c n=byC b (byC b (byC b (byC b c))):=(if_neg (by omega)).trans (if_neg (by omega))
 have hw:IntKind.i64.wrap (IntKind.i64.wrap (IntKind.i64.wrap (IntKind.i64.wrap (byV b c*16777216)+IntKind.i64.wrap (byV b (byC b c)*65536))+IntKind.i64.wrap (byV b (byC b (byC b c))*256))+byV b (byC b (byC b (byC b c))))=byV b c*16777216+byV b (byC b c)*65536+byV b (byC b (byC b c))*256+byV b (byC b (byC b (byC b c))):=by
  rw [AB (x:=byV b c*16777216) (by omega) (by omega),AB (x:=byV b (byC b c)*65536) (by omega) (by omega),AB (x:=byV b (byC b (byC b c))*256) (by omega) (by omega)]
  rw [AB (x:=byV b c*16777216+byV b (byC b c)*65536) (by omega) (by omega),AB (x:=byV b c*16777216+byV b (byC b c)*65536+byV b (byC b (byC b c))*256) (by omega) (by omega),AB (by omega) (by omega)]
 have hV:Int.tmod (IntKind.i64.wrap (IntKind.i64.wrap (IntKind.i64.wrap (IntKind.i64.wrap (byV b c*16777216)+IntKind.i64.wrap (byV b (byC b c)*65536))+IntKind.i64.wrap (byV b (byC b (byC b c))*256))+byV b (byC b (byC b (byC b c))))) n=blV b c n:=by
  rw [hw];exact ((if_neg (by omega)).trans (if_neg (by omega))).symm
 refine ⟨(b,c),by
  rfl,rfl,by
  show Aj b c
  first|exact hpre|exact k1|exact k2|exact k3,?_⟩
 refine ⟨(b,(byC b c)),by
  rfl,rfl,by
  show Aj b (byC b c)
  first|exact hpre|exact k1|exact k2|exact k3,?_⟩
 refine ⟨(b,(byC b (byC b c))),by
  rfl,rfl,by
  show Aj b (byC b (byC b c))
  first|exact hpre|exact k1|exact k2|exact k3,?_⟩
 refine ⟨(b,(byC b (byC b (byC b c)))),by
  rfl,rfl,by
  show Aj b (byC b (byC b (byC b c)))
  first|exact hpre|exact k1|exact k2|exact k3,?_⟩
 refine ao (by first|rfl|omega|(simp;done)|(simp;omega)) λ o25=>?_
 refine ⟨?_,?_,?_⟩
 ·show Value.int .i64 (Int.tmod (IntKind.i64.wrap ((IntKind.i64.wrap ((IntKind.i64.wrap ((IntKind.i64.wrap ((byV b c)*(16777216:Int)))+(IntKind.i64.wrap ((byV b (byC b c))*(65536:Int)))))+(IntKind.i64.wrap ((byV b (byC b (byC b c)))*(256:Int)))))+(byV b (byC b (byC b (byC b c)))))) n)=Value.int .i64 (blV b c n)
  first|(rw [hV];done)|(rw [hC];done)
 ·show Value.int .i64 ((byC b (byC b (byC b (byC b c)))).i)=Value.int .i64 ((blC b c n).i)
  first|(rw [hV];done)|(rw [hC];done)
 show Value.int .i64 ((byC b (byC b (byC b (byC b c)))).h)=Value.int .i64 ((blC b c n).h)
 first|(rw [hV];done)|(rw [hC];done)
end Go.Proofs.YtkffpiaagjcmpaaGreat
namespace Go.Proofs.YtkffpiaagjcmpaaGreat
set_option maxRecDepth 100000
set_option linter.unusedVariables false
set_option linter.unusedSimpArgs false
open Go.RowKit
def N3 (x a b:Fr):Bool:=decide (Fr.cmp x (Fr.min a b)≥0) && decide (Fr.cmp x (Fr.max a b)<=0)
def CY (p a b:Pq):Bool:=N3 p.x a.x b.x && N3 p.y a.y b.y
def At (a b c d:Pq):Bool:=
 (decide (CE a b c=0) && CY c a b) || ((decide (CE a b d=0) && CY d a b) || ((decide (CE c d a=0) && CY a c d) || ((decide (CE c d b=0) && CY b c d) ||
  (decide (CE a b c*CE a b d<0) && decide (CE c d a*CE c d b<0)))))
theorem ACq (r:Fr):-1<=r.sgn/\r.sgn<=1:=by rw [Fr.sgn_z];unfold DE;split <;> (try split) <;> omega
theorem Vz (p q r:Pq):-1<=CE p q r/\CE p q r<=1:=ACq _
theorem Sd (p q r s t u:Pq):IntKind.i64.wrap (CE p q r*CE s t u)=CE p q r*CE s t u:=by
 have h1:=Vz p q r
 have h2:=Vz s t u
 generalize CE p q r=x at *
 generalize CE s t u=y at *
 have hx:x=-1∨x=0∨x=1:=by omega
 rcases hx with rfl|rfl|rfl
 ·exact AB (by omega) (by omega)
 ·exact AB (by omega) (by omega)
 ·exact AB (by omega) (by omega)
def H6 (l:List V2) (p q:Pq) (k:Nat):Bool:=At p q (Gy l k) (Gy l ((k+1)%l.length))
def smB (l:List V2) (p q:Pq):Bool:=decide (Dw l p≥0) || (decide (Dw l q≥0) || (List.range l.length).any (H6 l p q))
theorem Zi {l:List V2} {p q:Pq} {k:Nat} (hk:k<l.length) (h:H6 l p q k=true):smB l p q=true:=by
 have:(List.range l.length).any (H6 l p q)=true:=List.any_eq_true.2 ⟨k,List.mem_range.2 hk,h⟩
 unfold smB;rw [this];simp
theorem ABU {l:List V2} {p q:Pq} (h:Dw l p≥0):smB l p q=true:=by unfold smB;rw [decide_eq_true h];rfl
theorem ABV {l:List V2} {p q:Pq} (h:Dw l q≥0):smB l p q=true:=by unfold smB;rw [decide_eq_true h];simp
theorem ACr {l:List V2} {p q:Pq} (h1:¬ Dw l p≥0) (h2:¬ Dw l q≥0) (h:∀ j,j<l.length->H6 l p q j=false):smB l p q=false:=by
 have:(List.range l.length).any (H6 l p q)=false:=by
  rw [List.any_eq_false];intro j hj;rw [h j (List.mem_range.1 hj)];simp
 unfold smB;rw [this,decide_eq_false h1,decide_eq_false h2];rfl
def smZ (l:List V2) (p q:PtD):Bool:=AJ l && (okP p && (okP q && smB l (pqR p) (pqR q)))
def Cm:Con:={ ι:=Fr×Fr×Fr,pre:=λ i=>True,args:=λ i=>[dF i.1,dF i.2.1,dF i.2.2],res:=λ i=>⟨false,[none],[rcB (N3 i.1 i.2.1 i.2.2)]⟩ }
theorem Qi:Cm.Ok Tryz.prog 201:=by
 refine fok (X:=⟨tt,[(212,Gr),(58,An),(213,Gs)],[],21,[]⟩) mixed AI (CTok.cons Wz (CTok.cons IY (CTok.cons W0 (CTok.nil _)))) Tryz.func201 (λ _=>[]) ?_
 rintro ⟨x,a,b⟩ hpre
 have hpre:True:=hpre
 refine AH (q:=∃ i1:Fr×Fr,[dF a,dF b]=Gr.args i1/\Gr.pre i1/\(∃ i2:Fr×Fr,[dF x,dF (Fr.min i1.1 i1.2)]=An.args i2/\An.pre i2/\(ifB ((decide ((Fr.cmp i2.1 i2.2)≥(0:Int)))) (∃ i3:Fr×Fr,[dF a,dF b]=Gs.args i3/\Gs.pre i3/\(∃ i4:Fr×Fr,[dF x,dF (Fr.max i3.1 i3.2)]=An.args i4/\An.pre i4/\((vB (decide ((Fr.cmp i4.1 i4.2)<=(0:Int)))=vB (N3 x a b))))) ((vB false=vB (N3 x a b)))))) (by kernel_rfl) ?_
 delta ifB vB
 refine ⟨(a,b),by
  rfl,by
  trivial,?_⟩
 refine ⟨(x,(Fr.min a b)),by
  rfl,by
  trivial,?_⟩
 refine And.symm ⟨λ c7=>?_,λ c7=>?_⟩
 ·try simp only [nrm] at c7
  exact congrArg Value.bool (by unfold N3;first|(rw [decide_eq_true (show Fr.cmp x (Fr.min a b)≥0 by omega)];rfl)|(rw [decide_eq_false (show ¬ Fr.cmp x (Fr.min a b)≥0 by omega)];rfl))
 try simp only [nrm] at c7
 refine ⟨(a,b),by
  rfl,by
  trivial,?_⟩
 refine ⟨(x,(Fr.max a b)),by
  rfl,by
  trivial,?_⟩
 exact congrArg Value.bool (by unfold N3;first|(rw [decide_eq_true (show Fr.cmp x (Fr.min a b)≥0 by omega)];rfl)|(rw [decide_eq_false (show ¬ Fr.cmp x (Fr.min a b)≥0 by omega)];rfl))
def AM:Con:={ ι:=Pq×Pq×Pq,pre:=λ i=>True,args:=λ i=>[dP i.1,dP i.2.1,dP i.2.2],res:=λ i=>⟨false,[none],[rcB (CY i.1 i.2.1 i.2.2)]⟩ }
theorem Se:AM.Ok Tryz.prog 173:=by
 refine fok (X:=⟨tt,[(201,Cm)],[],23,[]⟩) mixed AI (CTok.cons Qi (CTok.nil _)) Tryz.func173 (λ _=>[]) ?_
 rintro ⟨p,a,b⟩ hpre
 have hpre:True:=hpre
 refine AH (q:=∃ i1:Fr×Fr×Fr,[dF p.x,dF a.x,dF b.x]=Cm.args i1/\Cm.pre i1/\(ifB ((N3 i1.1 i1.2.1 i1.2.2)) (∃ i2:Fr×Fr×Fr,[dF p.y,dF a.y,dF b.y]=Cm.args i2/\Cm.pre i2/\((vB (N3 i2.1 i2.2.1 i2.2.2)=vB (CY p a b)))) ((vB false=vB (CY p a b))))) (by kernel_rfl) ?_
 delta ifB vB
 refine ⟨(p.x,a.x,b.x),by
  rfl,by
  trivial,?_⟩
 refine And.symm ⟨λ c4=>?_,λ c4=>?_⟩
 ·try simp only [nrm] at c4
  exact congrArg Value.bool (by unfold CY;rw [c4];rfl)
 try simp only [nrm] at c4
 refine ⟨(p.y,a.y,b.y),by
  rfl,by
  trivial,?_⟩
 exact congrArg Value.bool (by unfold CY;rw [c4];rfl)
def J9:Con:={ ι:=Pq×Pq×Pq×Pq,pre:=λ i=>True,args:=λ i=>[dP i.1,dP i.2.1,dP i.2.2.1,dP i.2.2.2],res:=λ i=>⟨false,[none],[rcB (At i.1 i.2.1 i.2.2.1 i.2.2.2)]⟩ }
set_option maxHeartbeats 1600000 in
theorem ABW:J9.Ok Tryz.prog 138:=by
 refine fok (X:=⟨tt,[(132,CS),(173,AM)],[],72,[]⟩) mixed AI (CTok.cons Vi (CTok.cons Se (CTok.nil _))) Tryz.func138 (λ _=>[]) ?_
 rintro ⟨a,b,c,d⟩ hpre
 have hpre:True:=hpre
 refine AH (q:=let Z6:=At a b c d;let Z2:=(vB true=vB Z6);∃ i1:Pq×Pq×Pq,let Z9:=CE i1.1 i1.2.1 i1.2.2;[dP a,dP b,dP c]=CS.args i1/\CS.pre i1/\(∃ i2:Pq×Pq×Pq,let Z5:=CE i2.1 i2.2.1 i2.2.2;[dP a,dP b,dP d]=CS.args i2/\CS.pre i2/\(∃ i3:Pq×Pq×Pq,let Z7:=CE i3.1 i3.2.1 i3.2.2;let Z4:=(Z7 == (0:Int));[dP c,dP d,dP a]=CS.args i3/\CS.pre i3/\(∃ i4:Pq×Pq×Pq,let Z8:=CE i4.1 i4.2.1 i4.2.2;let Z3:=(Z8 == (0:Int));let Z1:=ifB ((decide ((wR (Z9*Z5))<(0:Int)))) ((vB (decide ((wR (Z7*Z8))<(0:Int)))=vB Z6)) ((vB false=vB Z6));[dP c,dP d,dP b]=CS.args i4/\CS.pre i4/\(ifB ((Z9 == (0:Int))) (∃ i5:Pq×Pq×Pq,[dP c,dP a,dP b]=AM.args i5/\AM.pre i5/\(ifB ((CY i5.1 i5.2.1 i5.2.2)) Z2 (ifB ((Z5 == (0:Int))) (∃ i6:Pq×Pq×Pq,[dP d,dP a,dP b]=AM.args i6/\AM.pre i6/\(ifB ((CY i6.1 i6.2.1 i6.2.2)) Z2 (ifB Z4 (∃ i7:Pq×Pq×Pq,[dP a,dP c,dP d]=AM.args i7/\AM.pre i7/\(ifB ((CY i7.1 i7.2.1 i7.2.2)) Z2 (ifB Z3 (∃ i8:Pq×Pq×Pq,[dP b,dP c,dP d]=AM.args i8/\AM.pre i8/\(ifB ((CY i8.1 i8.2.1 i8.2.2)) Z2 Z1)) Z1))) (ifB Z3 (∃ i9:Pq×Pq×Pq,[dP b,dP c,dP d]=AM.args i9/\AM.pre i9/\(ifB ((CY i9.1 i9.2.1 i9.2.2)) Z2 Z1)) Z1)))) (ifB Z4 (∃ i10:Pq×Pq×Pq,[dP a,dP c,dP d]=AM.args i10/\AM.pre i10/\(ifB ((CY i10.1 i10.2.1 i10.2.2)) Z2 (ifB Z3 (∃ i11:Pq×Pq×Pq,[dP b,dP c,dP d]=AM.args i11/\AM.pre i11/\(ifB ((CY i11.1 i11.2.1 i11.2.2)) Z2 Z1)) Z1))) (ifB Z3 (∃ i12:Pq×Pq×Pq,[dP b,dP c,dP d]=AM.args i12/\AM.pre i12/\(ifB ((CY i12.1 i12.2.1 i12.2.2)) Z2 Z1)) Z1))))) (ifB ((Z5 == (0:Int))) (∃ i13:Pq×Pq×Pq,[dP d,dP a,dP b]=AM.args i13/\AM.pre i13/\(ifB ((CY i13.1 i13.2.1 i13.2.2)) Z2 (ifB Z4 (∃ i14:Pq×Pq×Pq,[dP a,dP c,dP d]=AM.args i14/\AM.pre i14/\(ifB ((CY i14.1 i14.2.1 i14.2.2)) Z2 (ifB Z3 (∃ i15:Pq×Pq×Pq,[dP b,dP c,dP d]=AM.args i15/\AM.pre i15/\(ifB ((CY i15.1 i15.2.1 i15.2.2)) Z2 Z1)) Z1))) (ifB Z3 (∃ i16:Pq×Pq×Pq,[dP b,dP c,dP d]=AM.args i16/\AM.pre i16/\(ifB ((CY i16.1 i16.2.1 i16.2.2)) Z2 Z1)) Z1)))) (ifB Z4 (∃ i17:Pq×Pq×Pq,[dP a,dP c,dP d]=AM.args i17/\AM.pre i17/\(ifB ((CY i17.1 i17.2.1 i17.2.2)) Z2 (ifB Z3 (∃ i18:Pq×Pq×Pq,[dP b,dP c,dP d]=AM.args i18/\AM.pre i18/\(ifB ((CY i18.1 i18.2.1 i18.2.2)) Z2 Z1)) Z1))) (ifB Z3 (∃ i19:Pq×Pq×Pq,[dP b,dP c,dP d]=AM.args i19/\AM.pre i19/\(ifB ((CY i19.1 i19.2.1 i19.2.2)) Z2 Z1)) Z1)))))))) (by kernel_rfl) ?_
 conv=>zeta
 delta ifB vB wR
 have q1:=Sd a b c a b d
 have q2:=Sd c d a c d b
 refine ⟨(a,b,c),by
  rfl,by
  trivial,?_⟩
 refine ⟨(a,b,d),by
  rfl,by
  trivial,?_⟩
 refine ⟨(c,d,a),by
  rfl,by
  trivial,?_⟩
 refine ⟨(c,d,b),by
  rfl,by
  trivial,?_⟩
 refine And.symm ⟨λ c13=>?_,λ c13=>?_⟩
 ·try simp only [nrm] at c13
  refine And.symm ⟨λ c85=>?_,λ c85=>?_⟩
  ·try simp only [nrm] at c85
   refine And.symm ⟨λ c121=>?_,λ c121=>?_⟩
   ·try simp only [nrm] at c121
    refine And.symm ⟨λ c139=>?_,λ c139=>?_⟩
    ·try simp only [nrm] at c139
     refine ⟨λ c148=>?_,λ c148=>?_⟩
     ·try simp only [nrm] at c148
      exact congrArg Value.bool (by unfold At;simp_all;try omega)
     try simp only [nrm] at c148
     exact congrArg Value.bool (by unfold At;simp_all;try omega)
    try simp only [nrm] at c139
    refine ⟨(b,c,d),by
     rfl,by
     trivial,?_⟩
    refine ⟨λ c143=>?_,λ c143=>?_⟩
    ·try simp only [nrm] at c143
     exact congrArg Value.bool (by unfold At;simp_all;try omega)
    try simp only [nrm] at c143
    refine ⟨λ c145=>?_,λ c145=>?_⟩
    ·try simp only [nrm] at c145
     exact congrArg Value.bool (by unfold At;simp_all;try omega)
    try simp only [nrm] at c145
    exact congrArg Value.bool (by unfold At;simp_all;try omega)
   try simp only [nrm] at c121
   refine ⟨(a,c,d),by
    rfl,by
    trivial,?_⟩
   refine ⟨λ c125=>?_,λ c125=>?_⟩
   ·try simp only [nrm] at c125
    exact congrArg Value.bool (by unfold At;simp_all;try omega)
   try simp only [nrm] at c125
   refine And.symm ⟨λ c127=>?_,λ c127=>?_⟩
   ·try simp only [nrm] at c127
    refine ⟨λ c136=>?_,λ c136=>?_⟩
    ·try simp only [nrm] at c136
     exact congrArg Value.bool (by unfold At;simp_all;try omega)
    try simp only [nrm] at c136
    exact congrArg Value.bool (by unfold At;simp_all;try omega)
   try simp only [nrm] at c127
   refine ⟨(b,c,d),by
    rfl,by
    trivial,?_⟩
   refine ⟨λ c131=>?_,λ c131=>?_⟩
   ·try simp only [nrm] at c131
    exact congrArg Value.bool (by unfold At;simp_all;try omega)
   try simp only [nrm] at c131
   refine ⟨λ c133=>?_,λ c133=>?_⟩
   ·try simp only [nrm] at c133
    exact congrArg Value.bool (by unfold At;simp_all;try omega)
   try simp only [nrm] at c133
   exact congrArg Value.bool (by unfold At;simp_all;try omega)
  try simp only [nrm] at c85
  refine ⟨(d,a,b),by
   rfl,by
   trivial,?_⟩
  refine ⟨λ c89=>?_,λ c89=>?_⟩
  ·try simp only [nrm] at c89
   exact congrArg Value.bool (by unfold At;simp_all;try omega)
  try simp only [nrm] at c89
  refine And.symm ⟨λ c91=>?_,λ c91=>?_⟩
  ·try simp only [nrm] at c91
   refine And.symm ⟨λ c109=>?_,λ c109=>?_⟩
   ·try simp only [nrm] at c109
    refine ⟨λ c118=>?_,λ c118=>?_⟩
    ·try simp only [nrm] at c118
     exact congrArg Value.bool (by unfold At;simp_all;try omega)
    try simp only [nrm] at c118
    exact congrArg Value.bool (by unfold At;simp_all;try omega)
   try simp only [nrm] at c109
   refine ⟨(b,c,d),by
    rfl,by
    trivial,?_⟩
   refine ⟨λ c113=>?_,λ c113=>?_⟩
   ·try simp only [nrm] at c113
    exact congrArg Value.bool (by unfold At;simp_all;try omega)
   try simp only [nrm] at c113
   refine ⟨λ c115=>?_,λ c115=>?_⟩
   ·try simp only [nrm] at c115
    exact congrArg Value.bool (by unfold At;simp_all;try omega)
   try simp only [nrm] at c115
   exact congrArg Value.bool (by unfold At;simp_all;try omega)
  try simp only [nrm] at c91
  refine ⟨(a,c,d),by
   rfl,by
   trivial,?_⟩
  refine ⟨λ c95=>?_,λ c95=>?_⟩
  ·try simp only [nrm] at c95
   exact congrArg Value.bool (by unfold At;simp_all;try omega)
  try simp only [nrm] at c95
  refine And.symm ⟨λ c97=>?_,λ c97=>?_⟩
  ·try simp only [nrm] at c97
   refine ⟨λ c106=>?_,λ c106=>?_⟩
   ·try simp only [nrm] at c106
    exact congrArg Value.bool (by unfold At;simp_all;try omega)
   try simp only [nrm] at c106
   exact congrArg Value.bool (by unfold At;simp_all;try omega)
  try simp only [nrm] at c97
  refine ⟨(b,c,d),by
   rfl,by
   trivial,?_⟩
  refine ⟨λ c101=>?_,λ c101=>?_⟩
  ·try simp only [nrm] at c101
   exact congrArg Value.bool (by unfold At;simp_all;try omega)
  try simp only [nrm] at c101
  refine ⟨λ c103=>?_,λ c103=>?_⟩
  ·try simp only [nrm] at c103
   exact congrArg Value.bool (by unfold At;simp_all;try omega)
  try simp only [nrm] at c103
  exact congrArg Value.bool (by unfold At;simp_all;try omega)
 try simp only [nrm] at c13
 refine ⟨(c,a,b),by
  rfl,by
  trivial,?_⟩
 refine ⟨λ c17=>?_,λ c17=>?_⟩
 ·try simp only [nrm] at c17
  exact congrArg Value.bool (by unfold At;simp_all;try omega)
 try simp only [nrm] at c17
 refine And.symm ⟨λ c19=>?_,λ c19=>?_⟩
 ·try simp only [nrm] at c19
  refine And.symm ⟨λ c55=>?_,λ c55=>?_⟩
  ·try simp only [nrm] at c55
   refine And.symm ⟨λ c73=>?_,λ c73=>?_⟩
   ·try simp only [nrm] at c73
    refine ⟨λ c82=>?_,λ c82=>?_⟩
    ·try simp only [nrm] at c82
     exact congrArg Value.bool (by unfold At;simp_all;try omega)
    try simp only [nrm] at c82
    exact congrArg Value.bool (by unfold At;simp_all;try omega)
   try simp only [nrm] at c73
   refine ⟨(b,c,d),by
    rfl,by
    trivial,?_⟩
   refine ⟨λ c77=>?_,λ c77=>?_⟩
   ·try simp only [nrm] at c77
    exact congrArg Value.bool (by unfold At;simp_all;try omega)
   try simp only [nrm] at c77
   refine ⟨λ c79=>?_,λ c79=>?_⟩
   ·try simp only [nrm] at c79
    exact congrArg Value.bool (by unfold At;simp_all;try omega)
   try simp only [nrm] at c79
   exact congrArg Value.bool (by unfold At;simp_all;try omega)
  try simp only [nrm] at c55
  refine ⟨(a,c,d),by
   rfl,by
   trivial,?_⟩
  refine ⟨λ c59=>?_,λ c59=>?_⟩
  ·try simp only [nrm] at c59
   exact congrArg Value.bool (by unfold At;simp_all;try omega)
  try simp only [nrm] at c59
  refine And.symm ⟨λ c61=>?_,λ c61=>?_⟩
  ·try simp only [nrm] at c61
   refine ⟨λ c70=>?_,λ c70=>?_⟩
   ·try simp only [nrm] at c70
    exact congrArg Value.bool (by unfold At;simp_all;try omega)
   try simp only [nrm] at c70
   exact congrArg Value.bool (by unfold At;simp_all;try omega)
  try simp only [nrm] at c61
  refine ⟨(b,c,d),by
   rfl,by
   trivial,?_⟩
  refine ⟨λ c65=>?_,λ c65=>?_⟩
  ·try simp only [nrm] at c65
   exact congrArg Value.bool (by unfold At;simp_all;try omega)
  try simp only [nrm] at c65
  refine ⟨λ c67=>?_,λ c67=>?_⟩
  ·try simp only [nrm] at c67
   exact congrArg Value.bool (by unfold At;simp_all;try omega)
  try simp only [nrm] at c67
  exact congrArg Value.bool (by unfold At;simp_all;try omega)
 try simp only [nrm] at c19
 refine ⟨(d,a,b),by
  rfl,by
  trivial,?_⟩
 refine ⟨λ c23=>?_,λ c23=>?_⟩
 ·try simp only [nrm] at c23
  exact congrArg Value.bool (by unfold At;simp_all;try omega)
 try simp only [nrm] at c23
 refine And.symm ⟨λ c25=>?_,λ c25=>?_⟩
 ·try simp only [nrm] at c25
  refine And.symm ⟨λ c43=>?_,λ c43=>?_⟩
  ·try simp only [nrm] at c43
   refine ⟨λ c52=>?_,λ c52=>?_⟩
   ·try simp only [nrm] at c52
    exact congrArg Value.bool (by unfold At;simp_all;try omega)
   try simp only [nrm] at c52
   exact congrArg Value.bool (by unfold At;simp_all;try omega)
  try simp only [nrm] at c43
  refine ⟨(b,c,d),by
   rfl,by
   trivial,?_⟩
  refine ⟨λ c47=>?_,λ c47=>?_⟩
  ·try simp only [nrm] at c47
   exact congrArg Value.bool (by unfold At;simp_all;try omega)
  try simp only [nrm] at c47
  refine ⟨λ c49=>?_,λ c49=>?_⟩
  ·try simp only [nrm] at c49
   exact congrArg Value.bool (by unfold At;simp_all;try omega)
  try simp only [nrm] at c49
  exact congrArg Value.bool (by unfold At;simp_all;try omega)
 try simp only [nrm] at c25
 refine ⟨(a,c,d),by
  rfl,by
  trivial,?_⟩
 refine ⟨λ c29=>?_,λ c29=>?_⟩
 ·try simp only [nrm] at c29
  exact congrArg Value.bool (by unfold At;simp_all;try omega)
 try simp only [nrm] at c29
 refine And.symm ⟨λ c31=>?_,λ c31=>?_⟩
 ·try simp only [nrm] at c31
  refine ⟨λ c40=>?_,λ c40=>?_⟩
  ·try simp only [nrm] at c40
   exact congrArg Value.bool (by unfold At;simp_all;try omega)
  try simp only [nrm] at c40
  exact congrArg Value.bool (by unfold At;simp_all;try omega)
 try simp only [nrm] at c31
 refine ⟨(b,c,d),by
  rfl,by
  trivial,?_⟩
 refine ⟨λ c35=>?_,λ c35=>?_⟩
 ·try simp only [nrm] at c35
  exact congrArg Value.bool (by unfold At;simp_all;try omega)
 try simp only [nrm] at c35
 refine ⟨λ c37=>?_,λ c37=>?_⟩
 ·try simp only [nrm] at c37
  exact congrArg Value.bool (by unfold At;simp_all;try omega)
 try simp only [nrm] at c37
 exact congrArg Value.bool (by unfold At;simp_all;try omega)
def Er:Con:={ ι:=(List V2)×Pq×Pq,pre:=λ i=>i.1.all AF=true/\0<i.1.length/\i.1.length<=16,args:=λ i=>[.one (DC.sl 24 [.int,.int] (AA i.1)),dP i.2.1,dP i.2.2],res:=λ i=>⟨false,[none],[rcB (smB i.1 i.2.1 i.2.2)]⟩ }
theorem Sf:Er.Ok Tryz.prog 97:=by
 refine fok (X:=⟨tt,[(89,Bm),(131,Cf),(138,J9)],[],42,[]⟩) mixed AI (CTok.cons L1 (CTok.cons L0 (CTok.cons ABW (CTok.nil _)))) Tryz.func97 (λ (i:(List V2)×Pq×Pq)=>[(5,.mk 12 (Nat) (λ x1=>{ tm:=[(4,tP 1 0),(5,tP 6 0),(22,tX 11),(23,tI (nI ((CD i.1).length))),(24,tI (nI x1)),(7,tX 11)],en:=[(1,.box [kB (decide (i.2.1.x.z<0)),.ext 2,.ext 3,kB (decide (i.2.1.y.z<0)),.ext 4,.ext 5]),(6,.box [kB (decide (i.2.2.x.z<0)),.ext 7,.ext 8,kB (decide (i.2.2.y.z<0)),.ext 9,.ext 10]),(2,eV (L i.2.1.x.z.natAbs)),(3,eV (L i.2.1.x.d)),(4,eV (L i.2.1.y.z.natAbs)),(5,eV (L i.2.1.y.d)),(7,eV (L i.2.2.x.z.natAbs)),(8,eV (L i.2.2.x.d)),(9,eV (L i.2.2.y.z.natAbs)),(10,eV (L i.2.2.y.d)),(11,.own 42 z41 (CD i.1))] }) (λ x1=>x1<=i.1.length/\∀ j,j<x1->H6 i.1 i.2.1 i.2.2 j=false) (λ x1=>i.1.length-x1) (λ _=>[]))]) ?_
 rintro ⟨l,p,q⟩ hpre
 have hpre:l.all AF=true/\0<l.length/\l.length<=16:=hpre
 refine AH (q:=let Z11:=vB (decide (q.y.z<0));let Z10:=vB (decide (q.x.z<0));let Z9:=vB (decide (p.y.z<0));let Z8:=vB (decide (p.x.z<0));let Z6:=(vB true=vB (smB l p q));let Z5:=DC.sl 24 [.int,.int] (AA l);let Z4:=nI ((CD l).length);∃ i1:(List V2)×Pq,[DA.one Z5,dP p]=Bm.args i1/\Bm.pre i1/\(ifB ((!(decide ((Dw i1.1 i1.2)≥(0:Int))))) (∃ i2:(List V2)×Pq,[DA.one Z5,dP q]=Bm.args i2/\Bm.pre i2/\(ifB ((decide ((Dw i2.1 i2.2)≥(0:Int)))) Z6 (∃ i3:(List V2),[DA.one Z5]=Cf.args i3/\Cf.pre i3/\((∃ x1:Nat,(x1<=l.length/\∀ j,j<x1->H6 l p q j=false)/\((vI (nI ((CD i3).length))=vI Z4)/\(vI (0:Int)=vI (nI x1))/\(rf Z8)/\(rf Z9)/\(rf Z10)/\(rf Z11)/\(rf (L p.x.z.natAbs))/\(rf (L p.x.d))/\(rf (L p.y.z.natAbs))/\(rf (L p.y.d))/\(rf (L q.x.z.natAbs))/\(rf (L q.x.d))/\(rf (L q.y.z.natAbs))/\(rf (L q.y.d))/\(CD i3=(CD l))))/\∀ x1:Nat,let Z7:=wR ((nI x1)+(1:Int));let Z3:=(CD l).getD x1 [];let Z1:=Int.tmod Z7 Z4;let Z2:=(CD l).getD (Z1.toNat) [];(x1<=l.length/\∀ j,j<x1->H6 l p q j=false)->(ifB ((decide ((nI x1)<Z4))) ((0<=(nI x1)/\(nI x1)<((CD l).length:Int))/\((x1<(CD l).length)/\((Z4≠0)/\((0<=Z1/\Z1<((CD l).length:Int))/\((Z1.toNat<(CD l).length)/\(∃ i4:Pq×Pq×Pq×Pq,[dP p,dP q,DA.agg [cB (((Z3.getD 0 (.int 0))).b),cS (((Z3.getD 1 (.int 0))).r),cS (((Z3.getD 2 (.int 0))).r),cB (((Z3.getD 3 (.int 0))).b),cS (((Z3.getD 4 (.int 0))).r),cS (((Z3.getD 5 (.int 0))).r)],DA.agg [cB (((Z2.getD 0 (.int 0))).b),cS (((Z2.getD 1 (.int 0))).r),cS (((Z2.getD 2 (.int 0))).r),cB (((Z2.getD 3 (.int 0))).b),cS (((Z2.getD 4 (.int 0))).r),cS (((Z2.getD 5 (.int 0))).r)]]=J9.args i4/\J9.pre i4/\(ifB ((At i4.1 i4.2.1 i4.2.2.1 i4.2.2.2)) Z6 (∃ y2:Nat,(y2<=l.length/\∀ j,j<y2->H6 l p q j=false)/\(l.length-y2<l.length-x1)/\((rf (vI Z4))/\(vI Z7=vI (nI y2))/\(rf Z8)/\(rf Z9)/\(rf Z10)/\(rf Z11)/\(rf (L p.x.z.natAbs))/\(rf (L p.x.d))/\(rf (L p.y.z.natAbs))/\(rf (L p.y.d))/\(rf (L q.x.z.natAbs))/\(rf (L q.x.d))/\(rf (L q.y.z.natAbs))/\(rf (L q.y.d))/\(rf (CD l))))))))))) ((vB false=vB (smB l p q)))))))) Z6)) (by kernel_rfl) ?_
 conv=>zeta
 delta ifB vB vI wR nI
 have hvl:=AC l
 have hpl:=Jz l
 refine ⟨(l,p),by
  rfl,by
  exact hpre,?_⟩
 refine And.symm ⟨λ c4=>?_,λ c4=>?_⟩
 ·try simp only [nrm] at c4
  rw [ABU c4]
 try simp only [nrm] at c4
 refine ⟨(l,q),by
  rfl,by
  exact hpre,?_⟩
 refine ⟨λ c8=>?_,λ c8=>?_⟩
 ·try simp only [nrm] at c8
  rw [ABV c8]
 try simp only [nrm] at c8
 refine ⟨l,by
  rfl,by
  exact ⟨hpre.1,by omega⟩,?_⟩
 refine ⟨⟨0,by
  exact ⟨Nat.zero_le _,λ j hj=>absurd hj (Nat.not_lt_zero j)⟩,?_⟩,?_⟩
 ·refine ⟨rfl,?_,rfl,rfl,rfl,rfl,rfl,rfl,rfl,rfl,rfl,rfl,rfl,rfl,rfl⟩
  rfl
 intro (k:Nat) hki13
 have hki13:k<=l.length/\∀ j,j<k->H6 l p q j=false:=hki13
 refine And.symm ⟨λ c30=>?_,λ c30=>?_⟩
 ·try simp only [nrm] at c30
  rw [ACr (by omega) (by omega) (λ j hj=>hki13.2 j (by omega))]
 try simp only [nrm] at c30
 have hkl:k<l.length:=by omega
 have m2:(k+1)%l.length<l.length:=(GN hkl (by omega)).2.1
 have m1:(Int.tmod (IntKind.i64.wrap (((k:Nat):Int)+(1:Int))) (((CD l).length:Nat):Int)).toNat=(k+1)%l.length:=by rw [hpl];exact (GN hkl (by omega)).1
 have m3:Int.tmod (IntKind.i64.wrap (((k:Nat):Int)+(1:Int))) (((CD l).length:Nat):Int)=(((k+1)%l.length:Nat):Int):=by rw [hpl];exact (GN hkl (by omega)).2.2
 refine ao (by omega) λ o31=>?_
 refine ao (by omega) λ o32=>?_
 refine ao (by omega) λ o33=>?_
 refine ao (by omega) λ o34=>?_
 refine ao (by omega) λ o35=>?_
 refine ⟨(p,q,Gy l k,Gy l ((k+1)%l.length)),by
  rw [m1,MW hkl,MW m2];rfl,by
  trivial,?_⟩
 refine ⟨λ c39=>?_,λ c39=>?_⟩
 ·try simp only [nrm] at c39
  rw [Zi hkl c39]
 try simp only [nrm] at c39
 refine ⟨k+1,by
  exact ⟨by omega,IT hki13.2 c39⟩,by
  omega,?_⟩
 refine ⟨rfl,?_,rfl,rfl,rfl,rfl,rfl,rfl,rfl,rfl,rfl,rfl,rfl,rfl,rfl⟩
 exact Aa (AB (by omega) (by omega))
end Go.Proofs.YtkffpiaagjcmpaaGreat
