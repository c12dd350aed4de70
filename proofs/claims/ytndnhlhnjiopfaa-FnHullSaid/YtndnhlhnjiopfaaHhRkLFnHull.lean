import Derived.Test.YtndnhlhnjiopfaaHhDrw
namespace Go.Proofs.Ytndnhlhnjiopfaa
set_option linter.unusedVariables false
set_option linter.unusedSimpArgs false
open Go.RowKit
def hA (b:List UInt8) (n:Nat):List V2:=(drP b 5 (Ac b (7*n))).1
def CC (b:List UInt8):List V2:=hA b 0++hA b 1
def hH (b:List UInt8):List V2:=Ak (CC b)
def Nw:Con:={ ι:=(List UInt8),pre:=λ i=>True,args:=λ i=>[.one (.ro (.bytes i))],res:=λ i=>⟨false,[none],[rcB true]⟩ }
set_option maxRecDepth 100000 in
set_option maxHeartbeats 2000000 in
theorem PG:Nw.Ok Try.prog 3:=by
 refine fok (X:=⟨tt,[(5,BZ),(6,Cy),(8,A9),(7,CS),(9,Ay),(10,Fg),(11,Bz)],[],50,[]⟩) mixed AS (CTok.cons RS (CTok.cons TS (CTok.cons ID (CTok.cons L1 (CTok.cons F5 (CTok.cons Tn (CTok.cons To (CTok.nil _)))))))) Try.func3 (λ (i:(List UInt8))=>[(6,.mk 4 (Nat) (λ x1=>{ tm:=[(0,tX 1),(17,tX 2),(4,tX 3),(18,tI (nI ((CC i).length))),(19,tI (x1:Int))],en:=[(1,.ro (.bytes i) []),(2,.own 27 [.int,.int] (AA (CC i))),(3,.own 27 [.int,.int] (AA (hH i)))] }) (λ x1=>x1<=(CC i).length) (λ x1=>(CC i).length-x1) (λ _=>[]))]) ?_
 intro (b:List UInt8) hpre
 have hpre:True:=hpre
 refine AR (q:=let Z12:=AA (hH b);let Z9:=(.bytes b:RO)=.bytes b;let Z8:=DC.ro (.bytes b);let Z5:=nI ((CC b).length);let Z4:=(vB false=vB true);let Z3:=AA (CC b);let Z2:=DC.sl 27 [.int,.int] Z12;ifB ((decide ((nI b.length)>(1048576:Int)))) ((vB true=vB true)) (∃ i1:(List UInt8)×Nat,let Z6:=drP i1.1 5 (Ac i1.1 (7*i1.2));[DA.one Z8,DA.one (cI (0:Int))]=BZ.args i1/\BZ.pre i1/\(∃ i2:(List UInt8)×Nat,let Z7:=drP i2.1 5 (Ac i2.1 (7*i2.2));let Z1:=AA Z6.1++AA Z7.1;[DA.one Z8,DA.one (cI (1:Int))]=BZ.args i2/\BZ.pre i2/\(((AA Z6.1).length+(AA Z7.1).length<=2199023255552)/\(∃ i3:(List V2),[DA.one (DC.sl 27 [.int,.int] Z1)]=Cy.args i3/\Cy.pre i3/\((∃ x1:Nat,(x1<=(CC b).length)/\((vI (nI (Z1.length))=vI Z5)/\(vI (0:Int)=vI (x1:Int))/\Z9/\(Z1=Z3)/\(AA (Ak i3)=Z12)))/\∀ x1:Nat,(x1<=(CC b).length)->(ifB ((decide ((x1:Int)<Z5))) ((0<=(x1:Int)/\(x1:Int)<(Z3.length:Int))/\((x1<Z3.length)/\(∃ i4:Int×Int,let Z11:=Fr.ofInt i4.2;let Z10:=Fr.ofInt i4.1;[DA.agg [cI ((((Z3.getD x1 []).getD 0 (.int 0))).n),cI ((((Z3.getD x1 []).getD 1 (.int 0))).n)]]=A9.args i4/\A9.pre i4/\(∃ i5:(List V2)×PtD,[DA.one Z2,DA.agg [cB (decide (Z10.z<0)),cS (L Z10.z.natAbs),cS (L Z10.d),cB (decide (Z11.z<0)),cS (L Z11.z.natAbs),cS (L Z11.d)]]=CS.args i5/\CS.pre i5/\(ifB ((decide ((cpZ i5.1 i5.2)<(0:Int)))) Z4 (∃ y2:Nat,(y2<=(CC b).length)/\((CC b).length-y2<(CC b).length-x1)/\((rf (vI Z5))/\(vI (wR ((x1:Int)+(1:Int)))=vI (y2:Int))/\Z9/\(rf Z3)/\(rf Z12)))))))) (∃ i6:(List V2),[DA.one Z2]=Ay.args i6/\Ay.pre i6/\(ifB ((AJ i6)) (∃ i7:(List V2),[DA.one Z2]=Cy.args i7/\Cy.pre i7/\(∃ i8:(List V2)×(List V2),[DA.one (DC.sl 27 [.int,.int] (AA (Ak i7))),DA.one Z2]=Fg.args i8/\Fg.pre i8/\(ifB ((CE i8.1 i8.2)) (∃ i9:(List V2),[DA.one Z2]=Bz.args i9/\Bz.pre i9/\(∃ i10:(List UInt8)×Nat,[DA.one Z8,DA.one (cI (0:Int))]=BZ.args i10/\BZ.pre i10/\(∃ i11:(List V2),[DA.one (DC.sl 27 [.int,.int] (AA (drP i10.1 5 (Ac i10.1 (7*i10.2))).1))]=Bz.args i11/\Bz.pre i11/\(ifB ((decide ((FC i9)≥(FC i11)))) (∃ i12:(List V2),[DA.one Z2]=Bz.args i12/\Bz.pre i12/\((vB (decide ((FC i12)>(0:Int)))=vB true))) Z4)))) Z4))) Z4))))))))) (by kernel_rfl) ?_
 conv=>zeta
 delta ifB vB vI wR nI
 refine ⟨λ c1=>?_,λ c1=>?_⟩
 ·try simp only [nrm] at c1
  exact rfl
 try simp only [nrm] at c1
 have hlen:b.length<=1048576:=by omega
 obtain ⟨p,Hp,p5⟩:=Nv (b:=b) (z:=5) (by omega) (by omega) (Ac b (7*0))
 obtain ⟨p',Hp',p5'⟩:=Nv (b:=b) (z:=5) (by omega) (by omega) (Ac b (7*1))
 have q1:=O9 (b:=b) (z:=5) (by omega) (Ac b (7*0))
 have q2:=O9 (b:=b) (z:=5) (by omega) (Ac b (7*1))
 have Q:HullLaw (hA b 0) (hA b 1) (hH b):=Tq q1.1 q2.1 (by show (drP b 5 (Ac b (7*0))).1.length<=8;omega) (by show (drP b 5 (Ac b (7*1))).1.length<=8;omega) Hp
 have hap:AA (drP b 5 (Ac b (7*0))).1++AA (drP b 5 (Ac b (7*1))).1=AA (CC b):=(Cq _ _).symm
 have hpl:(CC b).length<=16:=by show (hA b 0++hA b 1).length<=16;rw [List.length_append];show (drP b 5 (Ac b (7*0))).1.length+(drP b 5 (Ac b (7*1))).1.length<=16;omega
 refine ⟨(b,0),by
  first|(rw [AL hkl,AM hkl];rfl)|(rw [hap];rfl)|rfl,by
  show b.length<=1048576/\0<=100
  exact ⟨hlen,by omega⟩,?_⟩
 refine ⟨(b,1),by
  first|(rw [AL hkl,AM hkl];rfl)|(rw [hap];rfl)|rfl,by
  show b.length<=1048576/\1<=100
  exact ⟨hlen,by omega⟩,?_⟩
 refine ao (a:=(AA (drP b 5 (Ac b (7*0))).1).length+(AA (drP b 5 (Ac b (7*1))).1).length<=2199023255552) (by first|rfl|omega|(rw [AB,AB];omega)|(rw [AB];omega)) λ o9=>?_
 refine ⟨CC b,by
  first|(rw [AL hkl,AM hkl];rfl)|(rw [hap];rfl)|rfl,by
  show (CC b).length<=1048576
  omega,?_⟩
 refine ⟨⟨0,by
  first|omega|trivial,?_⟩,?_⟩
 ·refine ⟨?_,rfl,?_,?_,?_⟩
  ·show Value.int .i64 (((AA (drP b 5 (Ac b (7*0))).1++AA (drP b 5 (Ac b (7*1))).1).length:Nat):Int)=Value.int .i64 (((CC b).length:Nat):Int)
   first|rfl|exact hap|exact AW (by rw [hap,AB])|(rw [hap];rfl)
  ·first|rfl|exact hap|exact AW (by rw [hap,AB])|(rw [hap];rfl)
  ·show (AA (drP b 5 (Ac b (7*0))).1++AA (drP b 5 (Ac b (7*1))).1)=(AA (CC b))
   first|rfl|exact hap|exact AW (by rw [hap,AB])|(rw [hap];rfl)
  first|rfl|exact hap|exact AW (by rw [hap,AB])|(rw [hap];rfl)
 intro (k:Nat) hki13
 have hki13:k<=(CC b).length:=hki13
 refine ⟨λ c20=>?_,λ c20=>?_⟩
 ·try simp only [nrm] at c20
  have hkl:k<(CC b).length:=by omega
  have hv:AE ((CC b).getD k (0,0))=true:=AY Q.vec hkl
  have hb:=A4 hv
  have hvl:=AB (CC b)
  have hg:(ptV ((CC b).getD k (0,0))).good=true:=RG (l:=CC b) Q.vec hkl
  refine ao (by first|rfl|omega|(rw [AB,AB];omega)|(rw [AB];omega)) λ o21=>?_
  refine ao (by first|rfl|omega|(rw [AB,AB];omega)|(rw [AB];omega)) λ o22=>?_
  refine ⟨(((((AA (CC b)).getD k []).getD 0 (.int 0))).n,((((AA (CC b)).getD k []).getD 1 (.int 0))).n),by
   first|(rw [AL hkl,AM hkl];rfl)|(rw [hap];rfl)|rfl,by
   try dsimp only [A9]
   rw [AL hkl,AM hkl];omega,?_⟩
  refine ⟨(hH b,ptQ (ptV ((CC b).getD k (0,0)))),by
   first|(rw [AL hkl,AM hkl];rfl)|(rw [hap];rfl)|rfl,by
   show (ptQ (ptV ((CC b).getD k (0,0)))).has
   exact Uc _,?_⟩
  refine ⟨λ c29=>?_,λ c29=>?_⟩
  ·try simp only [nrm] at c29
   rw [WE Q.poly hg] at c29;exact absurd c29 (Int.not_lt.2 (Q.con k hkl)) -- done
  try simp only [nrm] at c29
  refine ⟨k+1,by
   first|omega|trivial,by
   first|omega|(simp;omega),?_⟩
  refine ⟨rfl,?_,?_,rfl,rfl⟩
  ·first|rfl|exact AW (AD (by omega) (by omega))
  first|rfl|exact AW (AD (by omega) (by omega))
 try simp only [nrm] at c20
 refine ⟨(hH b),by
  first|(rw [AL hkl,AM hkl];rfl)|(rw [hap];rfl)|rfl,by
  exact trivial,?_⟩
 refine And.symm ⟨λ c42=>?_,λ c42=>?_⟩
 ·try simp only [nrm] at c42
  rw [Q.poly] at c42;cases c42 -- done
 try simp only [nrm] at c42
 refine ⟨(hH b),by
  first|(rw [AL hkl,AM hkl];rfl)|(rw [hap];rfl)|rfl,by
  show (hH b).length<=1048576
  have:=Q.len;omega,?_⟩
 refine ⟨((Ak (hH b)),(hH b)),by
  first|(rw [AL hkl,AM hkl];rfl)|(rw [hap];rfl)|rfl,by
  show (Ak (hH b)).length<=1024/\(hH b).length<=1024
  exact ⟨by have:=Q.len;omega,by have:=Q.len;omega⟩,?_⟩
 refine And.symm ⟨λ c49=>?_,λ c49=>?_⟩
 ·try simp only [nrm] at c49
  rw [Q.same] at c49;cases c49 -- done
 try simp only [nrm] at c49
 refine ⟨(hH b),by
  first|(rw [AL hkl,AM hkl];rfl)|(rw [hap];rfl)|rfl,by
  exact trivial,?_⟩
 refine ⟨(b,0),by
  first|(rw [AL hkl,AM hkl];rfl)|(rw [hap];rfl)|rfl,by
  show b.length<=1048576/\0<=100
  exact ⟨hlen,by omega⟩,?_⟩
 refine ⟨(drP b 5 (Ac b (7*0))).1,by
  first|(rw [AL hkl,AM hkl];rfl)|(rw [hap];rfl)|rfl,by
  exact trivial,?_⟩
 refine And.symm ⟨λ c59=>?_,λ c59=>?_⟩
 ·try simp only [nrm] at c59
  exact absurd Q.area (Int.not_le.2 c59) -- done
 try simp only [nrm] at c59
 refine ⟨(hH b),by
  first|(rw [AL hkl,AM hkl];rfl)|(rw [hap];rfl)|rfl,by
  exact trivial,?_⟩
 exact congrArg Value.bool (decide_eq_true Q.pos)
end Go.Proofs.Ytndnhlhnjiopfaa
