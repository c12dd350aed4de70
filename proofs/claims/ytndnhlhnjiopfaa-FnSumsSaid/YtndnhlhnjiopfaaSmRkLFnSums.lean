import Derived.Test.YtndnhlhnjiopfaaSmDrs
namespace Go.Proofs.Ytndnhlhnjiopfaa
set_option linter.unusedVariables false
set_option linter.unusedSimpArgs false
open Go.RowKit
def hA (b:List UInt8) (n:Nat):List V2:=(drP b 5 (AS b (7*n))).1
def hS (b:List UInt8):List V2:=BZ (hA b 0) (hA b 1)
def OG:Con:={ ι:=(List UInt8),pre:=λ i=>True,args:=λ i=>[.one (.ro (.bytes i))],res:=λ i=>⟨false,[none],[rcB true]⟩ }
set_option maxRecDepth 100000 in
set_option maxHeartbeats 2000000 in
theorem PY:OG.Ok Try.prog 4:=by
 refine fok (X:=⟨tt,[(5,CR),(12,EI),(9,AZ),(10,Fy),(8,BC),(7,CV),(11,B5)],[],68,[]⟩) mixed AR (CTok.cons Rr (CTok.cons VG (CTok.cons Ec (CTok.cons UL (CTok.cons IQ (CTok.cons MH (CTok.cons UM (CTok.nil _)))))))) Try.func4 (λ (i:(List UInt8))=>let Z1:=AA (hA i 0);[(9,.mk 4 (Nat) (λ x1=>{ tm:=[(3,tX 1),(31,tX 1),(4,tX 2),(5,tX 3),(32,tI (nI ((hA i 0).length))),(33,tI (x1:Int))],en:=[(1,.own 27 [.int,.int] Z1),(2,.own 27 [.int,.int] (AA (hA i 1))),(3,.own 27 [.int,.int] (AA (hS i)))] }) (λ x1=>x1<=(hA i 0).length) (λ x1=>(hA i 0).length-x1) (λ x1=>[(12,.mk 5 (Nat) (λ x2=>{ tm:=[(3,tX 1),(31,tX 1),(4,tX 2),(5,tX 3),(7,tP 4 0),(32,tI (nI ((hA i 0).length))),(33,tI (x1:Int)),(37,tX 2),(38,tI (nI ((hA i 1).length))),(39,tI (x2:Int))],en:=[(4,.box [kI ((((Z1.getD x1 []).getD 0 (.int 0))).n),kI ((((Z1.getD x1 []).getD 1 (.int 0))).n)]),(1,.own 27 [.int,.int] Z1),(2,.own 27 [.int,.int] (AA (hA i 1))),(3,.own 27 [.int,.int] (AA (hS i)))] }) (λ x2=>x2<=(hA i 1).length) (λ x2=>(hA i 1).length-x2) (λ _=>[]))]))]) ?_
 intro (b:List UInt8) hpre
 have hpre:True:=hpre
 refine AQ (q:=let Z11:=nI ((hA b 1).length);let Z10:=(vB false=vB true);let Z8:=AA (hS b);let Z14:=DC.sl 27 [.int,.int] Z8;let Z4:=nI ((hA b 0).length);let Z2:=AA (hA b 1);let Z1:=AA (hA b 0);ifB ((decide ((nI b.length)>(1048576:Int)))) ((vB true=vB true)) (∃ i1:(List UInt8)×Nat,let Z3:=drP i1.1 5 (AS i1.1 (7*i1.2));let Z13:=DC.sl 27 [.int,.int] (AA Z3.1);[DA.one (DC.ro (.bytes b)),DA.one (cI (0:Int))]=CR.args i1/\CR.pre i1/\(∃ i2:(List UInt8)×Nat,let Z12:=drP i2.1 5 (AS i2.1 (7*i2.2));let Z5:=DC.sl 27 [.int,.int] (AA Z12.1);[DA.one (DC.ro (.bytes b)),DA.one (cI (1:Int))]=CR.args i2/\CR.pre i2/\(∃ i3:(List V2)×(List V2),let Z9:=DC.sl 27 [.int,.int] (AA (BZ i3.1 i3.2));[DA.one Z13,DA.one Z5]=EI.args i3/\EI.pre i3/\(∃ i4:(List V2),[DA.one Z9]=AZ.args i4/\AZ.pre i4/\(ifB ((!(!(AI i4)))) (∃ i5:(List V2)×(List V2),[DA.one Z5,DA.one Z13]=EI.args i5/\EI.pre i5/\(∃ i6:(List V2)×(List V2),[DA.one Z9,DA.one (DC.sl 27 [.int,.int] (AA (BZ i5.1 i5.2)))]=Fy.args i6/\Fy.pre i6/\(ifB ((!(CF i6.1 i6.2))) Z10 ((∃ x1:Nat,(x1<=(hA b 0).length)/\((vI (nI ((AA Z3.1).length))=vI Z4)/\(vI (0:Int)=vI (x1:Int))/\(AA Z3.1=Z1)/\(AA Z12.1=Z2)/\(AA (BZ i3.1 i3.2)=Z8)))/\∀ x1:Nat,let Z7:=((Z1.getD x1 []).getD 1 (.int 0));let Z6:=((Z1.getD x1 []).getD 0 (.int 0));(x1<=(hA b 0).length)->(ifB ((decide ((x1:Int)<Z4))) ((0<=(x1:Int)/\(x1:Int)<(Z1.length:Int))/\((x1<Z1.length)/\((∃ x2:Nat,(x2<=(hA b 1).length)/\((rf (vI Z4))/\(rf (vI (x1:Int)))/\(vI (nI (Z2.length))=vI Z11)/\(vI (0:Int)=vI (x2:Int))/\(rf (vI Z6.n))/\(rf (vI Z7.n))/\(rf Z1)/\(rf Z2)/\(rf Z8)))/\∀ x2:Nat,(x2<=(hA b 1).length)->(ifB ((decide ((x2:Int)<Z11))) ((0<=(x2:Int)/\(x2:Int)<(Z2.length:Int))/\((x2<Z2.length)/\(∃ i7:Int×Int,let Z16:=Fr.ofInt i7.2;let Z15:=Fr.ofInt i7.1;[DA.agg [cI (wR (Z6.n+(((Z2.getD x2 []).getD 0 (.int 0))).n)),cI (wR (Z7.n+(((Z2.getD x2 []).getD 1 (.int 0))).n))]]=BC.args i7/\BC.pre i7/\(∃ i8:(List V2)×PtD,[DA.one Z14,DA.agg [cB (decide (Z15.z<0)),cS (L Z15.z.natAbs),cS (L Z15.d),cB (decide (Z16.z<0)),cS (L Z16.z.natAbs),cS (L Z16.d)]]=CV.args i8/\CV.pre i8/\(ifB ((decide ((cpZ i8.1 i8.2)<(0:Int)))) Z10 (∃ y3:Nat,(y3<=(hA b 1).length)/\((hA b 1).length-y3<(hA b 1).length-x2)/\((rf (vI Z4))/\(rf (vI (x1:Int)))/\(rf (vI Z11))/\(vI (wR ((x2:Int)+(1:Int)))=vI (y3:Int))/\(rf (vI Z6.n))/\(rf (vI Z7.n))/\(rf Z1)/\(rf Z2)/\(rf Z8)))))))) (∃ y4:Nat,(y4<=(hA b 0).length)/\((hA b 0).length-y4<(hA b 0).length-x1)/\((rf (vI Z4))/\(vI (wR ((x1:Int)+(1:Int)))=vI (y4:Int))/\(rf Z1)/\(rf Z2)/\(rf Z8))))))) (∃ i9:(List V2),[DA.one Z14]=B5.args i9/\B5.pre i9/\(∃ i10:(List V2),[DA.one (DC.sl 27 [.int,.int] Z1)]=B5.args i10/\B5.pre i10/\(∃ i11:(List V2),[DA.one (DC.sl 27 [.int,.int] Z2)]=B5.args i11/\B5.pre i11/\((vB (decide ((DQ i9)≥(wR ((DQ i10)+(DQ i11)))))=vB true)))))))))) Z10)))))) (by kernel_rfl) ?_
 conv=>zeta
 delta ifB vB vI wR nI
 refine ⟨λ c1=>?_,λ c1=>?_⟩
 ·try simp only [nrm] at c1
  exact rfl
 try simp only [nrm] at c1
 have hlen:b.length<=1048576:=by omega
 obtain ⟨p,Hp,p5⟩:=OF (b:=b) (z:=5) (by omega) (by omega) (AS b (7*0))
 obtain ⟨p',Hp',p5'⟩:=OF (b:=b) (z:=5) (by omega) (by omega) (AS b (7*1))
 have q1:=PU (b:=b) (z:=5) (by omega) (AS b (7*0))
 have q2:=PU (b:=b) (z:=5) (by omega) (AS b (7*1))
 have Q:SumsLaw (hA b 0) (hA b 1):=UO q1.1 q2.1 (by show (drP b 5 (AS b (7*0))).1.length<=8;omega) (by show (drP b 5 (AS b (7*1))).1.length<=8;omega) (λ i j hi hj=>OD (z:=10) (by omega) (by have:=q1.2.2 _ (FM hi);have:=q2.2.2 _ (FM hj);simp only [Ab,hA];omega)) Hp Hp'
 have hvl0:=AB (hA b 0)
 have hvl1:=AB (hA b 1)
 have Qp:AI (hS b)=true:=Q.poly
 have l0:(hA b 0).length<=5:=p5
 have l1:(hA b 1).length<=5:=p5'
 refine ⟨(b,0),by
  first|(rw [AJ hkl,AK hkl,AJ hjl,AK hjl,hx,hy];rfl)|rfl,by
  show b.length<=1048576/\0<=100
  exact ⟨hlen,by omega⟩,?_⟩
 refine ⟨(b,1),by
  first|(rw [AJ hkl,AK hkl,AJ hjl,AK hjl,hx,hy];rfl)|rfl,by
  show b.length<=1048576/\1<=100
  exact ⟨hlen,by omega⟩,?_⟩
 refine ⟨((drP b 5 (AS b (7*0))).1,(drP b 5 (AS b (7*1))).1),by
  first|(rw [AJ hkl,AK hkl,AJ hjl,AK hjl,hx,hy];rfl)|rfl,by
  show ((drP b 5 (AS b (7*0))).1).length<=1048576/\((drP b 5 (AS b (7*1))).1).length<=1048576
  omega,?_⟩
 refine ⟨(BZ ((drP b 5 (AS b (7*0))).1) ((drP b 5 (AS b (7*1))).1)),by
  first|(rw [AJ hkl,AK hkl,AJ hjl,AK hjl,hx,hy];rfl)|rfl,by
  trivial,?_⟩
 refine And.symm ⟨λ c15=>?_,λ c15=>?_⟩
 ·try simp only [nrm] at c15
  rw [show BZ (drP b 5 (AS b (7*0))).1 (drP b 5 (AS b (7*1))).1=hS b from rfl,Qp] at c15;cases c15 -- done
 try simp only [nrm] at c15
 refine ⟨((drP b 5 (AS b (7*1))).1,(drP b 5 (AS b (7*0))).1),by
  first|(rw [AJ hkl,AK hkl,AJ hjl,AK hjl,hx,hy];rfl)|rfl,by
  show ((drP b 5 (AS b (7*1))).1).length<=1048576/\((drP b 5 (AS b (7*0))).1).length<=1048576
  omega,?_⟩
 refine ⟨((BZ ((drP b 5 (AS b (7*0))).1) ((drP b 5 (AS b (7*1))).1)),(BZ ((drP b 5 (AS b (7*1))).1) ((drP b 5 (AS b (7*0))).1))),by
  first|(rw [AJ hkl,AK hkl,AJ hjl,AK hjl,hx,hy];rfl)|rfl,by
  show (BZ ((drP b 5 (AS b (7*0))).1) ((drP b 5 (AS b (7*1))).1)).length<=1024/\(BZ ((drP b 5 (AS b (7*1))).1) ((drP b 5 (AS b (7*0))).1)).length<=1024
  have:=Q.len;simp only [hA] at this;omega,?_⟩
 refine ⟨λ c22=>?_,λ c22=>?_⟩
 ·try simp only [nrm] at c22
  rw [show CF (BZ (drP b 5 (AS b (7*0))).1 (drP b 5 (AS b (7*1))).1) (BZ (drP b 5 (AS b (7*1))).1 (drP b 5 (AS b (7*0))).1)=true from Q.same] at c22;cases c22 -- done
 try simp only [nrm] at c22
 refine ⟨⟨0,by
  first|omega|trivial,?_⟩,?_⟩
 ·refine ⟨?_,rfl,?_,?_,?_⟩
  ·show Value.int .i64 (((AA (drP b 5 (AS b (7*0))).1).length:Nat):Int)=Value.int .i64 (((hA b 0).length:Nat):Int)
   first|rfl|exact AX (by rw [AB];rfl)
  ·show AA (drP b 5 (AS b (7*0))).1=(AA (hA b 0))
   first|rfl|exact AX (by rw [AB];rfl)
  ·show AA (drP b 5 (AS b (7*1))).1=(AA (hA b 1))
   first|rfl|exact AX (by rw [AB];rfl)
  show AA (BZ ((drP b 5 (AS b (7*0))).1) ((drP b 5 (AS b (7*1))).1))=(AA (hS b))
  first|rfl|exact AX (by rw [AB];rfl)
 intro (k:Nat) hki24
 have hki24:k<=(hA b 0).length:=hki24
 refine And.symm ⟨λ c31=>?_,λ c31=>?_⟩
 ·try simp only [nrm] at c31
  refine ⟨(hS b),by
   first|(rw [AJ hkl,AK hkl,AJ hjl,AK hjl,hx,hy];rfl)|rfl,by
   exact trivial,?_⟩
  refine ⟨(hA b 0),by
   first|(rw [AJ hkl,AK hkl,AJ hjl,AK hjl,hx,hy];rfl)|rfl,by
   exact trivial,?_⟩
  refine ⟨(hA b 1),by
   first|(rw [AJ hkl,AK hkl,AJ hjl,AK hjl,hx,hy];rfl)|rfl,by
   exact trivial,?_⟩
  exact congrArg Value.bool (decide_eq_true (by rw [AC (by have:=Q.bd;omega) (by have:=Q.bd;omega)];exact Q.area))
 try simp only [nrm] at c31
 refine ao (by first|rfl|omega) λ o32=>?_
 refine ao (by first|rfl|omega) λ o33=>?_
 refine ⟨⟨0,by
  first|omega|trivial,?_⟩,?_⟩
 ·refine ⟨rfl,rfl,?_,rfl,rfl,rfl,rfl,rfl,rfl⟩
  first|rfl|exact AX (by rw [hvl1])
 intro (j:Nat) hki34
 have hki34:j<=(hA b 1).length:=hki34
 refine And.symm ⟨λ c45=>?_,λ c45=>?_⟩
 ·try simp only [nrm] at c45
  refine ⟨k+1,by
   first|omega|trivial,by
   first|omega|(simp;omega),?_⟩
  refine ⟨rfl,?_,rfl,rfl,rfl⟩
  first|rfl|exact AX (AC (by omega) (by omega))
 try simp only [nrm] at c45
 have hkl:k<(hA b 0).length:=by omega
 have hjl:j<(hA b 1).length:=by omega
 have hv:AE (Ab ((hA b 0).getD k (0,0)) ((hA b 1).getD j (0,0)))=true:=Q.near k j hkl hjl
 have hb:=A0 hv
 have hg:(ptV (Ab ((hA b 0).getD k (0,0)) ((hA b 1).getD j (0,0)))).good=true:=Rf (l:=[Ab ((hA b 0).getD k (0,0)) ((hA b 1).getD j (0,0))]) (k:=0) (by rw [List.all_cons,hv];rfl) (by simp)
 have hx:IntKind.i64.wrap (((hA b 0).getD k (0,0)).1+((hA b 1).getD j (0,0)).1)=(Ab ((hA b 0).getD k (0,0)) ((hA b 1).getD j (0,0))).1:=by simp only [Ab] at hb ⊢;exact AC (by omega) (by omega)
 have hy:IntKind.i64.wrap (((hA b 0).getD k (0,0)).2+((hA b 1).getD j (0,0)).2)=(Ab ((hA b 0).getD k (0,0)) ((hA b 1).getD j (0,0))).2:=by simp only [Ab] at hb ⊢;exact AC (by omega) (by omega)
 refine ao (by first|rfl|omega) λ o46=>?_
 refine ao (by first|rfl|omega) λ o47=>?_
 refine ⟨((IntKind.i64.wrap (((((AA (hA b 0)).getD k []).getD 0 (.int 0))).n+((((AA (hA b 1)).getD j []).getD 0 (.int 0))).n)),(IntKind.i64.wrap (((((AA (hA b 0)).getD k []).getD 1 (.int 0))).n+((((AA (hA b 1)).getD j []).getD 1 (.int 0))).n))),by
  first|(rw [AJ hkl,AK hkl,AJ hjl,AK hjl,hx,hy];rfl)|rfl,by
  try dsimp only [BC]
  rw [AJ hkl,AK hkl,AJ hjl,AK hjl,hx,hy];omega,?_⟩
 refine ⟨(hS b,ptQ (ptV (Ab ((hA b 0).getD k (0,0)) ((hA b 1).getD j (0,0))))),by
  first|(rw [AJ hkl,AK hkl,AJ hjl,AK hjl,hx,hy];rfl)|rfl,by
  show (ptQ (ptV (Ab ((hA b 0).getD k (0,0)) ((hA b 1).getD j (0,0))))).has
  exact U6 _,?_⟩
 refine ⟨λ c54=>?_,λ c54=>?_⟩
 ·try simp only [nrm] at c54
  rw [Wn Qp hg] at c54;exact absurd c54 (Int.not_lt.2 (Q.con k j hkl hjl)) -- done
 try simp only [nrm] at c54
 refine ⟨j+1,by
  first|omega|trivial,by
  first|omega|(simp;omega),?_⟩
 refine ⟨rfl,rfl,rfl,?_,rfl,rfl,rfl,rfl,rfl⟩
 first|rfl|exact AX (AC (by omega) (by omega))
end Go.Proofs.Ytndnhlhnjiopfaa
