import Derived.Test.YtkffpiaagjcmpaaGreatFrHuw
import Derived.Test.YtkffpiaagjcmpaaGreatFrHulS
import Derived.Test.YtkffpiaagjcmpaaGreatFrScA
import Derived.Test.YtkffpiaagjcmpaaGreatFrScW
import Derived.Test.YtkffpiaagjcmpaaGreatFrHus
namespace Go.Proofs.YtkffpiaagjcmpaaGreat
set_option maxRecDepth 100000
set_option linter.unusedVariables false
set_option linter.unusedSimpArgs false
open Go.RowKit Go.Sort Go.Shelf
def Cg:Con:={ ι:=Int×Int×Int×Int×Int×Int,pre:=λ i=>AD (i.1,i.2.1)=true/\AD (i.2.2.1,i.2.2.2.1)=true/\AD (i.2.2.2.2.1,i.2.2.2.2.2)=true,args:=λ i=>[DA.agg [cI i.1,cI i.2.1],DA.agg [cI i.2.2.1,cI i.2.2.2.1],DA.agg [cI i.2.2.2.2.1,cI i.2.2.2.2.2]],res:=λ i=>⟨false,[none],[rcI (AF (i.1,i.2.1) (i.2.2.1,i.2.2.2.1) (i.2.2.2.2.1,i.2.2.2.2.2))]⟩ }
theorem Q3:Cg.Ok Tryz.prog 41:=Bv rfl ⟨_,Tryz.func41,by decide,rfl⟩ (λ _=>Nat.le_of_ble_eq_true rfl) (λ _=>rfl) (λ i=>[.im (.int .i64 (AF (i.1,i.2.1) (i.2.2.1,i.2.2.2.1) (i.2.2.2.2.1,i.2.2.2.2.2)))]) (λ _=>rfl) (λ _=>rfl) (λ i hp w us h=>by
 obtain ⟨a1,a2,b1,b2,c1,c2⟩:=i
 have h:RdRow w [.int,.int,.int,.int,.int,.int] [.int a1,.int a2,.int b1,.int b2,.int c1,.int c2] us:=h
 obtain ⟨x1,_,rfl,q1,h⟩:=RdRow.cons2 h
 obtain ⟨x2,_,rfl,q2,h⟩:=RdRow.cons2 h
 obtain ⟨x3,_,rfl,q3,h⟩:=RdRow.cons2 h
 obtain ⟨x4,_,rfl,q4,h⟩:=RdRow.cons2 h
 obtain ⟨x5,_,rfl,q5,h⟩:=RdRow.cons2 h
 obtain ⟨x6,_,rfl,q6,h⟩:=RdRow.cons2 h
 obtain ⟨-,rfl⟩:=RdRow.nil_inv h
 obtain rfl:=Rd.int2 q1
 obtain rfl:=Rd.int2 q2
 obtain rfl:=Rd.int2 q3
 obtain rfl:=Rd.int2 q4
 obtain rfl:=Rd.int2 q5
 obtain rfl:=Rd.int2 q6
 refine (XS a1 a2 b1 b2 c1 c2 hp.1 hp.2.1 hp.2.2 w).mono ?_
 rintro e w' ⟨rfl,hb⟩
 exact ⟨[Value.int .i64 (AF (a1,a2) (b1,b2) (c1,c2))],rfl,Own.leaf (Fp.mk_int _),hb⟩)
def FE:Con:={ ι:=Int×Int×Int×Int×Int×Int,pre:=λ i=>AD (i.1,i.2.1)=true/\AD (i.2.2.1,i.2.2.2.1)=true/\AD (i.2.2.2.2.1,i.2.2.2.2.2)=true,args:=λ i=>[DA.agg [cI i.1,cI i.2.1],DA.agg [cI i.2.2.1,cI i.2.2.2.1],DA.agg [cI i.2.2.2.2.1,cI i.2.2.2.2.2]],res:=λ i=>⟨false,[none],[rcI (AF (i.1,i.2.1) (i.2.2.1,i.2.2.2.1) (i.2.2.2.2.1,i.2.2.2.2.2))]⟩ }
theorem X9:FE.Ok Tryz.prog 162:=Bv rfl ⟨_,Tryz.func162,by decide,rfl⟩ (λ _=>Nat.le_of_ble_eq_true rfl) (λ _=>rfl) (λ i=>[.im (.int .i64 (AF (i.1,i.2.1) (i.2.2.1,i.2.2.2.1) (i.2.2.2.2.1,i.2.2.2.2.2)))]) (λ _=>rfl) (λ _=>rfl) (λ i hp w us h=>by
 obtain ⟨a1,a2,b1,b2,c1,c2⟩:=i
 have h:RdRow w [.int,.int,.int,.int,.int,.int] [.int a1,.int a2,.int b1,.int b2,.int c1,.int c2] us:=h
 obtain ⟨x1,_,rfl,q1,h⟩:=RdRow.cons2 h
 obtain ⟨x2,_,rfl,q2,h⟩:=RdRow.cons2 h
 obtain ⟨x3,_,rfl,q3,h⟩:=RdRow.cons2 h
 obtain ⟨x4,_,rfl,q4,h⟩:=RdRow.cons2 h
 obtain ⟨x5,_,rfl,q5,h⟩:=RdRow.cons2 h
 obtain ⟨x6,_,rfl,q6,h⟩:=RdRow.cons2 h
 obtain ⟨-,rfl⟩:=RdRow.nil_inv h
 obtain rfl:=Rd.int2 q1
 obtain rfl:=Rd.int2 q2
 obtain rfl:=Rd.int2 q3
 obtain rfl:=Rd.int2 q4
 obtain rfl:=Rd.int2 q5
 obtain rfl:=Rd.int2 q6
 refine (XT a1 a2 b1 b2 c1 c2 hp.1 hp.2.1 hp.2.2 w).mono ?_
 rintro e w' ⟨rfl,hb⟩
 exact ⟨[Value.int .i64 (AF (a1,a2) (b1,b2) (c1,c2))],rfl,Own.leaf (Fp.mk_int _),hb⟩)
def EX:Con:={ ι:=Int×Int×Int×Int,pre:=λ i=>True,args:=λ i=>[DA.agg [cI i.1,cI i.2.1],DA.agg [cI i.2.2.1,cI i.2.2.2]],res:=λ i=>⟨false,[none],[rcB (AV (i.1,i.2.1) (i.2.2.1,i.2.2.2))]⟩ }
theorem S9:EX.Ok Tryz.prog 159:=by
 refine fok (X:=⟨tt,[],[],24,[]⟩) mixed AN (CTok.nil _) Tryz.func159 (λ _=>[]) ?_
 rintro ⟨a1,a2,b1,b2⟩ hpre
 have hpre:True:=hpre
 refine AM (q:=let Z1:=AV (a1,a2) (b1,b2);ifB ((!(decide (a1<b1)))) (ifB ((a1 == b1)) ((vB (decide (a2<b2))=vB Z1)) ((vB false=vB Z1))) ((vB true=vB Z1))) (by kernel_rfl) ?_
 conv=>zeta
 delta ifB vB
 refine And.symm ⟨λ c1=>?_,λ c1=>?_⟩
 ·try simp only [nrm] at c1
  exact congrArg Value.bool (by unfold AV;simp_all)
 try simp only [nrm] at c1
 refine ⟨λ c2=>?_,λ c2=>?_⟩
 ·try simp only [nrm] at c2
  exact congrArg Value.bool (by unfold AV;simp_all)
 try simp only [nrm] at c2
 exact congrArg Value.bool (by unfold AV;simp_all)
def C2:Con:={ ι:=(List V2),pre:=λ i=>i.all AD=true/\0<i.length/\i.length<=64,args:=λ i=>[.one (DC.sl 24 [.int,.int] (AA i))],res:=λ i=>⟨false,[none],[.own 24 [.int,.int] (AA (At i))]⟩ }
theorem Vq:C2.Ok Tryz.prog 179:=by
 refine fok (X:=⟨tt,[(41,Cg)],[37,47],48,[]⟩) mixed AN (CTok.cons Q3 (CTok.nil _)) Tryz.func179 (λ (i:(List V2))=>[(3,.mk 3 (Nat) (λ x1=>{ tm:=[(7,tX 1),(8,tI (nI ((AA i).length))),(9,tI (nI x1)),(3,tX 2)],en:=[(1,.view 24 [.int,.int] (AA i) []),(2,.own 24 [.int,.int] (AA (chT i x1)))] }) (λ x1=>x1<=i.length) (λ x1=>i.length-x1) (λ x1=>[(5,.mk 4 ((List V2)) (λ x2=>{ tm:=[(7,tX 1),(8,tI (nI ((AA i).length))),(9,tI (nI x1)),(5,tP 2 0),(3,tX 3)],en:=[(2,.box [kI (((((AA i).getD x1 []).getD 0 (.int 0))).n),kI (((((AA i).getD x1 []).getD 1 (.int 0))).n)]),(1,.view 24 [.int,.int] (AA i) []),(3,.own 24 [.int,.int] (AA x2))] }) (λ x2=>Bn x2 (i.getD x1 (0,0))=Bn (chT i x1) (i.getD x1 (0,0))/\x2.length<=x1/\x2.all AD=true) (λ x2=>x2.length) (λ _=>[]))]))]) ?_
 intro (l:List V2) hpre
 have hpre:l.all AD=true/\0<l.length/\l.length<=64:=hpre
 refine AM (q:=let Z6:=vI (nI ((AA l).length));(∃ x1:Nat,(x1<=l.length)/\((rf Z6)/\(vI (0:Int)=vI (nI x1))/\(rf (AA l))/\(([]:List (List Dat))=(AA (chT l x1)))))/\∀ x1:Nat,let Z16:=wR ((nI x1)+(1:Int));let Z15:=chT l x1;let Z12:=AA Z15;let Z11:=l.getD x1 (0,0);let Z7:=wR ((nI (Z12.length))-(1:Int));let Z2:=(AA l).getD x1 [];let Z10:=(Z2.getD 1 (.int 0));let Z9:=(Z2.getD 0 (.int 0));(x1<=l.length)->(ifB ((decide ((nI x1)<(nI ((AA l).length))))) ((0<=(nI x1)/\(nI x1)<((AA l).length:Int))/\((x1<(AA l).length)/\((∃ x2:(List V2),(Bn x2 Z11=Bn Z15 Z11/\x2.length<=x1/\x2.all AD=true)/\((rf Z6)/\(rf (vI (nI x1)))/\(rf (vI Z9.n))/\(rf (vI Z10.n))/\(rf (AA l))/\(Z12=(AA x2))))/\∀ x2:(List V2),let Z8:=AA x2;let Z14:=nI (Z8.length);let Z13:=(Z8.length:Int);let Z5:=Z8++([[Dat.int (Z9.n),Dat.int (Z10.n)]]:List (List Dat));let Z4:=Z8.length+([[Dat.int (Z9.n),Dat.int (Z10.n)]]:List (List Dat)).length<=2199023255552;let Z3:=wR (Z14-(2:Int));let Z1:=wR (Z14-(1:Int));(Bn x2 Z11=Bn Z15 Z11/\x2.length<=x1/\x2.all AD=true)->(ifB ((decide (Z14>(1:Int)))) ((0<=Z3/\Z3<Z13)/\((Z3.toNat<Z8.length)/\((0<=Z1/\Z1<Z13)/\((Z1.toNat<Z8.length)/\(∃ i1:Int×Int×Int×Int×Int×Int,[DA.agg [cI ((((Z8.getD (Z3.toNat) []).getD 0 (.int 0))).n),cI ((((Z8.getD (Z3.toNat) []).getD 1 (.int 0))).n)],DA.agg [cI ((((Z8.getD (Z1.toNat) []).getD 0 (.int 0))).n),cI ((((Z8.getD (Z1.toNat) []).getD 1 (.int 0))).n)],DA.agg [cI (Z9.n),cI (Z10.n)]]=Cg.args i1/\Cg.pre i1/\(ifB ((decide ((AF (i1.1,i1.2.1) (i1.2.2.1,i1.2.2.2.1) (i1.2.2.2.2.1,i1.2.2.2.2.2))<=(0:Int)))) ((Nat.beq 2 2=true)/\(((0:Int)=0)/\((0<=Z1)/\((Z1<=Z13)/\(∃ y3:(List V2),(Bn y3 Z11=Bn Z15 Z11/\y3.length<=x1/\y3.all AD=true)/\(y3.length<x2.length)/\((rf Z6)/\(rf (vI (nI x1)))/\(rf (vI Z9.n))/\(rf (vI Z10.n))/\(rf (AA l))/\((Z8.take (Z1.toNat))=(AA y3)))))))) (Z4/\(∃ y4:Nat,(y4<=l.length)/\(l.length-y4<l.length-x1)/\((rf Z6)/\(vI Z16=vI (nI y4))/\(rf (AA l))/\(Z5=(AA (chT l y4)))))))))))) (Z4/\(∃ y5:Nat,(y5<=l.length)/\(l.length-y5<l.length-x1)/\((rf Z6)/\(vI Z16=vI (nI y5))/\(rf (AA l))/\(Z5=(AA (chT l y5)))))))))) ((Nat.beq 2 2=true)/\(((0:Int)=0)/\((0<=Z7)/\((Z7<=(Z12.length:Int))/\(((Z12.take (Z7.toNat))=AA (At l))))))))) (by kernel_rfl) ?_
 conv=>zeta
 delta ifB vI wR nI
 have hvl:=AC l
 refine ⟨⟨0,by
  omega,?_⟩,?_⟩
 ·refine ⟨rfl,?_,rfl,?_⟩
  ·rfl
  rfl
 intro (k:Nat) hki1
 have hki1:k<=l.length:=hki1
 refine And.symm ⟨λ c7=>?_,λ c7=>?_⟩
 ·try simp only [nrm] at c7
  have hk:l.length=k:=by omega
  have hcb:=I8 hpre.1 k (by omega)
  have hp:0<(chT l k).length:=by obtain ⟨m,rfl⟩:∃ m,k=m+1:=⟨k-1,by omega⟩;exact TU l m
  have hvc:=AC (chT l k)
  have hw3:IntKind.i64.wrap ((((AA (chT l k)).length:Nat):Int)-(1:Int))=(((chT l k).length-1:Nat):Int):=by rw [hvc,AE (by omega) (by omega)];omega
  refine ao (by rfl) λ o56=>?_
  refine ao (by rfl) λ o57=>?_
  refine ao (by omega) λ o58=>?_
  refine ao (by omega) λ o59=>?_
  rw [hw3,Int.toNat_natCast];show _=AA (KS (chT l l.length));rw [hk];simp [AA,KS,List.map_take]
 try simp only [nrm] at c7
 have hkl:k<l.length:=by omega
 have hV:=Ak hpre.1 hkl
 have hcb:=I8 hpre.1 k (by omega)
 refine ao (by omega) λ o8=>?_
 refine ao (by omega) λ o9=>?_
 refine ⟨⟨chT l k,by
  exact ⟨rfl,hcb.1,hcb.2⟩,?_⟩,?_⟩
 ·exact ⟨rfl,rfl,rfl,rfl,rfl,rfl⟩
 intro (o:List V2) hki10
 have hki10:Bn o (l.getD k (0,0))=Bn (chT l k) (l.getD k (0,0))/\o.length<=k/\o.all AD=true:=hki10
 have hvo:=AC o
 refine And.symm ⟨λ c18=>?_,λ c18=>?_⟩
 ·try simp only [nrm] at c18
  have hn:Bn o (l.getD k (0,0))=o:=CN (λ h=>by omega)
  refine ao (by simp only [AC,List.length_cons,List.length_nil];omega) λ o48=>?_
  refine ⟨k+1,by
   trivial,by
   omega,?_⟩
  refine ⟨rfl,?_,rfl,?_⟩
  ·exact AR (AE (by omega) (by omega))
  rw [Ai hkl,Aj hkl,← IL hki10.1 hn];simp [AA,Hd]
 try simp only [nrm] at c18
 have ho:1<o.length:=by omega
 have hw2:IntKind.i64.wrap ((((AA o).length:Nat):Int)-(2:Int))=((o.length-2:Nat):Int):=by rw [hvo,AE (by omega) (by omega)];omega
 have hw1:IntKind.i64.wrap ((((AA o).length:Nat):Int)-(1:Int))=((o.length-1:Nat):Int):=by rw [hvo,AE (by omega) (by omega)];omega
 refine ao (by omega) λ o19=>?_
 refine ao (by omega) λ o20=>?_
 refine ao (by omega) λ o21=>?_
 refine ao (by omega) λ o22=>?_
 refine ⟨((o.getD (o.length-2) (0,0)).1,(o.getD (o.length-2) (0,0)).2,(o.getD (o.length-1) (0,0)).1,(o.getD (o.length-1) (0,0)).2,(l.getD k (0,0)).1,(l.getD k (0,0)).2),by
  rw [hw2,hw1,Int.toNat_natCast,Int.toNat_natCast,Ai (show o.length-2<o.length by omega),Aj (show o.length-2<o.length by omega),Ai (show o.length-1<o.length by omega),Aj (show o.length-1<o.length by omega),Ai hkl,Aj hkl];rfl,by
  try dsimp only [Cg]
  exact ⟨Ak hki10.2.2 (show o.length-2<o.length by omega),Ak hki10.2.2 (show o.length-1<o.length by omega),hV⟩,?_⟩
 refine And.symm ⟨λ c26=>?_,λ c26=>?_⟩
 ·try dsimp only at c26
  try simp only [nrm] at c26
  have hn:Bn o (l.getD k (0,0))=o:=CN (λ h=>Int.not_le.2 c26 h.2)
  refine ao (by simp only [AC,List.length_cons,List.length_nil];omega) λ o40=>?_
  refine ⟨k+1,by
   trivial,by
   omega,?_⟩
  refine ⟨rfl,?_,rfl,?_⟩
  ·exact AR (AE (by omega) (by omega))
  rw [Ai hkl,Aj hkl,← IL hki10.1 hn];simp [AA,Hd]
 try dsimp only at c26
 try simp only [nrm] at c26
 refine ao (by rfl) λ o27=>?_
 refine ao (by rfl) λ o28=>?_
 refine ao (by omega) λ o29=>?_
 refine ao (by omega) λ o30=>?_
 refine ⟨o.take (o.length-1),by
  exact ⟨(IK ho c26).trans hki10.1,by simp only [List.length_take];omega,by rw [List.all_eq_true];exact λ x hx=>List.all_eq_true.1 hki10.2.2 x (List.mem_of_mem_take hx)⟩,by
  simp only [List.length_take];omega,?_⟩
 refine ⟨rfl,rfl,rfl,rfl,rfl,?_⟩
 rw [hw1,Int.toNat_natCast];simp [AA,List.map_take]
def C3:Con:={ ι:=(List V2),pre:=λ i=>i.all AD=true/\0<i.length/\i.length<=64,args:=λ i=>[.one (DC.sl 24 [.int,.int] (AA i))],res:=λ i=>⟨false,[none],[.own 24 [.int,.int] (AA (chT i i.length))]⟩ }
theorem Vr:C3.Ok Tryz.prog 160:=by
 refine fok (X:=⟨tt,[(162,FE)],[37],44,[]⟩) mixed AN (CTok.cons X9 (CTok.nil _)) Tryz.func160 (λ (i:(List V2))=>[(3,.mk 3 (Nat) (λ x1=>{ tm:=[(7,tX 1),(8,tI (nI ((AA i).length))),(9,tI (nI x1)),(3,tX 2)],en:=[(1,.view 24 [.int,.int] (AA i) []),(2,.own 24 [.int,.int] (AA (chT i x1)))] }) (λ x1=>x1<=i.length) (λ x1=>i.length-x1) (λ x1=>[(5,.mk 4 ((List V2)) (λ x2=>{ tm:=[(7,tX 1),(8,tI (nI ((AA i).length))),(9,tI (nI x1)),(5,tP 2 0),(3,tX 3)],en:=[(2,.box [kI (((((AA i).getD x1 []).getD 0 (.int 0))).n),kI (((((AA i).getD x1 []).getD 1 (.int 0))).n)]),(1,.view 24 [.int,.int] (AA i) []),(3,.own 24 [.int,.int] (AA x2))] }) (λ x2=>Bn x2 (i.getD x1 (0,0))=Bn (chT i x1) (i.getD x1 (0,0))/\x2.length<=x1/\x2.all AD=true) (λ x2=>x2.length) (λ _=>[]))]))]) ?_
 intro (l:List V2) hpre
 have hpre:l.all AD=true/\0<l.length/\l.length<=64:=hpre
 refine AM (q:=let Z6:=vI (nI ((AA l).length));(∃ x1:Nat,(x1<=l.length)/\((rf Z6)/\(vI (0:Int)=vI (nI x1))/\(rf (AA l))/\(([]:List (List Dat))=(AA (chT l x1)))))/\∀ x1:Nat,let Z14:=wR ((nI x1)+(1:Int));let Z11:=chT l x1;let Z10:=l.getD x1 (0,0);let Z2:=(AA l).getD x1 [];let Z9:=(Z2.getD 1 (.int 0));let Z8:=(Z2.getD 0 (.int 0));(x1<=l.length)->(ifB ((decide ((nI x1)<(nI ((AA l).length))))) ((0<=(nI x1)/\(nI x1)<((AA l).length:Int))/\((x1<(AA l).length)/\((∃ x2:(List V2),(Bn x2 Z10=Bn Z11 Z10/\x2.length<=x1/\x2.all AD=true)/\((rf Z6)/\(rf (vI (nI x1)))/\(rf (vI Z8.n))/\(rf (vI Z9.n))/\(rf (AA l))/\((AA Z11)=(AA x2))))/\∀ x2:(List V2),let Z7:=AA x2;let Z13:=nI (Z7.length);let Z12:=(Z7.length:Int);let Z5:=Z7++([[Dat.int (Z8.n),Dat.int (Z9.n)]]:List (List Dat));let Z4:=Z7.length+([[Dat.int (Z8.n),Dat.int (Z9.n)]]:List (List Dat)).length<=2199023255552;let Z3:=wR (Z13-(2:Int));let Z1:=wR (Z13-(1:Int));(Bn x2 Z10=Bn Z11 Z10/\x2.length<=x1/\x2.all AD=true)->(ifB ((decide (Z13>(1:Int)))) ((0<=Z3/\Z3<Z12)/\((Z3.toNat<Z7.length)/\((0<=Z1/\Z1<Z12)/\((Z1.toNat<Z7.length)/\(∃ i1:Int×Int×Int×Int×Int×Int,[DA.agg [cI ((((Z7.getD (Z3.toNat) []).getD 0 (.int 0))).n),cI ((((Z7.getD (Z3.toNat) []).getD 1 (.int 0))).n)],DA.agg [cI ((((Z7.getD (Z1.toNat) []).getD 0 (.int 0))).n),cI ((((Z7.getD (Z1.toNat) []).getD 1 (.int 0))).n)],DA.agg [cI (Z8.n),cI (Z9.n)]]=FE.args i1/\FE.pre i1/\(ifB ((decide ((AF (i1.1,i1.2.1) (i1.2.2.1,i1.2.2.2.1) (i1.2.2.2.2.1,i1.2.2.2.2.2))<=(0:Int)))) ((Nat.beq 2 2=true)/\(((0:Int)=0)/\((0<=Z1)/\((Z1<=Z12)/\(∃ y3:(List V2),(Bn y3 Z10=Bn Z11 Z10/\y3.length<=x1/\y3.all AD=true)/\(y3.length<x2.length)/\((rf Z6)/\(rf (vI (nI x1)))/\(rf (vI Z8.n))/\(rf (vI Z9.n))/\(rf (AA l))/\((Z7.take (Z1.toNat))=(AA y3)))))))) (Z4/\(∃ y4:Nat,(y4<=l.length)/\(l.length-y4<l.length-x1)/\((rf Z6)/\(vI Z14=vI (nI y4))/\(rf (AA l))/\(Z5=(AA (chT l y4)))))))))))) (Z4/\(∃ y5:Nat,(y5<=l.length)/\(l.length-y5<l.length-x1)/\((rf Z6)/\(vI Z14=vI (nI y5))/\(rf (AA l))/\(Z5=(AA (chT l y5)))))))))) (((AA Z11)=AA (chT l l.length))))) (by kernel_rfl) ?_
 conv=>zeta
 delta ifB vI wR nI
 have hvl:=AC l
 refine ⟨⟨0,by
  omega,?_⟩,?_⟩
 ·refine ⟨rfl,?_,rfl,?_⟩
  ·rfl
  rfl
 intro (k:Nat) hki1
 have hki1:k<=l.length:=hki1
 refine And.symm ⟨λ c7=>?_,λ c7=>?_⟩
 ·try simp only [nrm] at c7
  rw [show l.length=k by omega]
 try simp only [nrm] at c7
 have hkl:k<l.length:=by omega
 have hV:=Ak hpre.1 hkl
 have hcb:=I8 hpre.1 k (by omega)
 refine ao (by omega) λ o8=>?_
 refine ao (by omega) λ o9=>?_
 refine ⟨⟨chT l k,by
  exact ⟨rfl,hcb.1,hcb.2⟩,?_⟩,?_⟩
 ·exact ⟨rfl,rfl,rfl,rfl,rfl,rfl⟩
 intro (o:List V2) hki10
 have hki10:Bn o (l.getD k (0,0))=Bn (chT l k) (l.getD k (0,0))/\o.length<=k/\o.all AD=true:=hki10
 have hvo:=AC o
 refine And.symm ⟨λ c18=>?_,λ c18=>?_⟩
 ·try simp only [nrm] at c18
  have hn:Bn o (l.getD k (0,0))=o:=CN (λ h=>by omega)
  refine ao (by simp only [AC,List.length_cons,List.length_nil];omega) λ o48=>?_
  refine ⟨k+1,by
   trivial,by
   omega,?_⟩
  refine ⟨rfl,?_,rfl,?_⟩
  ·exact AR (AE (by omega) (by omega))
  rw [Ai hkl,Aj hkl,← IL hki10.1 hn];simp [AA,Hd]
 try simp only [nrm] at c18
 have ho:1<o.length:=by omega
 have hw2:IntKind.i64.wrap ((((AA o).length:Nat):Int)-(2:Int))=((o.length-2:Nat):Int):=by rw [hvo,AE (by omega) (by omega)];omega
 have hw1:IntKind.i64.wrap ((((AA o).length:Nat):Int)-(1:Int))=((o.length-1:Nat):Int):=by rw [hvo,AE (by omega) (by omega)];omega
 refine ao (by omega) λ o19=>?_
 refine ao (by omega) λ o20=>?_
 refine ao (by omega) λ o21=>?_
 refine ao (by omega) λ o22=>?_
 refine ⟨((o.getD (o.length-2) (0,0)).1,(o.getD (o.length-2) (0,0)).2,(o.getD (o.length-1) (0,0)).1,(o.getD (o.length-1) (0,0)).2,(l.getD k (0,0)).1,(l.getD k (0,0)).2),by
  rw [hw2,hw1,Int.toNat_natCast,Int.toNat_natCast,Ai (show o.length-2<o.length by omega),Aj (show o.length-2<o.length by omega),Ai (show o.length-1<o.length by omega),Aj (show o.length-1<o.length by omega),Ai hkl,Aj hkl];rfl,by
  try dsimp only [FE]
  exact ⟨Ak hki10.2.2 (show o.length-2<o.length by omega),Ak hki10.2.2 (show o.length-1<o.length by omega),hV⟩,?_⟩
 refine And.symm ⟨λ c26=>?_,λ c26=>?_⟩
 ·try dsimp only at c26
  try simp only [nrm] at c26
  have hn:Bn o (l.getD k (0,0))=o:=CN (λ h=>Int.not_le.2 c26 h.2)
  refine ao (by simp only [AC,List.length_cons,List.length_nil];omega) λ o40=>?_
  refine ⟨k+1,by
   trivial,by
   omega,?_⟩
  refine ⟨rfl,?_,rfl,?_⟩
  ·exact AR (AE (by omega) (by omega))
  rw [Ai hkl,Aj hkl,← IL hki10.1 hn];simp [AA,Hd]
 try dsimp only at c26
 try simp only [nrm] at c26
 refine ao (by rfl) λ o27=>?_
 refine ao (by rfl) λ o28=>?_
 refine ao (by omega) λ o29=>?_
 refine ao (by omega) λ o30=>?_
 refine ⟨o.take (o.length-1),by
  exact ⟨(IK ho c26).trans hki10.1,by simp only [List.length_take];omega,by rw [List.all_eq_true];exact λ x hx=>List.all_eq_true.1 hki10.2.2 x (List.mem_of_mem_take hx)⟩,by
  simp only [List.length_take];omega,?_⟩
 refine ⟨rfl,rfl,rfl,rfl,rfl,?_⟩
 rw [hw1,Int.toNat_natCast];simp [AA,List.map_take]
def Fg:Con:={ ι:=(List (List Dat)),pre:=λ i=>i.length<=1073741824,args:=λ i=>[.one (DC.sl 24 [.int,.int] i)],res:=λ i=>⟨false,[none],[.own 24 [.int,.int] i]⟩ }
theorem Vs:Fg.Ok Tryz.prog 175:=by
 refine fok (X:=⟨tt,[],[],8,[]⟩) mixed AN (CTok.nil _) Tryz.func175 (λ _=>[]) ?_
 intro (ls:List (List Dat)) hpre
 have hpre:ls.length<=1073741824:=hpre
 refine AM (q:=∀ b1:Bool,(b1=true->ls=[])->(ifB (b1) ((([]:List (List Dat))=ls)) ((([]:List (List Dat)).length+ls.length<=2199023255552)/\(((([]:List (List Dat))++ls)=ls))))) (by kernel_rfl) ?_
 delta ifB
 intro b1 q1
 refine ⟨λ c2=>?_,λ c2=>?_⟩
 ·try simp only [nrm] at c2
  rw [q1 c2]
 try simp only [nrm] at c2
 refine ao (by simp;omega) λ o4=>?_
 rfl
def G7:Con:={ ι:=(List V2),pre:=λ i=>i.length<=1048576,args:=λ i=>[.one (DC.sl 24 [.int,.int] (AA i))],res:=λ i=>⟨false,[none],[.own 24 [.int,.int] (AA (BO i))]⟩ }
set_option maxHeartbeats 1600000 in
theorem YA:G7.Ok Tryz.prog 124:=by
 refine fok (X:=⟨tt,[(126,BS),(159,EX),(160,C3)],[],104,[]⟩) mixed AN (CTok.cons N9 (CTok.cons S9 (CTok.cons Vr (CTok.nil _)))) Tryz.func124 (λ (i:(List V2))=>let Z1:=Ah i i.length;[(21,.mk 3 (Nat) (λ x10=>{ tm:=[(9,tI ((nI (Z1.length))-1-(nI x10))),(3,tX 1),(8,tX 2)],en:=[(1,.own 24 [.int,.int] (AA Z1)),(2,.own 24 [.int,.int] (AA (Z1.reverse.take x10)))] }) (λ x10=>x10<=Z1.length) (λ x10=>Z1.length-x10) (λ _=>[])),(5,.mk 3 (Nat) (λ x1=>{ tm:=[(17,tX 1),(18,tI (nI ((AA i).length))),(19,tI (nI x1)),(3,tX 2)],en:=[(1,.view 24 [.int,.int] (AA i) []),(2,.own 24 [.int,.int] (AA (Ah i x1)))] }) (λ x1=>x1<=i.length/\(i.take x1).all AD=true) (λ x1=>i.length-x1) (λ x1=>let Z2:=Ah i x1;[(10,.mk 4 (Nat) (λ x2=>{ tm:=[(17,tX 1),(18,tI (nI ((AA i).length))),(19,tI (nI x1)),(5,tP 2 0),(6,tI (nI x2)),(3,tX 3)],en:=[(2,.box [kI (((((AA i).getD x1 []).getD 0 (.int 0))).n),kI (((((AA i).getD x1 []).getD 1 (.int 0))).n)]),(1,.view 24 [.int,.int] (AA i) []),(3,.own 24 [.int,.int] (AA Z2))] }) (λ x2=>x2<=Z2.length/\∀ j,j<x2->AV (Z2.getD j (0,0)) (i.getD x1 (0,0))=true) (λ x2=>Z2.length-x2) (λ _=>[]))]))]) ?_
 intro (l:List V2) hpre
 have hpre:l.length<=1048576:=hpre
 refine AM (q:=let Z28:=nI ((AA l).length);let Z18:=List Dat;let Z30:=(([]:List Z18)=AA (BO l));let Z12:=Nat.beq 2 2=true;let Z10:=vI Z28;let Z4:=Ah l l.length;let Z36:=nI (Z4.length);let Z32:=AA Z4;ifB ((decide (Z28>(64:Int)))) Z30 ((∃ x1:Nat,(x1<=l.length/\(l.take x1).all AD=true)/\((rf Z10)/\(vI (0:Int)=vI (nI x1))/\(rf (AA l))/\(([]:List Z18)=(AA (Ah l x1)))))/\∀ x1:Nat,let Z33:=l.getD x1 (0,0);let Z24:=Ah l x1;let Z14:=wR ((nI x1)+(1:Int));let Z6:=(AA l).getD x1 [];let Z16:=(Z6.getD 1 (.int 0));let Z15:=(Z6.getD 0 (.int 0));let Z2:=AA Z24;let Z34:=nI (Z2.length);let Z5:=(Z2.length:Int);(x1<=l.length/\(l.take x1).all AD=true)->(ifB ((decide ((nI x1)<Z28))) ((0<=(nI x1)/\(nI x1)<((AA l).length:Int))/\((x1<(AA l).length)/\(∃ i1:Int×Int,[DA.agg [cI (Z15.n),cI (Z16.n)]]=BS.args i1/\BS.pre i1/\(ifB ((!(AD (i1.1,i1.2)))) Z30 ((∃ x2:Nat,(x2<=Z24.length/\∀ j,j<x2->AV (Z24.getD j (0,0)) Z33=true)/\((rf Z10)/\(rf (vI (nI x1)))/\(vI (0:Int)=vI (nI x2))/\(rf (vI Z15.n))/\(rf (vI Z16.n))/\(rf (AA l))/\(rf Z2)))/\∀ x2:Nat,let Z35:=x2<Z2.length;let Z31:=Z2.getD x2 [];let Z27:=Z2.take x2;let Z25:=(0:Int)<=(nI x2);let Z22:=(decide ((nI x2)<Z34));let Z20:=(nI x2)<=Z5;let Z17:=(Z2.take (Z5.toNat)).drop x2;let Z13:=([((Z31.getD 0 (.int 0))).n,((Z31.getD 1 (.int 0))).n] == [Z15.n,Z16.n]);let Z3:=(([]:List Z18)++Z27).length+([[Dat.int (Z15.n),Dat.int (Z16.n)]]:List Z18).length<=2199023255552;let Z1:=(([]:List Z18)++Z27)++([[Dat.int (Z15.n),Dat.int (Z16.n)]]:List Z18);let Z9:=Z1.length+Z17.length<=2199023255552;(x2<=Z24.length/\∀ j,j<x2->AV (Z24.getD j (0,0)) Z33=true)->(ifB Z22 ((0<=(nI x2)/\(nI x2)<Z5)/\(Z35/\(∃ i2:Int×Int×Int×Int,[DA.agg [cI (((Z31.getD 0 (.int 0))).n),cI (((Z31.getD 1 (.int 0))).n)],DA.agg [cI (Z15.n),cI (Z16.n)]]=EX.args i2/\EX.pre i2/\(ifB ((AV (i2.1,i2.2.1) (i2.2.2.1,i2.2.2.2))) (∃ y3:Nat,(y3<=Z24.length/\∀ j,j<y3->AV (Z24.getD j (0,0)) Z33=true)/\(Z24.length-y3<Z24.length-x2)/\((rf Z10)/\(rf (vI (nI x1)))/\(vI (wR ((nI x2)+(1:Int)))=vI (nI y3))/\(rf (vI Z15.n))/\(rf (vI Z16.n))/\(rf (AA l))/\(rf Z2))) (ifB Z22 ((0<=(nI x2)/\(nI x2)<Z5)/\(Z35/\(ifB Z13 (∃ y4:Nat,(y4<=l.length/\(l.take y4).all AD=true)/\(l.length-y4<l.length-x1)/\((rf Z10)/\(vI Z14=vI (nI y4))/\(rf (AA l))/\(Z2=(AA (Ah l y4))))) (Z12/\((0<=(0:Int))/\(Z25/\(Z20/\((([]:List Z18).length+Z27.length<=2199023255552)/\(Z3/\(Z12/\((0<=(nI x2))/\(Z20/\((Z5<=Z5)/\(Z9/\(∃ y5:Nat,(y5<=l.length/\(l.take y5).all AD=true)/\(l.length-y5<l.length-x1)/\((rf Z10)/\(vI Z14=vI (nI y5))/\(rf (AA l))/\((Z1++Z17)=(AA (Ah l y5))))))))))))))))))) (Z12/\((0<=(0:Int))/\(Z25/\(Z20/\((([]:List Z18).length+Z27.length<=2199023255552)/\(Z3/\(Z12/\((0<=(nI x2))/\(Z20/\((Z5<=Z5)/\(Z9/\(∃ y6:Nat,(y6<=l.length/\(l.take y6).all AD=true)/\(l.length-y6<l.length-x1)/\((rf Z10)/\(vI Z14=vI (nI y6))/\(rf (AA l))/\((Z1++Z17)=(AA (Ah l y6))))))))))))))))))))) (ifB Z22 ((0<=(nI x2)/\(nI x2)<Z5)/\(Z35/\(ifB Z13 (∃ y7:Nat,(y7<=l.length/\(l.take y7).all AD=true)/\(l.length-y7<l.length-x1)/\((rf Z10)/\(vI Z14=vI (nI y7))/\(rf (AA l))/\(Z2=(AA (Ah l y7))))) (Z12/\((0<=(0:Int))/\(Z25/\(Z20/\((([]:List Z18).length+Z27.length<=2199023255552)/\(Z3/\(Z12/\((0<=(nI x2))/\(Z20/\((Z5<=Z5)/\(Z9/\(∃ y8:Nat,(y8<=l.length/\(l.take y8).all AD=true)/\(l.length-y8<l.length-x1)/\((rf Z10)/\(vI Z14=vI (nI y8))/\(rf (AA l))/\((Z1++Z17)=(AA (Ah l y8))))))))))))))))))) (Z12/\((0<=(0:Int))/\(Z25/\(Z20/\((([]:List Z18).length+Z27.length<=2199023255552)/\(Z3/\(Z12/\((0<=(nI x2))/\(Z20/\((Z5<=Z5)/\(Z9/\(∃ y9:Nat,(y9<=l.length/\(l.take y9).all AD=true)/\(l.length-y9<l.length-x1)/\((rf Z10)/\(vI Z14=vI (nI y9))/\(rf (AA l))/\((Z1++Z17)=(AA (Ah l y9))))))))))))))))))))))) (ifB ((decide (Z34<(3:Int)))) ((Z2=AA (BO l))) ((∃ x10:Nat,(x10<=Z4.length)/\((vI (wR (Z34-(1:Int)))=vI (Z36-1-(nI x10)))/\(Z2=Z32)/\(([]:List Z18)=(AA (Z4.reverse.take x10)))))/\∀ x10:Nat,let Z26:=AA (Z4.reverse.take x10);let Z7:=Z36-1-(nI x10);let Z21:=Z32.getD (Z7.toNat) [];let Z38:=((Z21.getD 1 (.int 0))).n;let Z37:=((Z21.getD 0 (.int 0))).n;(x10<=Z4.length)->(ifB ((decide (Z7≥(0:Int)))) ((0<=Z7/\Z7<(Z32.length:Int))/\((Z7.toNat<Z32.length)/\((Z26.length+([[Dat.int Z37,Dat.int Z38]]:List Z18).length<=2199023255552)/\(∃ y11:Nat,(y11<=Z4.length)/\(Z4.length-y11<Z4.length-x10)/\((vI (wR (Z7-(1:Int)))=vI (Z36-1-(nI y11)))/\(rf Z32)/\((Z26++([[Dat.int Z37,Dat.int Z38]]:List Z18))=(AA (Z4.reverse.take y11)))))))) (∃ i3:(List V2),let Z19:=AA (chT i3 i3.length);let Z8:=wR ((nI (Z19.length))-(1:Int));let Z29:=Z19.take (Z8.toNat);[DA.one (DC.sl 24 [.int,.int] Z32)]=C3.args i3/\C3.pre i3/\(∃ i4:(List V2),let Z23:=AA (chT i4 i4.length);let Z11:=wR ((nI (Z23.length))-(1:Int));[DA.one (DC.sl 24 [.int,.int] Z26)]=C3.args i4/\C3.pre i4/\(Z12/\((0<=(0:Int))/\(((0:Int)<=Z8)/\((Z8<=(Z19.length:Int))/\((([]:List Z18).length+Z29.length<=2199023255552)/\(Z12/\((0<=(0:Int))/\(((0:Int)<=Z11)/\((Z11<=(Z23.length:Int))/\(((([]:List Z18)++Z29).length+(Z23.take (Z11.toNat)).length<=2199023255552)/\((((([]:List Z18)++Z29)++(Z23.take (Z11.toNat)))=AA (BO l))))))))))))))))))))) (by kernel_rfl) ?_
 conv=>zeta
 delta ifB vI wR nI
 have hvl:=AC l
 refine ⟨λ c1=>?_,λ c1=>?_⟩
 ·try simp only [nrm] at c1
  have hE:BO l=[]:=LD (by omega)
  rw [hE];rfl
 try simp only [nrm] at c1
 refine ⟨⟨0,by
  exact ⟨Nat.zero_le _,rfl⟩,?_⟩,?_⟩
 ·refine ⟨rfl,?_,rfl,?_⟩
  ·rfl
  rfl
 intro (k:Nat) hki3
 have hki3:k<=l.length/\(l.take k).all AD=true:=hki3
 refine And.symm ⟨λ c9=>?_,λ c9=>?_⟩
 ·try simp only [nrm] at c9
  have hk:l.length=k:=by omega
  have hall:l.all AD=true:=by have:=hki3.2;rwa [← hk,List.take_length] at this
  have hE:=I9 (by omega) hall
  have hsl:=IJ l l.length
  have hvs:=AC (Ah l k)
  have hvs2:=AC (Ah l l.length)
  refine ⟨λ c137=>?_,λ c137=>?_⟩
  ·try simp only [nrm] at c137
   rw [hE,hk,PQ (by omega)]
  try simp only [nrm] at c137
  have h3:¬ (Ah l l.length).length<3:=by rw [hk];omega
  have hE2:=JA h3
  have hsv:=PP hall (Nat.le_refl _)
  refine ⟨⟨0,by
   omega,?_⟩,?_⟩
  ·refine ⟨?_,?_,?_⟩
   ·exact AR (by rw [hvs,← hk,AE (by omega) (by omega)];omega)
   ·rw [hk]
   rfl
  intro (j:Nat) hki139
  have hki139:j<=(Ah l l.length).length:=hki139
  refine ⟨λ c144=>?_,λ c144=>?_⟩
  ·try simp only [nrm] at c144
   have hj:j<(Ah l l.length).length:=by omega
   have hi:(((((Ah l l.length).length:Nat):Int)-1-((j:Nat):Int))).toNat=(Ah l l.length).length-1-j:=by omega
   refine ao (by omega) λ o145=>?_
   refine ao (by omega) λ o146=>?_
   refine ao (by simp only [AC,List.length_append,List.length_take,List.length_drop,List.length_cons,List.length_nil,List.nil_append];omega) λ o147=>?_
   refine ⟨j+1,by
    trivial,by
    omega,?_⟩
   refine ⟨?_,rfl,?_⟩
   ·exact AR (by rw [AE (by omega) (by omega)];omega)
   rw [hi,Ai (show (Ah l l.length).length-1-j<(Ah l l.length).length by omega),Aj (show (Ah l l.length).length-1-j<(Ah l l.length).length by omega)];exact WO hj
  try simp only [nrm] at c144
  have hj:(Ah l l.length).reverse.take j=(Ah l l.length).reverse:=List.take_of_length_le (by rw [List.length_reverse];omega)
  have hrl:(Ah l l.length).reverse.length=(Ah l l.length).length:=List.length_reverse
  refine ⟨(Ah l l.length),by
   rfl,by
   exact ⟨hsv,by omega,by omega⟩,?_⟩
  refine ⟨(Ah l l.length).reverse,by
   rw [hj];rfl,by
   exact ⟨Ke hsv,by omega,by omega⟩,?_⟩
  have hA:=TX hsv (by omega)
  have hB:=TX (Ke hsv) (by omega)
  have hvA:=AC (chT (Ah l l.length) (Ah l l.length).length)
  have hvB:=AC (chT (Ah l l.length).reverse (Ah l l.length).reverse.length)
  have hwA:IntKind.i64.wrap ((((AA (chT (Ah l l.length) (Ah l l.length).length)).length:Nat):Int)-(1:Int))=(((chT (Ah l l.length) (Ah l l.length).length).length-1:Nat):Int):=by rw [hvA,AE (by omega) (by omega)];omega
  have hwB:IntKind.i64.wrap ((((AA (chT (Ah l l.length).reverse (Ah l l.length).reverse.length)).length:Nat):Int)-(1:Int))=(((chT (Ah l l.length).reverse (Ah l l.length).reverse.length).length-1:Nat):Int):=by rw [hvB,AE (by omega) (by omega)];omega
  refine ao (by rfl) λ o160=>?_
  refine ao (by omega) λ o161=>?_
  refine ao (by omega) λ o162=>?_
  refine ao (by omega) λ o163=>?_
  refine ao (by simp only [AC,List.length_append,List.length_take,List.length_drop,List.length_cons,List.length_nil,List.nil_append];omega) λ o164=>?_
  refine ao (by rfl) λ o165=>?_
  refine ao (by omega) λ o166=>?_
  refine ao (by omega) λ o167=>?_
  refine ao (by omega) λ o168=>?_
  refine ao (by simp only [AC,List.length_append,List.length_take,List.length_drop,List.length_cons,List.length_nil,List.nil_append];omega) λ o169=>?_
  rw [hE,hE2,hwA,hwB,Int.toNat_natCast,Int.toNat_natCast,List.nil_append,PR,PR,Ge]
 try simp only [nrm] at c9
 have hkl:k<l.length:=by omega
 have hsl:=IJ l k
 have hvs:=AC (Ah l k)
 refine ao (by omega) λ o10=>?_
 refine ao (by omega) λ o11=>?_
 refine ⟨((l.getD k (0,0)).1,(l.getD k (0,0)).2),by
  rw [Ai hkl,Aj hkl];rfl,by
  trivial,?_⟩
 refine ⟨λ c15=>?_,λ c15=>?_⟩
 ·try simp only [nrm] at c15
  have hE:BO l=[]:=WM hkl c15
  rw [hE];rfl
 try simp only [nrm] at c15
 refine ⟨⟨0,by
  exact ⟨Nat.zero_le _,λ j hj=>absurd hj (Nat.not_lt_zero j)⟩,?_⟩,?_⟩
 ·refine ⟨rfl,rfl,?_,rfl,rfl,rfl,rfl⟩
  rfl
 intro (n:Nat) hki17
 have hki17:n<=(Ah l k).length/\∀ j,j<n->AV ((Ah l k).getD j (0,0)) (l.getD k (0,0))=true:=hki17
 refine And.symm ⟨λ c26=>?_,λ c26=>?_⟩
 ·try simp only [nrm] at c26
  refine ⟨λ c90=>?_,λ c90=>?_⟩
  ·try simp only [nrm] at c90
   exfalso;omega -- done
  try simp only [nrm] at c90
  refine ao (by rfl) λ o119=>?_
  refine ao (by omega) λ o120=>?_
  refine ao (by omega) λ o121=>?_
  refine ao (by omega) λ o122=>?_
  refine ao (by simp only [AC,List.length_append,List.length_take,List.length_drop,List.length_cons,List.length_nil,List.nil_append];omega) λ o123=>?_
  refine ao (by simp only [AC,List.length_append,List.length_take,List.length_drop,List.length_cons,List.length_nil,List.nil_append];omega) λ o124=>?_
  refine ao (by rfl) λ o125=>?_
  refine ao (by omega) λ o126=>?_
  refine ao (by omega) λ o127=>?_
  refine ao (by omega) λ o128=>?_
  refine ao (by simp only [AC,List.length_append,List.length_take,List.length_drop,List.length_cons,List.length_nil,List.nil_append];omega) λ o129=>?_
  refine ⟨k+1,by
   exact ⟨by omega,ON hkl hki3.2 c15⟩,by
   omega,?_⟩
  refine ⟨rfl,?_,rfl,?_⟩
  ·exact AR (AE (by omega) (by omega))
  rw [Ai hkl,Aj hkl,PS,TW (by omega) hki17.2 (λ h=>absurd h (by omega)) (λ h=>absurd h (by omega))]
 try simp only [nrm] at c26
 have hn:n<(Ah l k).length:=by omega
 refine ao (by omega) λ o27=>?_
 refine ao (by omega) λ o28=>?_
 refine ⟨(((Ah l k).getD n (0,0)).1,((Ah l k).getD n (0,0)).2,(l.getD k (0,0)).1,(l.getD k (0,0)).2),by
  rw [Ai hn,Aj hn,Ai hkl,Aj hkl];rfl,by
  trivial,?_⟩
 refine ⟨λ c32=>?_,λ c32=>?_⟩
 ·try simp only [nrm] at c32
  refine ⟨n+1,by
   exact ⟨by omega,WL hki17.2 c32⟩,by
   omega,?_⟩
  refine ⟨rfl,rfl,?_,rfl,rfl,rfl,rfl⟩
  exact AR (AE (by omega) (by omega))
 try simp only [nrm] at c32
 refine And.symm ⟨λ c43=>?_,λ c43=>?_⟩
 ·try simp only [nrm] at c43
  exfalso;omega -- done
 try simp only [nrm] at c43
 refine ao (by omega) λ o44=>?_
 refine ao (by omega) λ o45=>?_
 refine ⟨λ c46=>?_,λ c46=>?_⟩
 ·try dsimp only at c46
  try simp only [nrm] at c46
  rw [Ai hn,Aj hn,Ai hkl,Aj hkl] at c46
  have hq:=Yi c46
  refine ⟨k+1,by
   exact ⟨by omega,ON hkl hki3.2 c15⟩,by
   omega,?_⟩
  refine ⟨rfl,?_,rfl,?_⟩
  ·exact AR (AE (by omega) (by omega))
  rw [WN hn hki17.2 c32 hq]
 try dsimp only at c46
 try simp only [nrm] at c46
 rw [Ai hn,Aj hn,Ai hkl,Aj hkl] at c46
 refine ao (by rfl) λ o54=>?_
 refine ao (by omega) λ o55=>?_
 refine ao (by omega) λ o56=>?_
 refine ao (by omega) λ o57=>?_
 refine ao (by simp only [AC,List.length_append,List.length_take,List.length_drop,List.length_cons,List.length_nil,List.nil_append];omega) λ o58=>?_
 refine ao (by simp only [AC,List.length_append,List.length_take,List.length_drop,List.length_cons,List.length_nil,List.nil_append];omega) λ o59=>?_
 refine ao (by rfl) λ o60=>?_
 refine ao (by omega) λ o61=>?_
 refine ao (by omega) λ o62=>?_
 refine ao (by omega) λ o63=>?_
 refine ao (by simp only [AC,List.length_append,List.length_take,List.length_drop,List.length_cons,List.length_nil,List.nil_append];omega) λ o64=>?_
 refine ⟨k+1,by
  exact ⟨by omega,ON hkl hki3.2 c15⟩,by
  omega,?_⟩
 refine ⟨rfl,?_,rfl,?_⟩
 ·exact AR (AE (by omega) (by omega))
 rw [Ai hkl,Aj hkl,PS,TW (by omega) hki17.2 (λ _=>c32) (λ _ e=>c46 (by rw [e]))]
def CZ:Con:={ ι:=(List V2),pre:=λ i=>i.all AD=true/\i.length<=1048576,args:=λ i=>[.one (DC.sl 24 [.int,.int] (AA i)),.one (.ro (.fn 177 []))],mu:=[0],new:=λ i=>[AA (Bu i)],tag:=178,res:=λ i=>⟨true,[],[]⟩ }
def EC:Con:={ ι:=(List V2),pre:=λ i=>i.length<=1048576,args:=λ i=>[.one (DC.sl 24 [.int,.int] (AA i))],mu:=[0],new:=λ i=>[AA i.reverse],res:=λ i=>⟨true,[],[]⟩ }
def A0:Con:={ ι:=(List V2),pre:=λ i=>i.length<=1048576,args:=λ i=>[.one (DC.sl 24 [.int,.int] (AA i))],mu:=[0],gone:=[0],new:=λ i=>[],res:=λ i=>⟨false,[none],[.own 24 [.int,.int] (AA (A4 i))]⟩ }
theorem ABc {us:List Value} (h:us.length=1):∃ u,us=[u]:=
 match us,h with
 | [_],_=>⟨_,rfl⟩
theorem ACG {us:List Value} (h:us.length=2):∃ u v,us=[u,v]:=
 match us,h with
 | [_,_],_=>⟨_,_,rfl⟩
theorem Vt:CZ.Ok Tryz.prog 176 where
 enter:=⟨_,Tryz.func176,by decide,rfl⟩
 small:=λ _=>Nat.le_of_ble_eq_true rfl
 calls:=by
  intro (l:List V2) (hp:l.all AD=true/\l.length<=1048576) F w us mb h
  obtain ⟨u0,u1,rfl⟩:=ACG h.len
  obtain ⟨_,_,_,_,e1,e2,f1,m1⟩:=h.own 0 0 rfl
  cases e1;cases e2
  obtain ⟨ps,hu1,hpl,-⟩:ROAt F w (.fn 177 []) u1:=h.rd 1 _ _ rfl rfl (by decide)
  obtain rfl:ps=[]:=List.eq_nil_of_length_eq_zero hpl
  subst hu1
  have hv:A3 (CZ.args l) [u0,.func (.func 177) #[] #[]]=[u0,.func (.func 177) #[] #[]]:=rfl
  rw [hv]
  rcases O4 f1 with ⟨rfl,rfl,hbs⟩|⟨g,cap,cur,rfl,q1,q2,q3,q4,q5,hbs⟩
  ·have hcon:=AnyF.slices_SortFunc_none ABa none 0 (.func (.func 177) #[] #[]) w
   refine Calls.mono (P:=Tryz.prog) hcon ?_
   rintro e w' ⟨rfl,rfl⟩
   refine ⟨[],[],rfl,⟨rfl,List.nodup_nil,λ b hb=>by simp at hb,λ j q e ts rows u hj hq hd hu=>?_,rfl,rfl,rfl,Nat.le_refl _,λ b _ _=>rfl⟩⟩
   obtain rfl:j=0:=by have:=(List.getElem?_eq_some_iff.1 hq).1;have hl:CZ.mu.length=1:=rfl;omega
   cases hq
   cases hd
   cases hu
   have es:Bu []=[]:=List.eq_nil_of_length_eq_zero (Ep [])
   show Fp w' _ (.sl (AA (Bu []))) _ _
   rw [es]
   exact f1
  ·have hsz:(Fy l hp.1).length=l.length:=by have:=congrArg List.length (G6 l hp.1);simpa using this
   have hH:HoldsK KR 2 w g 0 (Fy l hp.1).toArray:=by
    have:=Q0 q1 q2 q4 q5
    unfold HoldsK at this ⊢
    rw [Q1,G6];exact this
   have hg:g<w.heap.size:=(Array.getElem?_eq_some_iff.1 q1).1
   have eg:∀ args w,(callFunc 177 args).run Tryz.prog w=.ok (.enter 177 args) w:=enters_of Tryz.func177 (by kernel_rfl) rfl
   have hlp:=hp.2
   have hcon:=AnyQ.slices_SortFunc_total ABa 2 Tryz.isAgg24 Tryz.sizeOf24 KR (λ _=>rfl) (λ x v hv=>by simp [KR,AY] at hv;rcases hv with rfl|rfl <;> rfl) cfV ACE 177 #[] g 0 cap (Fy l hp.1).toArray w eg
    (λ _ _ _ _ x y=>Mx x.1 y.1 x.2 y.2 _) hH hg (by simp only [List.size_toArray,hsz];omega) ACF
   have hs2:(Fy l hp.1).toArray.size=l.length:=by rw [List.size_toArray,hsz]
   rw [hs2] at hcon
   refine Calls.mono (P:=Tryz.prog) hcon ?_
   rintro e w' ⟨rfl,n,os,rfl⟩
   obtain ⟨⟨cur',p1,p2⟩,p3,p4⟩:=OD KR w g n ((Fy l hp.1).toArray.toList.mergeSort λ x y=>!(ltOf cfV) y x).toArray os q1
   have hHK:=holdsK_sortWorldK_c KR 2 w g 0 (Fy l hp.1).toArray ((Fy l hp.1).toArray.toList.mergeSort λ x y=>!(ltOf cfV) y x).toArray n os hH hg (by simp)
   have hHK:HoldsK AY 2 (sortWorldK KR 2 w g 0 n ((Fy l hp.1).toArray.toList.mergeSort λ x y=>!(ltOf cfV) y x).toArray os) g 0 (Bu l).toArray:=by
    unfold HoldsK at hHK ⊢
    rw [Q1] at hHK
    rw [← X6 l hp.1];exact hHK
   have hrow:=X5 p1 (by rw [Ep];exact q2) (by rw [p2];exact q4) hHK
   have hfp:=X4 p1 (by rw [Ep];exact q2) q3 (by rw [p2];exact q4) hrow
   rw [Ep] at hfp
   refine ⟨[],[],rfl,⟨rfl,List.nodup_nil,λ b hb=>by simp at hb,λ j q e ts rows u hj hq hd hu=>?_,rfl,rfl,rfl,p4,λ b hb hm=>p3 b hb λ e=>hm 0 (by decide) (by rw [hbs];simp [e])⟩⟩
   obtain rfl:j=0:=by have:=(List.getElem?_eq_some_iff.1 hq).1;have hl:CZ.mu.length=1:=rfl;omega
   cases hq
   cases hd
   cases hu
   rw [hbs]
   exact hfp
theorem ZX:EC.Ok Tryz.prog 180 where
 enter:=⟨_,Tryz.func180,by decide,rfl⟩
 small:=λ _=>Nat.le_of_ble_eq_true rfl
 calls:=by
  intro (l:List V2) (hp:l.length<=1048576) F w us mb h
  obtain ⟨u0,rfl⟩:=ABc h.len
  obtain ⟨_,_,_,_,e1,e2,f1,m1⟩:=h.own 0 0 rfl
  cases e1;cases e2
  have hv:A3 (EC.args l) [u0]=[u0]:=rfl
  rw [hv]
  rcases O4 f1 with ⟨rfl,rfl,hbs⟩|⟨g,cap,cur,rfl,q1,q2,q3,q4,q5,hbs⟩
  ·refine Calls.mono (P:=Tryz.prog) (AnyQ.slices_Reverse_empty ABb none 0 w) ?_
   rintro e w' ⟨rfl,rfl⟩
   refine ⟨[],[],rfl,⟨rfl,List.nodup_nil,λ b hb=>by simp at hb,λ j q e ts rows u hj hq hd hu=>?_,rfl,rfl,rfl,Nat.le_refl _,λ b _ _=>rfl⟩⟩
   obtain rfl:j=0:=by have:=(List.getElem?_eq_some_iff.1 hq).1;have hl:EC.mu.length=1:=rfl;omega
   cases hq
   cases hd
   cases hu
   exact f1
  ·have hH:=Q0 q1 q2 q4 q5
   refine Calls.mono (P:=Tryz.prog) (AnyQ.slices_Reverse ABb 2 Tryz.isAgg24 Tryz.sizeOf24 AY (λ _=>rfl) (λ x v hv=>by simp [AY] at hv;rcases hv with rfl|rfl <;> rfl) g 0 cap l.toArray w hH (by simp only [List.size_toArray];omega)) ?_
   rintro e w' ⟨rfl,n,rfl⟩
   have hgr:putRowK AY 2 (Sort.ahead w n) g 0 l.toArray.reverse=grow (putRowK AY 2 (Sort.ahead w n) g 0 l.toArray.reverse) #[]:=by simp [grow]
   have hHK:=holdsK_putRowK AY 2 (Sort.ahead w n) g 0 l.toArray l.toArray.reverse (holdsK_ahead AY 2 w n g 0 l.toArray hH) (by simp)
   rw [hgr] at hHK ⊢
   obtain ⟨⟨cur',p1,p2⟩,p3,p4⟩:=OD AY w g n l.toArray.reverse #[] q1
   have hHK2:HoldsK AY 2 (grow (putRowK AY 2 (Sort.ahead w n) g 0 l.toArray.reverse) #[]) g 0 l.reverse.toArray:=by
    have e:l.reverse.toArray=l.toArray.reverse:=by simp
    rw [e];exact hHK
   have hrow:=X5 p1 (by rw [List.length_reverse];exact q2) (by rw [p2];exact q4) hHK2
   have hfp:=X4 p1 (by rw [List.length_reverse];exact q2) q3 (by rw [p2];exact q4) hrow
   rw [List.length_reverse] at hfp
   refine ⟨[],[],rfl,⟨rfl,List.nodup_nil,λ b hb=>by simp at hb,λ j q e ts rows u hj hq hd hu=>?_,rfl,rfl,rfl,p4,λ b hb hm=>p3 b hb λ e=>hm 0 (by decide) (by rw [hbs];simp [e])⟩⟩
   obtain rfl:j=0:=by have:=(List.getElem?_eq_some_iff.1 hq).1;have hl:EC.mu.length=1:=rfl;omega
   cases hq
   cases hd
   cases hu
   rw [hbs]
   exact hfp
theorem ZY {w:World} {e:Nat} {l:List V2} {g cap:Nat} {cur:Array Value} (h1:w.heap[g]?=some (.cells cur e (0,0))) (h2:l.length<=cap) (h4:cur.size=cap*2) (h5:cur.toList.take (l.length*2)=(l.map AY).flatten):RowA w g 0 l.toArray:=λ j hj=>by
 have hj:j<l.length:=by simpa using hj
 have key:∀ t,t<l.length*2->cur[t]?=some ((AY (l.getD (t/2) (0,0)))[t%2]!):=λ t ht=>by
  have:=GV l t ht
  rw [← h5,List.getElem?_take,if_pos ht,Array.getElem?_toList] at this
  exact this
 have a0:=key (j*2) (by omega)
 have a1:=key (j*2+1) (by omega)
 rw [show j*2/2=j by omega,show j*2%2=0 by omega] at a0
 rw [show (j*2+1)/2=j by omega,show (j*2+1)%2=1 by omega] at a1
 have hd:(l.toArray)[j]! = l.getD j (0,0):=by simp [List.getD,hj]
 rw [hd]
 refine ⟨?_,?_,by simp [World.frozen?,h1],by simp [World.frozen?,h1]⟩
 ·rw [FD h1,Nat.zero_add,a0];rfl
 ·rw [FD h1,Nat.zero_add,a1];rfl
theorem ZZ {l:List V2} {cur:Array Value} (hc:∀ j,j<l.length->cur[j*2]?=some (.int .i64 (l.getD j (0,0)).1)/\cur[j*2+1]?=some (.int .i64 (l.getD j (0,0)).2)):cur.toList.take (l.length*2)=(l.map AY).flatten:=by
 apply List.ext_getElem?
 intro j
 by_cases hj:j<l.length*2
 ·rw [GV l j hj,List.getElem?_take,if_pos hj,Array.getElem?_toList]
  obtain ⟨c0,c1⟩:=hc (j/2) (by omega)
  have:j%2=0∨j%2=1:=by omega
  rcases this with e|e
  ·rw [e,show j=j/2*2 by omega,c0,show j/2*2/2=j/2 by omega];rfl
  ·rw [e];conv=>lhs;rw [show j=j/2*2+1 by omega,c1]
   rfl
 ·rw [List.getElem?_eq_none (by simp only [List.length_take];omega),List.getElem?_eq_none (by rw [MP];omega)]
theorem Q4:∀ l:List V2,(A4 l).length<=l.length
 | []=>by simp [A4]
 | [a]=>by simp [A4]
 | a::b::t=>by
  have:=Q4 (b::t)
  unfold A4
  split
  ·simp only [List.length_cons] at *;omega
  ·simp only [List.length_cons] at *;omega
theorem Q5:A0.Ok Tryz.prog 178 where
 enter:=⟨_,Tryz.func178,by decide,rfl⟩
 small:=λ _=>Nat.le_of_ble_eq_true rfl
 calls:=by
  intro (l:List V2) (hp:l.length<=1048576) F w us mb h
  obtain ⟨u0,rfl⟩:=ABc h.len
  obtain ⟨_,_,_,_,e1,e2,f1,m1⟩:=h.own 0 0 rfl
  cases e1;cases e2
  have hv:A3 (A0.args l) [u0]=[u0]:=rfl
  rw [hv]
  have hfresh:∀ b ∈ mb 0,w.heap.size<=b∨∃ j,j ∈ A0.gone/\j<A0.mu.length/\b ∈ mb j:=λ b hb=>.inr ⟨0,by decide,by decide,hb⟩
  have hgone:∀ (w' : World) j p e ts rows u,j ∉ A0.gone->A0.mu[j]?=some p->((A0.args l).flatMap DA.cells)[p]?=some (.sl e ts rows)->[u0][p]?=some u->Fp w' (.sl e ts) (.sl ((A0.new l).getD j [])) u (mb j):=λ w' j p e ts rows u hj hq=>by
   exfalso
   have:=(List.getElem?_eq_some_iff.1 hq).1
   have hl:A0.mu.length=1:=rfl
   obtain rfl:j=0:=by omega
   exact hj (by decide)
  rcases O4 f1 with ⟨rfl,rfl,hbs⟩|⟨g,cap,cur,rfl,q1,q2,q3,q4,q5,hbs⟩
  ·refine Calls.mono (P:=Tryz.prog) (O5 w) ?_
   rintro e w' ⟨rfl,rfl⟩
   exact ⟨[.slice none 0 0],mb 0,rfl,⟨⟨mb 0,[],by simp,f1,rfl⟩,m1,hfresh,hgone _,rfl,rfl,rfl,Nat.le_refl _,λ b _ _=>rfl⟩⟩
  ·have hg:g<w.heap.size:=(Array.getElem?_eq_some_iff.1 q1).1
   have hsz:l.toArray.size=l.length:=by simp
   have hcc:=S8 g 0 cap l.toArray w (ZY q1 q2 q4 q5) hg (by rw [hsz];exact hp) (by rw [hsz];exact q2) (by unfold maxLen at q3;omega)
   have hcu:Lib.compactUpTo l.toArray l.length=A4 l:=by rw [Is l _ (Nat.le_refl _),List.take_length]
   rw [hsz,hcu] at hcc
   refine Calls.mono (P:=Tryz.prog) hcc ?_
   rintro e w' ⟨rfl,ho,hs,d',hd1,hd2,hd3⟩
   obtain ⟨cur',p1,p2⟩:=hs cur _ _ q1
   have hlen:=Q4 l
   have htk:cur'.toList.take ((A4 l).length*2)=((A4 l).map AY).flatten:=ZZ λ j hj=>by
    obtain ⟨c0,c1⟩:=hd3 j hj
    have e:=hd2 j hj
    have e2:(A4 l).getD j (0,0)=d'[j]! := by rw [List.getD,e];rfl
    rw [FD p1,Nat.zero_add] at c0 c1
    rw [e2];exact ⟨c0,c1⟩
   have hfp:=X4 p1 (by omega) q3 (by rw [p2];exact q4) htk
   exact ⟨[.slice (some ⟨g,0,none⟩) (A4 l).length cap],mb 0,rfl,⟨⟨mb 0,[],by simp,by rw [hbs];exact hfp,rfl⟩,m1,hfresh,hgone _,ho.os,ho.tape,ho.output,ho.size,λ b hb hm=>ho.block b hb λ e=>hm 0 (by decide) (by rw [hbs];simp [e])⟩⟩
def G8:Con:={ ι:=(List V2),pre:=λ i=>i.length<=1048576,args:=λ i=>[.one (DC.sl 24 [.int,.int] (AA i))],res:=λ i=>⟨false,[none],[.own 24 [.int,.int] (AA (BO i))]⟩ }
theorem YB:G8.Ok Tryz.prog 147:=by
 refine fok (X:=⟨tt,[(36,A2),(175,Fg),(176,CZ),(178,A0),(179,C2),(180,EC)],[],31,[]⟩) mixed AN (CTok.cons Fe (CTok.cons Vs (CTok.cons Vt (CTok.cons Q5 (CTok.cons Vq (CTok.cons ZX (CTok.nil _))))))) Tryz.func147 (λ _=>[]) ?_
 intro (l:List V2) hpre
 have hpre:l.length<=1048576:=hpre
 refine AM (q:=let Z3:=DC.sl 24 [.int,.int] (AA l);let Z1:=(([]:List (List Dat))=AA (BO l));ifB ((!(decide ((nI ((AA l).length))>(64:Int))))) (∃ i1:(List V2),[DA.one Z3]=A2.args i1/\A2.pre i1/\(ifB ((!(i1.all AD))) Z1 (∃ i2:(List (List Dat)),[DA.one Z3]=Fg.args i2/\Fg.pre i2/\(∃ i3:(List V2),[DA.one (DC.sl 24 [.int,.int] i2),DA.one (DC.ro (.fn 177 []))]=CZ.args i3/\CZ.pre i3/\(∃ i4:(List V2),let Z2:=DC.sl 24 [.int,.int] (AA (A4 i4));[DA.one (DC.sl 24 [.int,.int] (AA (Bu i3)))]=A0.args i4/\A0.pre i4/\(ifB ((decide ((nI ((AA (A4 i4)).length))<(2:Int)))) ((AA (A4 i4)=AA (BO l))) (∃ i5:(List V2),[DA.one Z2]=C2.args i5/\C2.pre i5/\(∃ i6:(List V2),[DA.one Z2]=EC.args i6/\EC.pre i6/\(∃ i7:(List V2),[DA.one (DC.sl 24 [.int,.int] (AA i6.reverse))]=C2.args i7/\C2.pre i7/\(((AA (At i5)).length+(AA (At i7)).length<=2199023255552)/\(((AA (At i5)++AA (At i7))=AA (BO l))))))))))))) Z1) (by kernel_rfl) ?_
 conv=>zeta
 delta ifB nI
 have hvl:=AC l
 refine And.symm ⟨λ c1=>?_,λ c1=>?_⟩
 ·try simp only [nrm] at c1
  have hE:BO l=[]:=LD (by omega)
  rw [hE];rfl
 try simp only [nrm] at c1
 refine ⟨l,by
  rfl,by
  trivial,?_⟩
 refine ⟨λ c5=>?_,λ c5=>?_⟩
 ·try simp only [nrm] at c5
  have hE:=M9 c5
  rw [hE];rfl
 try simp only [nrm] at c5
 have hE:=I9 (by omega) c5
 have hU:=Un l
 have hlen:(A4 (Bu l)).length<=l.length:=by rw [hU];exact IJ l l.length
 have hvec:(A4 (Bu l)).all AD=true:=by rw [hU];exact PP c5 (Nat.le_refl _)
 have hvu:=AC (A4 (Bu l))
 refine ⟨(AA l),by
  rfl,by
  show (AA l).length<=1073741824
  omega,?_⟩
 refine ⟨l,by
  rfl,by
  exact ⟨c5,hpre⟩,?_⟩
 refine ⟨(Bu l),by
  rfl,by
  show (Bu l).length<=1048576
  rw [Ep];exact hpre,?_⟩
 refine ⟨λ c16=>?_,λ c16=>?_⟩
 ·try simp only [nrm] at c16
  rw [hE,hU,PQ (by rw [← hU];omega)]
 try simp only [nrm] at c16
 have hc1:=(M7 hvec).2
 have hc2:=(M7 (Ke hvec)).2
 have hrl:(A4 (Bu l)).reverse.length=(A4 (Bu l)).length:=List.length_reverse
 have hH:At (A4 (Bu l))++At (A4 (Bu l)).reverse=Mk (A4 (Bu l)):=by
  by_cases h2:(A4 (Bu l)).length=2
  ·exact WJ h2
  ·exact (JA (by omega)).symm
 refine ⟨(A4 (Bu l)),by
  rfl,by
  exact ⟨hvec,by omega,by omega⟩,?_⟩
 refine ⟨(A4 (Bu l)),by
  rfl,by
  show (A4 (Bu l)).length<=1048576
  omega,?_⟩
 refine ⟨(A4 (Bu l)).reverse,by
  rfl,by
  exact ⟨Ke hvec,by omega,by omega⟩,?_⟩
 refine ao (by rw [AC,AC];omega) λ o27=>?_
 rw [hE,← hU,← Ge,hH]
end Go.Proofs.YtkffpiaagjcmpaaGreat
namespace Go.Proofs.YtkffpiaagjcmpaaGreat
set_option linter.unusedVariables false
set_option linter.unusedSimpArgs false
open Go.RowKit
def ptS (b:List UInt8) (z:Int) (p:List V2×Cur):List V2×Cur:=
 (p.1++[(blV b p.2 (2*z+1)-z,blV b (blC b p.2 (2*z+1)) (2*z+1)-z)],blC b (blC b p.2 (2*z+1)) (2*z+1))
def ptN (b:List UInt8) (z:Int) (c:Cur):Nat->List V2×Cur
 | 0=>([],c)
 | j+1=>ptS b z (ptN b z c j)
def Fz (b:List UInt8) (c:Cur):Nat:=(3+blV b c 3).toNat
def att (b:List UInt8) (z:Int) (c:Cur):List V2×Cur:=ptN b z (blC b c 3) (Fz b c)
def drF (b:List UInt8) (z:Int):Nat->Cur->List V2×Cur
 | 0,c=>([(-1,-1),(1,-1),(0,1)],c)
 | k+1,c=>if AG (BO (att b z c).1)=true then (BO (att b z c).1,(att b z c).2) else drF b z k (att b z c).2
def drP (b:List UInt8) (z:Int) (c:Cur):List V2×Cur:=drF b z 8 c
def atC (b:List UInt8) (z:Int) (c:Cur):Nat->Cur
 | 0=>c
 | k+1=>(att b z (atC b z c k)).2
theorem EY (b:List UInt8) (z:Int) (c:Cur):∀ j,(ptN b z c j).1.length=j
 | 0=>rfl
 | j+1=>by simp [ptN,ptS,EY b z c j]
theorem DT {b:List UInt8} {c:Cur} (z:Int) (h:Ac b c):∀ j,Ac b (ptN b z c j).2
 | 0=>h
 | j+1=>Aw _ (Aw _ (DT z h j))
theorem TA {b:List UInt8} {c:Cur} (z:Int) (h:Ac b c):Ac b (att b z c).2:=DT z (Aw 3 h) _
theorem CH {b:List UInt8} {c:Cur} (z:Int) (h:Ac b c):∀ k,Ac b (atC b z c k)
 | 0=>h
 | k+1=>TA z (CH z h k)
theorem Q6 (b:List UInt8) (c:Cur):3<=Fz b c/\Fz b c<=5/\((Fz b c:Nat):Int)=3+blV b c 3:=by
 have:=A8 b c (n:=3) (by omega)
 unfold Fz;omega
theorem IC (l:List V2) (x y:Int):AA l++[[Dat.int x,Dat.int y]]=AA (l++[(x,y)]):=by simp [AA,Hd]
theorem YC {b:List UInt8} {z:Int} (hz:0<=z) (c:Cur):∀ j,∀ x ∈ (ptN b z c j).1,(-z<=x.1/\x.1<=z)/\-z<=x.2/\x.2<=z
 | 0,x,hx=>by simp [ptN] at hx
 | j+1,x,hx=>by
  simp only [ptN,ptS] at hx
  rcases List.mem_append.1 hx with hx|hx
  ·exact YC hz c j x hx
  ·rw [List.mem_singleton.1 hx]
   have q1:=A8 b (ptN b z c j).2 (n:=2*z+1) (by omega)
   have q2:=A8 b (blC b (ptN b z c j).2 (2*z+1)) (n:=2*z+1) (by omega)
   exact ⟨⟨by show -z<=_-z;omega,by show _-z<=z;omega⟩,by show -z<=_-z;omega,by show _-z<=z;omega⟩
theorem YD {b:List UInt8} {z:Int} (hz:1<=z):∀ k c,AG (drF b z k c).1=true/\(drF b z k c).1.length<=16/\∀ x ∈ (drF b z k c).1,(-z<=x.1/\x.1<=z)/\-z<=x.2/\x.2<=z
 | 0,c=>by
  refine ⟨by simp only [drF];decide,by simp [drF],λ x hx=>?_⟩
  simp only [drF,List.mem_cons,List.not_mem_nil,or_false] at hx
  rcases hx with rfl|rfl|rfl <;> exact ⟨⟨by omega,by omega⟩,by omega,by omega⟩
 | k+1,c=>by
  unfold drF
  split
  ·rename_i h
   refine ⟨h,?_,λ x hx=>?_⟩
   ·simp only [AG,Bool.and_eq_true,Az] at h
    have:=h.1.1
    simp only;omega
   ·exact YC (by omega) _ _ x (NE hx)
  ·exact YD hz k _
theorem TB {b:List UInt8} {z:Int} (hz:1<=z) (c:Cur):AG (drP b z c).1=true/\(drP b z c).1.length<=16/\∀ x ∈ (drP b z c).1,(-z<=x.1/\x.1<=z)/\-z<=x.2/\x.2<=z:=YD hz 8 c
theorem UV {b:List UInt8} {z:Int} : ∀ k c,Ac b c->Ac b (drF b z k c).2
 | 0,c,h=>h
 | k+1,c,h=>by
  unfold drF
  split
  ·exact TA z h
  ·exact UV k _ (TA z h)
def It:(List UInt8)×Cur×Int->List PC:=λ i=>[.bt i.1,.im (.int .i64 i.2.1.i),.im (.int .i64 i.2.1.h)]
def Q7:(List UInt8)×Cur×Int->List PC:=λ i=>[.bt i.1,.im (.int .i64 (((drP i.1 i.2.2 i.2.1).2).i)),.im (.int .i64 (((drP i.1 i.2.2 i.2.1).2).h))]
def Ds:Con:={ ι:=(List UInt8)×Cur×Int,pre:=λ i=>Ac i.1 i.2.1/\0<=i.2.2/\i.2.2<=1000,args:=λ i=>[.one (cI i.2.2)],ptr:=some (It,Q7),res:=λ i=>⟨false,[none],[.own 24 [.int,.int] (AA (drP i.1 i.2.2 i.2.1).1)]⟩ }
set_option maxRecDepth 100000 in
theorem YE:Ds.OkP Tryz.prog 70 It Q7:=by
 refine XR (X:=⟨tt,[(69,AP),(124,G7),(125,EV)],[4000000],48,[]⟩) mixed AN (CTok.consP L1 (CTok.cons YA (CTok.cons S0 (CTok.nil _)))) Tryz.func70 (λ (i:(List UInt8)×Cur×Int)=>[(2,.mk 3 (Nat) (λ x1=>let Z3:=atC i.1 i.2.2 i.2.1 x1;{ tm:=[(0,tP 1 0),(1,tI i.2.2),(5,tI (x1:Int))],en:=[(1,.box [.ext 2,kI (Z3.i),kI (Z3.h)]),(2,.ro (.bytes i.1) [])] }) (λ x1=>x1<=8/\drF i.1 i.2.2 (8-x1) (atC i.1 i.2.2 i.2.1 x1)=drP i.1 i.2.2 i.2.1) (λ x1=>8-x1) (λ x1=>let Z1:=atC i.1 i.2.2 i.2.1 x1;[(6,.mk 4 (Nat) (λ x2=>let Z2:=ptN i.1 i.2.2 (blC i.1 Z1 3) x2;{ tm:=[(0,tP 1 0),(1,tI i.2.2),(5,tI (x1:Int)),(7,tI ((nI (Fz i.1 Z1))-(x2:Int))),(6,tX 3)],en:=[(1,.box [.ext 2,kI (Z2.2.i),kI (Z2.2.h)]),(2,.ro (.bytes i.1) []),(3,.own 24 [.int,.int] (AA Z2.1))] }) (λ x2=>x2<=Fz i.1 Z1) (λ x2=>Fz i.1 Z1-x2) (λ _=>[]))]))]) ?_
 rintro ⟨b,c,z⟩ hpre
 have hpre:Ac b c/\0<=z/\z<=1000:=hpre
 refine AM (q:=let Z7:=drP b z c;let Z5:=cI (wR ((wR ((2:Int)*z))+(1:Int)));let Z3:=(.bytes b:RO)=.bytes b;(∃ x1:Nat,let Z12:=atC b z c x1;(x1<=8/\drF b z (8-x1) Z12=drP b z c)/\((rf (vI z))/\(vI (0:Int)=vI (x1:Int))/\(vI c.i=vI (Z12.i))/\(vI c.h=vI (Z12.h))/\Z3))/\∀ x1:Nat,let Z1:=atC b z c x1;let Z6:=nI (Fz b Z1);let Z4:=blC b Z1 3;(x1<=8/\drF b z (8-x1) Z1=drP b z c)->(ifB ((decide ((x1:Int)<(8:Int)))) (∃ i1:(List UInt8)×Cur×Int,let Z13:=blC i1.1 i1.2.1 i1.2.2;[DA.one (cI (3:Int))]=AP.args i1/\[PC.bt b,PC.im (vI (Z1.i)),PC.im (vI (Z1.h))]=BC i1/\AP.pre i1/\((∃ x2:Nat,let Z10:=ptN b z Z4 x2;(x2<=Fz b Z1)/\((rf (vI z))/\(rf (vI (x1:Int)))/\(vI (wR ((3:Int)+(blV i1.1 i1.2.1 i1.2.2)))=vI (Z6-(x2:Int)))/\(vI (Z13.i)=vI (Z10.2.i))/\(vI (Z13.h)=vI (Z10.2.h))/\Z3/\(([]:List (List Dat))=(AA Z10.1))))/\∀ x2:Nat,let Z2:=ptN b z Z4 x2;(x2<=Fz b Z1)->(ifB ((decide ((Z6-(x2:Int))>(0:Int)))) (∃ i2:(List UInt8)×Cur×Int,let Z14:=blC i2.1 i2.2.1 i2.2.2;let Z8:=wR ((blV i2.1 i2.2.1 i2.2.2)-z);[DA.one Z5]=AP.args i2/\[PC.bt b,PC.im (vI (Z2.2.i)),PC.im (vI (Z2.2.h))]=BC i2/\AP.pre i2/\(∃ i3:(List UInt8)×Cur×Int,let Z15:=blC i3.1 i3.2.1 i3.2.2;let Z9:=wR ((blV i3.1 i3.2.1 i3.2.2)-z);[DA.one Z5]=AP.args i3/\[PC.bt b,PC.im (vI (Z14.i)),PC.im (vI (Z14.h))]=BC i3/\AP.pre i3/\(((AA Z2.1).length+([[Dat.int Z8,Dat.int Z9]]:List (List Dat)).length<=2199023255552)/\(∃ y3:Nat,let Z11:=ptN b z Z4 y3;(y3<=Fz b Z1)/\(Fz b Z1-y3<Fz b Z1-x2)/\((rf (vI z))/\(rf (vI (x1:Int)))/\(vI (wR ((Z6-(x2:Int))-(1:Int)))=vI (Z6-(y3:Int)))/\(vI (Z15.i)=vI (Z11.2.i))/\(vI (Z15.h)=vI (Z11.2.h))/\Z3/\(((AA Z2.1)++([[Dat.int Z8,Dat.int Z9]]:List (List Dat)))=(AA Z11.1))))))) (∃ i4:(List V2),[DA.one (DC.sl 24 [.int,.int] (AA Z2.1))]=G7.args i4/\G7.pre i4/\(∃ i5:(List V2),[DA.one (DC.sl 24 [.int,.int] (AA (BO i4)))]=EV.args i5/\EV.pre i5/\(ifB ((AG i5)) ((AA (BO i4)=AA Z7.1)/\(vI (Z2.2.i)=vI ((Z7.2).i))/\(vI (Z2.2.h)=vI ((Z7.2).h))) (∃ y4:Nat,let Z16:=atC b z c y4;(y4<=8/\drF b z (8-y4) Z16=drP b z c)/\(8-y4<8-x1)/\((rf (vI z))/\(vI (wR ((x1:Int)+(1:Int)))=vI (y4:Int))/\(vI (Z2.2.i)=vI (Z16.i))/\(vI (Z2.2.h)=vI (Z16.h))/\Z3)))))))) ((([[Dat.int (-1:Int),Dat.int (-1:Int)],[Dat.int (1:Int),Dat.int (-1:Int)],[Dat.int (0:Int),Dat.int (1:Int)]]:List (List Dat))=AA Z7.1)/\(vI (Z1.i)=vI ((Z7.2).i))/\(vI (Z1.h)=vI ((Z7.2).h))))) (by kernel_rfl) ?_
 conv=>zeta
 delta ifB vI wR nI
 obtain ⟨hc,hz0,hz1⟩:=hpre
 have hw:IntKind.i64.wrap (IntKind.i64.wrap (2*z)+1)=2*z+1:=by rw [AE (x:=2*z) (by omega) (by omega),AE (by omega) (by omega)]
 refine ⟨⟨0,by
  exact ⟨Nat.zero_le _,rfl⟩,?_⟩,?_⟩
 ·refine ⟨rfl,rfl,?_,?_,?_⟩
  ·rfl
  ·rfl
  rfl
 intro (k:Nat) hki1
 have hki1:k<=8/\drF b z (8-k) (atC b z c k)=drP b z c:=hki1
 refine And.symm ⟨λ c8=>?_,λ c8=>?_⟩
 ·try simp only [nrm] at c8
  have hr:drP b z c=([(-1,-1),(1,-1),(0,1)],atC b z c k):=by rw [← hki1.2,show 8-k=0 by omega];rfl
  refine ⟨?_,?_,?_⟩
  ·first|(rw [hr];done)|(rw [hr];rfl)|(rw [hr,hpt];done)
  ·first|(rw [hr];done)|(rw [hr];rfl)|(rw [hr,hpt];done)
  first|(rw [hr];done)|(rw [hr];rfl)|(rw [hr,hpt];done)
 try simp only [nrm] at c8
 have hcr:=Q6 b (atC b z c k)
 refine ⟨(b,(atC b z c k),(3:Int)),by
  rfl,rfl,by
  show Ac b (atC b z c k)
  first|exact CH z hc k|exact (DT z (Aw 3 (CH z hc k)) j)|exact Aw _ (DT z (Aw 3 (CH z hc k)) j)|(rw [EY];omega)|trivial,?_⟩
 refine ⟨⟨0,by
  first|omega|trivial,?_⟩,?_⟩
 ·refine ⟨rfl,rfl,?_,?_,?_,?_,?_⟩
  ·show Value.int .i64 (IntKind.i64.wrap ((3:Int)+(blV b (atC b z c k) (3:Int))))=Value.int .i64 ((((Fz b (atC b z c k)):Nat):Int)-(0:Int))
   first|rfl|exact AR (by rw [AE (by omega) (by omega)];omega)
  ·show Value.int .i64 ((blC b (atC b z c k) (3:Int)).i)=Value.int .i64 ((ptN b z (blC b (atC b z c k) 3) 0).2.i)
   first|rfl|exact AR (by rw [AE (by omega) (by omega)];omega)
  ·show Value.int .i64 ((blC b (atC b z c k) (3:Int)).h)=Value.int .i64 ((ptN b z (blC b (atC b z c k) 3) 0).2.h)
   first|rfl|exact AR (by rw [AE (by omega) (by omega)];omega)
  ·first|rfl|exact AR (by rw [AE (by omega) (by omega)];omega)
  first|rfl|exact AR (by rw [AE (by omega) (by omega)];omega)
 intro (j:Nat) hki12
 have hki12:j<=Fz b (atC b z c k):=hki12
 refine ⟨λ c21=>?_,λ c21=>?_⟩
 ·try simp only [nrm] at c21
  have q1:=A8 b (ptN b z (blC b (atC b z c k) 3) j).2 (n:=2*z+1) (by omega)
  have q2:=A8 b (blC b (ptN b z (blC b (atC b z c k) 3) j).2 (2*z+1)) (n:=2*z+1) (by omega)
  refine ⟨(b,(ptN b z (blC b (atC b z c k) 3) j).2,(2*z+1)),by
   exact congrArg (λ x=>[DA.one (DC.im (Value.int .i64 x))]) hw,rfl,by
   show Ac b ((ptN b z (blC b (atC b z c k) 3) j).2)
   first|exact CH z hc k|exact (DT z (Aw 3 (CH z hc k)) j)|exact Aw _ (DT z (Aw 3 (CH z hc k)) j)|(rw [EY];omega)|trivial,?_⟩
  refine ⟨(b,(blC b (ptN b z (blC b (atC b z c k) 3) j).2 (2*z+1)),(2*z+1)),by
   exact congrArg (λ x=>[DA.one (DC.im (Value.int .i64 x))]) hw,rfl,by
   show Ac b (blC b (ptN b z (blC b (atC b z c k) 3) j).2 (2*z+1))
   first|exact CH z hc k|exact (DT z (Aw 3 (CH z hc k)) j)|exact Aw _ (DT z (Aw 3 (CH z hc k)) j)|(rw [EY];omega)|trivial,?_⟩
  refine ao (a:=(AA (ptN b z (blC b (atC b z c k) 3) j).1).length+([[Dat.int (IntKind.i64.wrap ((blV b ((ptN b z (blC b (atC b z c k) 3) j).2) (2*z+1))-z)),Dat.int (IntKind.i64.wrap ((blV b (blC b (ptN b z (blC b (atC b z c k) 3) j).2 (2*z+1)) (2*z+1))-z))]]:List (List Dat)).length<=2199023255552) (by first|rfl|omega|(rw [AC,EY];simp only [List.length_cons,List.length_nil];omega)) λ o28=>?_
  refine ⟨j+1,by
   first|omega|trivial,by
   first|omega|(simp;omega),?_⟩
  refine ⟨rfl,rfl,?_,?_,?_,?_,?_⟩
  ·first|rfl|exact AR (by rw [AE (by omega) (by omega)];omega)
  ·show Value.int .i64 ((blC b (blC b (ptN b z (blC b (atC b z c k) 3) j).2 (2*z+1)) (2*z+1)).i)=Value.int .i64 ((ptN b z (blC b (atC b z c k) 3) (j+1)).2.i)
   first|rfl|exact AR (by rw [AE (by omega) (by omega)];omega)
  ·show Value.int .i64 ((blC b (blC b (ptN b z (blC b (atC b z c k) 3) j).2 (2*z+1)) (2*z+1)).h)=Value.int .i64 ((ptN b z (blC b (atC b z c k) 3) (j+1)).2.h)
   first|rfl|exact AR (by rw [AE (by omega) (by omega)];omega)
  ·first|rfl|exact AR (by rw [AE (by omega) (by omega)];omega)
  show ((AA (ptN b z (blC b (atC b z c k) 3) j).1)++([[Dat.int (IntKind.i64.wrap ((blV b ((ptN b z (blC b (atC b z c k) 3) j).2) (2*z+1))-z)),Dat.int (IntKind.i64.wrap ((blV b (blC b (ptN b z (blC b (atC b z c k) 3) j).2 (2*z+1)) (2*z+1))-z))]]:List (List Dat)))=(AA (ptN b z (blC b (atC b z c k) 3) (j+1)).1)
  rw [AE (by omega) (by omega),AE (by omega) (by omega)];exact IC _ _ _
 try simp only [nrm] at c21
 have hj:Fz b (atC b z c k)=j:=by omega
 have hpt:ptN b z (blC b (atC b z c k) 3) j=att b z (atC b z c k):=by unfold att;rw [hj]
 refine ⟨(ptN b z (blC b (atC b z c k) 3) j).1,by
  rfl,by
  show ((ptN b z (blC b (atC b z c k) 3) j).1).length<=1048576
  first|exact CH z hc k|exact (DT z (Aw 3 (CH z hc k)) j)|exact Aw _ (DT z (Aw 3 (CH z hc k)) j)|(rw [EY];omega)|trivial,?_⟩
 refine ⟨(BO ((ptN b z (blC b (atC b z c k) 3) j).1)),by
  rfl,by
  first|exact CH z hc k|exact (DT z (Aw 3 (CH z hc k)) j)|exact Aw _ (DT z (Aw 3 (CH z hc k)) j)|(rw [EY];omega)|trivial,?_⟩
 refine ⟨λ c45=>?_,λ c45=>?_⟩
 ·try simp only [nrm] at c45
  rw [hpt] at c45
  have hr:drP b z c=(BO (att b z (atC b z c k)).1,(att b z (atC b z c k)).2):=by rw [← hki1.2,show 8-k=(7-k)+1 by omega];exact if_pos c45
  refine ⟨?_,?_,?_⟩
  ·first|(rw [hr];done)|(rw [hr];rfl)|(rw [hr,hpt];done)
  ·first|(rw [hr];done)|(rw [hr];rfl)|(rw [hr,hpt];done)
  first|(rw [hr];done)|(rw [hr];rfl)|(rw [hr,hpt];done)
 try simp only [nrm] at c45
 rw [hpt] at c45
 have hr:drF b z (8-(k+1)) (atC b z c (k+1))=drP b z c:=by rw [← hki1.2,show 8-k=(8-(k+1))+1 by omega];exact (if_neg (by rw [c45];simp)).symm
 refine ⟨k+1,by
  exact ⟨by omega,hr⟩,by
  first|omega|(simp;omega),?_⟩
 refine ⟨rfl,?_,?_,?_,?_⟩
 ·first|exact AR (AE (by omega) (by omega))|rfl|(rw [hpt];rfl)
 ·first|exact AR (AE (by omega) (by omega))|rfl|(rw [hpt];rfl)
 ·first|exact AR (AE (by omega) (by omega))|rfl|(rw [hpt];rfl)
 first|exact AR (AE (by omega) (by omega))|rfl|(rw [hpt];rfl)
end Go.Proofs.YtkffpiaagjcmpaaGreat
