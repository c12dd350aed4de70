import Derived.Test.YtkffpiaagjcmpaaGreatEvRkJ
import Derived.Test.YtkffpiaagjcmpaaGreatEvHulS
import Derived.Test.YtkffpiaagjcmpaaGreatEvRkD0
import Derived.Test.YtkffpiaagjcmpaaGreatEvRkG
import Derived.Test.YtkffpiaagjcmpaaGreatEvHus
namespace Go.Proofs.YtkffpiaagjcmpaaGreat
set_option maxRecDepth 100000
set_option linter.unusedVariables false
set_option linter.unusedSimpArgs false
open Go.RowKit Go.Sort Go.Shelf
def Fg:Con:={ ι:=Int×Int×Int×Int×Int×Int,pre:=λ i=>AE (i.1,i.2.1)=true/\AE (i.2.2.1,i.2.2.2.1)=true/\AE (i.2.2.2.2.1,i.2.2.2.2.2)=true,args:=λ i=>[DA.agg [cI i.1,cI i.2.1],DA.agg [cI i.2.2.1,cI i.2.2.2.1],DA.agg [cI i.2.2.2.2.1,cI i.2.2.2.2.2]],res:=λ i=>⟨false,[none],[rcI (AH (i.1,i.2.1) (i.2.2.1,i.2.2.2.1) (i.2.2.2.2.1,i.2.2.2.2.2))]⟩ }
theorem Ya:Fg.Ok Tryz.prog 41:=CY rfl ⟨_,Tryz.func41,by decide,rfl⟩ (λ _=>Nat.le_of_ble_eq_true rfl) (λ _=>rfl) (λ i=>[.im (.int .i64 (AH (i.1,i.2.1) (i.2.2.1,i.2.2.2.1) (i.2.2.2.2.1,i.2.2.2.2.2)))]) (λ _=>rfl) (λ _=>rfl) (λ i hp w us h=>by
 obtain ⟨a1,a2,b1,b2,c1,c2⟩:=i
 have h:RdRow w [.int,.int,.int,.int,.int,.int] [.int a1,.int a2,.int b1,.int b2,.int c1,.int c2] us:=h
 obtain ⟨x1,_,rfl,q1,h⟩:=RdRow.cons2 h
 obtain ⟨x2,_,rfl,q2,h⟩:=RdRow.cons2 h
 obtain ⟨x3,_,rfl,q3,h⟩:=RdRow.cons2 h
 obtain ⟨x4,_,rfl,q4,h⟩:=RdRow.cons2 h
 obtain ⟨x5,_,rfl,q5,h⟩:=RdRow.cons2 h
 obtain ⟨x6,_,rfl,q6,h⟩:=RdRow.cons2 h
 obtain ⟨-,rfl⟩:=RdRow.nil_inv h
 obtain rfl:=Rd.int2 q1
 obtain rfl:=Rd.int2 q2
 obtain rfl:=Rd.int2 q3
 obtain rfl:=Rd.int2 q4
 obtain rfl:=Rd.int2 q5
 obtain rfl:=Rd.int2 q6
 refine (Xv a1 a2 b1 b2 c1 c2 hp.1 hp.2.1 hp.2.2 w).mono ?_
 rintro e w' ⟨rfl,hb⟩
 exact ⟨[Value.int .i64 (AH (a1,a2) (b1,b2) (c1,c2))],rfl,Own.leaf (Fp.mk_int _),hb⟩)
def Fh:Con:={ ι:=Int×Int×Int×Int×Int×Int,pre:=λ i=>AE (i.1,i.2.1)=true/\AE (i.2.2.1,i.2.2.2.1)=true/\AE (i.2.2.2.2.1,i.2.2.2.2.2)=true,args:=λ i=>[DA.agg [cI i.1,cI i.2.1],DA.agg [cI i.2.2.1,cI i.2.2.2.1],DA.agg [cI i.2.2.2.2.1,cI i.2.2.2.2.2]],res:=λ i=>⟨false,[none],[rcI (AH (i.1,i.2.1) (i.2.2.1,i.2.2.2.1) (i.2.2.2.2.1,i.2.2.2.2.2))]⟩ }
theorem Yb:Fh.Ok Tryz.prog 162:=CY rfl ⟨_,Tryz.func162,by decide,rfl⟩ (λ _=>Nat.le_of_ble_eq_true rfl) (λ _=>rfl) (λ i=>[.im (.int .i64 (AH (i.1,i.2.1) (i.2.2.1,i.2.2.2.1) (i.2.2.2.2.1,i.2.2.2.2.2)))]) (λ _=>rfl) (λ _=>rfl) (λ i hp w us h=>by
 obtain ⟨a1,a2,b1,b2,c1,c2⟩:=i
 have h:RdRow w [.int,.int,.int,.int,.int,.int] [.int a1,.int a2,.int b1,.int b2,.int c1,.int c2] us:=h
 obtain ⟨x1,_,rfl,q1,h⟩:=RdRow.cons2 h
 obtain ⟨x2,_,rfl,q2,h⟩:=RdRow.cons2 h
 obtain ⟨x3,_,rfl,q3,h⟩:=RdRow.cons2 h
 obtain ⟨x4,_,rfl,q4,h⟩:=RdRow.cons2 h
 obtain ⟨x5,_,rfl,q5,h⟩:=RdRow.cons2 h
 obtain ⟨x6,_,rfl,q6,h⟩:=RdRow.cons2 h
 obtain ⟨-,rfl⟩:=RdRow.nil_inv h
 obtain rfl:=Rd.int2 q1
 obtain rfl:=Rd.int2 q2
 obtain rfl:=Rd.int2 q3
 obtain rfl:=Rd.int2 q4
 obtain rfl:=Rd.int2 q5
 obtain rfl:=Rd.int2 q6
 refine (Xw a1 a2 b1 b2 c1 c2 hp.1 hp.2.1 hp.2.2 w).mono ?_
 rintro e w' ⟨rfl,hb⟩
 exact ⟨[Value.int .i64 (AH (a1,a2) (b1,b2) (c1,c2))],rfl,Own.leaf (Fp.mk_int _),hb⟩)
def E7:Con:={ ι:=Int×Int×Int×Int,pre:=λ i=>True,args:=λ i=>[DA.agg [cI i.1,cI i.2.1],DA.agg [cI i.2.2.1,cI i.2.2.2]],res:=λ i=>⟨false,[none],[rcB (Ac (i.1,i.2.1) (i.2.2.1,i.2.2.2))]⟩ }
theorem Tb:E7.Ok Tryz.prog 159:=by
 refine fok (X:=⟨tt,[],[],24,[]⟩) mixed AQ (CTok.nil _) Tryz.func159 (λ _=>[]) ?_
 rintro ⟨a1,a2,b1,b2⟩ hpre
 have hpre:True:=hpre
 refine AP (q:=let Z1:=Ac (a1,a2) (b1,b2);ifB ((!(decide (a1<b1)))) (ifB ((a1 == b1)) ((vB (decide (a2<b2))=vB Z1)) ((vB false=vB Z1))) ((vB true=vB Z1))) (by kernel_rfl) ?_
 conv=>zeta
 delta ifB vB
 refine And.symm ⟨λ c1=>?_,λ c1=>?_⟩
 ·try simp only [nrm] at c1
  exact congrArg Value.bool (by unfold Ac;simp_all)
 try simp only [nrm] at c1
 refine ⟨λ c2=>?_,λ c2=>?_⟩
 ·try simp only [nrm] at c2
  exact congrArg Value.bool (by unfold Ac;simp_all)
 try simp only [nrm] at c2
 exact congrArg Value.bool (by unfold Ac;simp_all)
def Dd:Con:={ ι:=(List V2),pre:=λ i=>i.all AE=true/\0<i.length/\i.length<=64,args:=λ i=>[.one (DC.sl 24 [.int,.int] (AA i))],res:=λ i=>⟨false,[none],[.own 24 [.int,.int] (AA (A1 i))]⟩ }
theorem WB:Dd.Ok Tryz.prog 179:=by
 refine fok (X:=⟨tt,[(41,Fg)],[37,47],48,[]⟩) mixed AQ (CTok.cons Ya (CTok.nil _)) Tryz.func179 (λ (i:(List V2))=>[(3,.mk 3 (Nat) (λ x1=>{ tm:=[(7,tX 1),(8,tI (nI ((AA i).length))),(9,tI (nI x1)),(3,tX 2)],en:=[(1,.view 24 [.int,.int] (AA i) []),(2,.own 24 [.int,.int] (AA (chT i x1)))] }) (λ x1=>x1<=i.length) (λ x1=>i.length-x1) (λ x1=>[(5,.mk 4 ((List V2)) (λ x2=>{ tm:=[(7,tX 1),(8,tI (nI ((AA i).length))),(9,tI (nI x1)),(5,tP 2 0),(3,tX 3)],en:=[(2,.box [kI (((((AA i).getD x1 []).getD 0 (.int 0))).n),kI (((((AA i).getD x1 []).getD 1 (.int 0))).n)]),(1,.view 24 [.int,.int] (AA i) []),(3,.own 24 [.int,.int] (AA x2))] }) (λ x2=>B0 x2 (i.getD x1 (0,0))=B0 (chT i x1) (i.getD x1 (0,0))/\x2.length<=x1/\x2.all AE=true) (λ x2=>x2.length) (λ _=>[]))]))]) ?_
 intro (l:List V2) hpre
 have hpre:l.all AE=true/\0<l.length/\l.length<=64:=hpre
 refine AP (q:=let Z6:=vI (nI ((AA l).length));(∃ x1:Nat,(x1<=l.length)/\((rf Z6)/\(vI (0:Int)=vI (nI x1))/\(rf (AA l))/\(([]:List (List Dat))=(AA (chT l x1)))))/\∀ x1:Nat,let Z16:=wR ((nI x1)+(1:Int));let Z15:=chT l x1;let Z12:=AA Z15;let Z11:=l.getD x1 (0,0);let Z7:=wR ((nI (Z12.length))-(1:Int));let Z2:=(AA l).getD x1 [];let Z10:=(Z2.getD 1 (.int 0));let Z9:=(Z2.getD 0 (.int 0));(x1<=l.length)->(ifB ((decide ((nI x1)<(nI ((AA l).length))))) ((0<=(nI x1)/\(nI x1)<((AA l).length:Int))/\((x1<(AA l).length)/\((∃ x2:(List V2),(B0 x2 Z11=B0 Z15 Z11/\x2.length<=x1/\x2.all AE=true)/\((rf Z6)/\(rf (vI (nI x1)))/\(rf (vI Z9.n))/\(rf (vI Z10.n))/\(rf (AA l))/\(Z12=(AA x2))))/\∀ x2:(List V2),let Z8:=AA x2;let Z14:=nI (Z8.length);let Z13:=(Z8.length:Int);let Z5:=Z8++([[Dat.int (Z9.n),Dat.int (Z10.n)]]:List (List Dat));let Z4:=Z8.length+([[Dat.int (Z9.n),Dat.int (Z10.n)]]:List (List Dat)).length<=2199023255552;let Z3:=wR (Z14-(2:Int));let Z1:=wR (Z14-(1:Int));(B0 x2 Z11=B0 Z15 Z11/\x2.length<=x1/\x2.all AE=true)->(ifB ((decide (Z14>(1:Int)))) ((0<=Z3/\Z3<Z13)/\((Z3.toNat<Z8.length)/\((0<=Z1/\Z1<Z13)/\((Z1.toNat<Z8.length)/\(∃ i1:Int×Int×Int×Int×Int×Int,[DA.agg [cI ((((Z8.getD (Z3.toNat) []).getD 0 (.int 0))).n),cI ((((Z8.getD (Z3.toNat) []).getD 1 (.int 0))).n)],DA.agg [cI ((((Z8.getD (Z1.toNat) []).getD 0 (.int 0))).n),cI ((((Z8.getD (Z1.toNat) []).getD 1 (.int 0))).n)],DA.agg [cI (Z9.n),cI (Z10.n)]]=Fg.args i1/\Fg.pre i1/\(ifB ((decide ((AH (i1.1,i1.2.1) (i1.2.2.1,i1.2.2.2.1) (i1.2.2.2.2.1,i1.2.2.2.2.2))<=(0:Int)))) ((Nat.beq 2 2=true)/\(((0:Int)=0)/\((0<=Z1)/\((Z1<=Z13)/\(∃ y3:(List V2),(B0 y3 Z11=B0 Z15 Z11/\y3.length<=x1/\y3.all AE=true)/\(y3.length<x2.length)/\((rf Z6)/\(rf (vI (nI x1)))/\(rf (vI Z9.n))/\(rf (vI Z10.n))/\(rf (AA l))/\((Z8.take (Z1.toNat))=(AA y3)))))))) (Z4/\(∃ y4:Nat,(y4<=l.length)/\(l.length-y4<l.length-x1)/\((rf Z6)/\(vI Z16=vI (nI y4))/\(rf (AA l))/\(Z5=(AA (chT l y4)))))))))))) (Z4/\(∃ y5:Nat,(y5<=l.length)/\(l.length-y5<l.length-x1)/\((rf Z6)/\(vI Z16=vI (nI y5))/\(rf (AA l))/\(Z5=(AA (chT l y5)))))))))) ((Nat.beq 2 2=true)/\(((0:Int)=0)/\((0<=Z7)/\((Z7<=(Z12.length:Int))/\(((Z12.take (Z7.toNat))=AA (A1 l))))))))) (by kernel_rfl) ?_
 conv=>zeta
 delta ifB vI wR nI
 have hvl:=AB l
 refine ⟨⟨0,by
  omega,?_⟩,?_⟩
 ·refine ⟨rfl,?_,rfl,?_⟩
  ·rfl
  rfl
 intro (k:Nat) hki1
 have hki1:k<=l.length:=hki1
 refine And.symm ⟨λ c7=>?_,λ c7=>?_⟩
 ·try simp only [nrm] at c7
  have hk:l.length=k:=by omega
  have hcb:=KH hpre.1 k (by omega)
  have hp:0<(chT l k).length:=by obtain ⟨m,rfl⟩:∃ m,k=m+1:=⟨k-1,by omega⟩;exact Ui l m
  have hvc:=AB (chT l k)
  have hw3:IntKind.i64.wrap ((((AA (chT l k)).length:Nat):Int)-(1:Int))=(((chT l k).length-1:Nat):Int):=by rw [hvc,AC (by omega) (by omega)];omega
  refine ao (by rfl) λ o56=>?_
  refine ao (by rfl) λ o57=>?_
  refine ao (by omega) λ o58=>?_
  refine ao (by omega) λ o59=>?_
  rw [hw3,Int.toNat_natCast];show _=AA (LB (chT l l.length));rw [hk];simp [AA,LB,List.map_take]
 try simp only [nrm] at c7
 have hkl:k<l.length:=by omega
 have hV:=A7 hpre.1 hkl
 have hcb:=KH hpre.1 k (by omega)
 refine ao (by omega) λ o8=>?_
 refine ao (by omega) λ o9=>?_
 refine ⟨⟨chT l k,by
  exact ⟨rfl,hcb.1,hcb.2⟩,?_⟩,?_⟩
 ·exact ⟨rfl,rfl,rfl,rfl,rfl,rfl⟩
 intro (o:List V2) hki10
 have hki10:B0 o (l.getD k (0,0))=B0 (chT l k) (l.getD k (0,0))/\o.length<=k/\o.all AE=true:=hki10
 have hvo:=AB o
 refine And.symm ⟨λ c18=>?_,λ c18=>?_⟩
 ·try simp only [nrm] at c18
  have hn:B0 o (l.getD k (0,0))=o:=Cp (λ h=>by omega)
  refine ao (by simp only [AB,List.length_cons,List.length_nil];omega) λ o48=>?_
  refine ⟨k+1,by
   trivial,by
   omega,?_⟩
  refine ⟨rfl,?_,rfl,?_⟩
  ·exact AS (AC (by omega) (by omega))
  rw [Aj hkl,Aw hkl,← JG hki10.1 hn];simp [AA,Hz]
 try simp only [nrm] at c18
 have ho:1<o.length:=by omega
 have hw2:IntKind.i64.wrap ((((AA o).length:Nat):Int)-(2:Int))=((o.length-2:Nat):Int):=by rw [hvo,AC (by omega) (by omega)];omega
 have hw1:IntKind.i64.wrap ((((AA o).length:Nat):Int)-(1:Int))=((o.length-1:Nat):Int):=by rw [hvo,AC (by omega) (by omega)];omega
 refine ao (by omega) λ o19=>?_
 refine ao (by omega) λ o20=>?_
 refine ao (by omega) λ o21=>?_
 refine ao (by omega) λ o22=>?_
 refine ⟨((o.getD (o.length-2) (0,0)).1,(o.getD (o.length-2) (0,0)).2,(o.getD (o.length-1) (0,0)).1,(o.getD (o.length-1) (0,0)).2,(l.getD k (0,0)).1,(l.getD k (0,0)).2),by
  rw [hw2,hw1,Int.toNat_natCast,Int.toNat_natCast,Aj (show o.length-2<o.length by omega),Aw (show o.length-2<o.length by omega),Aj (show o.length-1<o.length by omega),Aw (show o.length-1<o.length by omega),Aj hkl,Aw hkl];rfl,by
  try dsimp only [Fg]
  exact ⟨A7 hki10.2.2 (show o.length-2<o.length by omega),A7 hki10.2.2 (show o.length-1<o.length by omega),hV⟩,?_⟩
 refine And.symm ⟨λ c26=>?_,λ c26=>?_⟩
 ·try dsimp only at c26
  try simp only [nrm] at c26
  have hn:B0 o (l.getD k (0,0))=o:=Cp (λ h=>Int.not_le.2 c26 h.2)
  refine ao (by simp only [AB,List.length_cons,List.length_nil];omega) λ o40=>?_
  refine ⟨k+1,by
   trivial,by
   omega,?_⟩
  refine ⟨rfl,?_,rfl,?_⟩
  ·exact AS (AC (by omega) (by omega))
  rw [Aj hkl,Aw hkl,← JG hki10.1 hn];simp [AA,Hz]
 try dsimp only at c26
 try simp only [nrm] at c26
 refine ao (by rfl) λ o27=>?_
 refine ao (by rfl) λ o28=>?_
 refine ao (by omega) λ o29=>?_
 refine ao (by omega) λ o30=>?_
 refine ⟨o.take (o.length-1),by
  exact ⟨(JF ho c26).trans hki10.1,by simp only [List.length_take];omega,by rw [List.all_eq_true];exact λ x hx=>List.all_eq_true.1 hki10.2.2 x (List.mem_of_mem_take hx)⟩,by
  simp only [List.length_take];omega,?_⟩
 refine ⟨rfl,rfl,rfl,rfl,rfl,?_⟩
 rw [hw1,Int.toNat_natCast];simp [AA,List.map_take]
def De:Con:={ ι:=(List V2),pre:=λ i=>i.all AE=true/\0<i.length/\i.length<=64,args:=λ i=>[.one (DC.sl 24 [.int,.int] (AA i))],res:=λ i=>⟨false,[none],[.own 24 [.int,.int] (AA (chT i i.length))]⟩ }
theorem WC:De.Ok Tryz.prog 160:=by
 refine fok (X:=⟨tt,[(162,Fh)],[37],44,[]⟩) mixed AQ (CTok.cons Yb (CTok.nil _)) Tryz.func160 (λ (i:(List V2))=>[(3,.mk 3 (Nat) (λ x1=>{ tm:=[(7,tX 1),(8,tI (nI ((AA i).length))),(9,tI (nI x1)),(3,tX 2)],en:=[(1,.view 24 [.int,.int] (AA i) []),(2,.own 24 [.int,.int] (AA (chT i x1)))] }) (λ x1=>x1<=i.length) (λ x1=>i.length-x1) (λ x1=>[(5,.mk 4 ((List V2)) (λ x2=>{ tm:=[(7,tX 1),(8,tI (nI ((AA i).length))),(9,tI (nI x1)),(5,tP 2 0),(3,tX 3)],en:=[(2,.box [kI (((((AA i).getD x1 []).getD 0 (.int 0))).n),kI (((((AA i).getD x1 []).getD 1 (.int 0))).n)]),(1,.view 24 [.int,.int] (AA i) []),(3,.own 24 [.int,.int] (AA x2))] }) (λ x2=>B0 x2 (i.getD x1 (0,0))=B0 (chT i x1) (i.getD x1 (0,0))/\x2.length<=x1/\x2.all AE=true) (λ x2=>x2.length) (λ _=>[]))]))]) ?_
 intro (l:List V2) hpre
 have hpre:l.all AE=true/\0<l.length/\l.length<=64:=hpre
 refine AP (q:=let Z6:=vI (nI ((AA l).length));(∃ x1:Nat,(x1<=l.length)/\((rf Z6)/\(vI (0:Int)=vI (nI x1))/\(rf (AA l))/\(([]:List (List Dat))=(AA (chT l x1)))))/\∀ x1:Nat,let Z14:=wR ((nI x1)+(1:Int));let Z11:=chT l x1;let Z10:=l.getD x1 (0,0);let Z2:=(AA l).getD x1 [];let Z9:=(Z2.getD 1 (.int 0));let Z8:=(Z2.getD 0 (.int 0));(x1<=l.length)->(ifB ((decide ((nI x1)<(nI ((AA l).length))))) ((0<=(nI x1)/\(nI x1)<((AA l).length:Int))/\((x1<(AA l).length)/\((∃ x2:(List V2),(B0 x2 Z10=B0 Z11 Z10/\x2.length<=x1/\x2.all AE=true)/\((rf Z6)/\(rf (vI (nI x1)))/\(rf (vI Z8.n))/\(rf (vI Z9.n))/\(rf (AA l))/\((AA Z11)=(AA x2))))/\∀ x2:(List V2),let Z7:=AA x2;let Z13:=nI (Z7.length);let Z12:=(Z7.length:Int);let Z5:=Z7++([[Dat.int (Z8.n),Dat.int (Z9.n)]]:List (List Dat));let Z4:=Z7.length+([[Dat.int (Z8.n),Dat.int (Z9.n)]]:List (List Dat)).length<=2199023255552;let Z3:=wR (Z13-(2:Int));let Z1:=wR (Z13-(1:Int));(B0 x2 Z10=B0 Z11 Z10/\x2.length<=x1/\x2.all AE=true)->(ifB ((decide (Z13>(1:Int)))) ((0<=Z3/\Z3<Z12)/\((Z3.toNat<Z7.length)/\((0<=Z1/\Z1<Z12)/\((Z1.toNat<Z7.length)/\(∃ i1:Int×Int×Int×Int×Int×Int,[DA.agg [cI ((((Z7.getD (Z3.toNat) []).getD 0 (.int 0))).n),cI ((((Z7.getD (Z3.toNat) []).getD 1 (.int 0))).n)],DA.agg [cI ((((Z7.getD (Z1.toNat) []).getD 0 (.int 0))).n),cI ((((Z7.getD (Z1.toNat) []).getD 1 (.int 0))).n)],DA.agg [cI (Z8.n),cI (Z9.n)]]=Fh.args i1/\Fh.pre i1/\(ifB ((decide ((AH (i1.1,i1.2.1) (i1.2.2.1,i1.2.2.2.1) (i1.2.2.2.2.1,i1.2.2.2.2.2))<=(0:Int)))) ((Nat.beq 2 2=true)/\(((0:Int)=0)/\((0<=Z1)/\((Z1<=Z12)/\(∃ y3:(List V2),(B0 y3 Z10=B0 Z11 Z10/\y3.length<=x1/\y3.all AE=true)/\(y3.length<x2.length)/\((rf Z6)/\(rf (vI (nI x1)))/\(rf (vI Z8.n))/\(rf (vI Z9.n))/\(rf (AA l))/\((Z7.take (Z1.toNat))=(AA y3)))))))) (Z4/\(∃ y4:Nat,(y4<=l.length)/\(l.length-y4<l.length-x1)/\((rf Z6)/\(vI Z14=vI (nI y4))/\(rf (AA l))/\(Z5=(AA (chT l y4)))))))))))) (Z4/\(∃ y5:Nat,(y5<=l.length)/\(l.length-y5<l.length-x1)/\((rf Z6)/\(vI Z14=vI (nI y5))/\(rf (AA l))/\(Z5=(AA (chT l y5)))))))))) (((AA Z11)=AA (chT l l.length))))) (by kernel_rfl) ?_
 conv=>zeta
 delta ifB vI wR nI
 have hvl:=AB l
 refine ⟨⟨0,by
  omega,?_⟩,?_⟩
 ·refine ⟨rfl,?_,rfl,?_⟩
  ·rfl
  rfl
 intro (k:Nat) hki1
 have hki1:k<=l.length:=hki1
 refine And.symm ⟨λ c7=>?_,λ c7=>?_⟩
 ·try simp only [nrm] at c7
  rw [show l.length=k by omega]
 try simp only [nrm] at c7
 have hkl:k<l.length:=by omega
 have hV:=A7 hpre.1 hkl
 have hcb:=KH hpre.1 k (by omega)
 refine ao (by omega) λ o8=>?_
 refine ao (by omega) λ o9=>?_
 refine ⟨⟨chT l k,by
  exact ⟨rfl,hcb.1,hcb.2⟩,?_⟩,?_⟩
 ·exact ⟨rfl,rfl,rfl,rfl,rfl,rfl⟩
 intro (o:List V2) hki10
 have hki10:B0 o (l.getD k (0,0))=B0 (chT l k) (l.getD k (0,0))/\o.length<=k/\o.all AE=true:=hki10
 have hvo:=AB o
 refine And.symm ⟨λ c18=>?_,λ c18=>?_⟩
 ·try simp only [nrm] at c18
  have hn:B0 o (l.getD k (0,0))=o:=Cp (λ h=>by omega)
  refine ao (by simp only [AB,List.length_cons,List.length_nil];omega) λ o48=>?_
  refine ⟨k+1,by
   trivial,by
   omega,?_⟩
  refine ⟨rfl,?_,rfl,?_⟩
  ·exact AS (AC (by omega) (by omega))
  rw [Aj hkl,Aw hkl,← JG hki10.1 hn];simp [AA,Hz]
 try simp only [nrm] at c18
 have ho:1<o.length:=by omega
 have hw2:IntKind.i64.wrap ((((AA o).length:Nat):Int)-(2:Int))=((o.length-2:Nat):Int):=by rw [hvo,AC (by omega) (by omega)];omega
 have hw1:IntKind.i64.wrap ((((AA o).length:Nat):Int)-(1:Int))=((o.length-1:Nat):Int):=by rw [hvo,AC (by omega) (by omega)];omega
 refine ao (by omega) λ o19=>?_
 refine ao (by omega) λ o20=>?_
 refine ao (by omega) λ o21=>?_
 refine ao (by omega) λ o22=>?_
 refine ⟨((o.getD (o.length-2) (0,0)).1,(o.getD (o.length-2) (0,0)).2,(o.getD (o.length-1) (0,0)).1,(o.getD (o.length-1) (0,0)).2,(l.getD k (0,0)).1,(l.getD k (0,0)).2),by
  rw [hw2,hw1,Int.toNat_natCast,Int.toNat_natCast,Aj (show o.length-2<o.length by omega),Aw (show o.length-2<o.length by omega),Aj (show o.length-1<o.length by omega),Aw (show o.length-1<o.length by omega),Aj hkl,Aw hkl];rfl,by
  try dsimp only [Fh]
  exact ⟨A7 hki10.2.2 (show o.length-2<o.length by omega),A7 hki10.2.2 (show o.length-1<o.length by omega),hV⟩,?_⟩
 refine And.symm ⟨λ c26=>?_,λ c26=>?_⟩
 ·try dsimp only at c26
  try simp only [nrm] at c26
  have hn:B0 o (l.getD k (0,0))=o:=Cp (λ h=>Int.not_le.2 c26 h.2)
  refine ao (by simp only [AB,List.length_cons,List.length_nil];omega) λ o40=>?_
  refine ⟨k+1,by
   trivial,by
   omega,?_⟩
  refine ⟨rfl,?_,rfl,?_⟩
  ·exact AS (AC (by omega) (by omega))
  rw [Aj hkl,Aw hkl,← JG hki10.1 hn];simp [AA,Hz]
 try dsimp only at c26
 try simp only [nrm] at c26
 refine ao (by rfl) λ o27=>?_
 refine ao (by rfl) λ o28=>?_
 refine ao (by omega) λ o29=>?_
 refine ao (by omega) λ o30=>?_
 refine ⟨o.take (o.length-1),by
  exact ⟨(JF ho c26).trans hki10.1,by simp only [List.length_take];omega,by rw [List.all_eq_true];exact λ x hx=>List.all_eq_true.1 hki10.2.2 x (List.mem_of_mem_take hx)⟩,by
  simp only [List.length_take];omega,?_⟩
 refine ⟨rfl,rfl,rfl,rfl,rfl,?_⟩
 rw [hw1,Int.toNat_natCast];simp [AA,List.map_take]
def GD:Con:={ ι:=(List (List Dat)),pre:=λ i=>i.length<=1073741824,args:=λ i=>[.one (DC.sl 24 [.int,.int] i)],res:=λ i=>⟨false,[none],[.own 24 [.int,.int] i]⟩ }
theorem WD:GD.Ok Tryz.prog 175:=by
 refine fok (X:=⟨tt,[],[],8,[]⟩) mixed AQ (CTok.nil _) Tryz.func175 (λ _=>[]) ?_
 intro (ls:List (List Dat)) hpre
 have hpre:ls.length<=1073741824:=hpre
 refine AP (q:=∀ b1:Bool,(b1=true->ls=[])->(ifB (b1) ((([]:List (List Dat))=ls)) ((([]:List (List Dat)).length+ls.length<=2199023255552)/\(((([]:List (List Dat))++ls)=ls))))) (by kernel_rfl) ?_
 delta ifB
 intro b1 q1
 refine ⟨λ c2=>?_,λ c2=>?_⟩
 ·try simp only [nrm] at c2
  rw [q1 c2]
 try simp only [nrm] at c2
 refine ao (by simp;omega) λ o4=>?_
 rfl
def Hp:Con:={ ι:=(List V2),pre:=λ i=>i.length<=1048576,args:=λ i=>[.one (DC.sl 24 [.int,.int] (AA i))],res:=λ i=>⟨false,[none],[.own 24 [.int,.int] (AA (Bf i))]⟩ }
set_option maxHeartbeats 1600000 in
theorem Yc:Hp.Ok Tryz.prog 124:=by
 refine fok (X:=⟨tt,[(126,Be),(159,E7),(160,De)],[],104,[]⟩) mixed AQ (CTok.cons OS (CTok.cons Tb (CTok.cons WC (CTok.nil _)))) Tryz.func124 (λ (i:(List V2))=>let Z1:=Ar i i.length;[(21,.mk 3 (Nat) (λ x10=>{ tm:=[(9,tI ((nI (Z1.length))-1-(nI x10))),(3,tX 1),(8,tX 2)],en:=[(1,.own 24 [.int,.int] (AA Z1)),(2,.own 24 [.int,.int] (AA (Z1.reverse.take x10)))] }) (λ x10=>x10<=Z1.length) (λ x10=>Z1.length-x10) (λ _=>[])),(5,.mk 3 (Nat) (λ x1=>{ tm:=[(17,tX 1),(18,tI (nI ((AA i).length))),(19,tI (nI x1)),(3,tX 2)],en:=[(1,.view 24 [.int,.int] (AA i) []),(2,.own 24 [.int,.int] (AA (Ar i x1)))] }) (λ x1=>x1<=i.length/\(i.take x1).all AE=true) (λ x1=>i.length-x1) (λ x1=>let Z2:=Ar i x1;[(10,.mk 4 (Nat) (λ x2=>{ tm:=[(17,tX 1),(18,tI (nI ((AA i).length))),(19,tI (nI x1)),(5,tP 2 0),(6,tI (nI x2)),(3,tX 3)],en:=[(2,.box [kI (((((AA i).getD x1 []).getD 0 (.int 0))).n),kI (((((AA i).getD x1 []).getD 1 (.int 0))).n)]),(1,.view 24 [.int,.int] (AA i) []),(3,.own 24 [.int,.int] (AA Z2))] }) (λ x2=>x2<=Z2.length/\∀ j,j<x2->Ac (Z2.getD j (0,0)) (i.getD x1 (0,0))=true) (λ x2=>Z2.length-x2) (λ _=>[]))]))]) ?_
 intro (l:List V2) hpre
 have hpre:l.length<=1048576:=hpre
 refine AP (q:=let Z28:=nI ((AA l).length);let Z18:=List Dat;let Z30:=(([]:List Z18)=AA (Bf l));let Z12:=Nat.beq 2 2=true;let Z10:=vI Z28;let Z4:=Ar l l.length;let Z36:=nI (Z4.length);let Z32:=AA Z4;ifB ((decide (Z28>(64:Int)))) Z30 ((∃ x1:Nat,(x1<=l.length/\(l.take x1).all AE=true)/\((rf Z10)/\(vI (0:Int)=vI (nI x1))/\(rf (AA l))/\(([]:List Z18)=(AA (Ar l x1)))))/\∀ x1:Nat,let Z33:=l.getD x1 (0,0);let Z24:=Ar l x1;let Z14:=wR ((nI x1)+(1:Int));let Z6:=(AA l).getD x1 [];let Z16:=(Z6.getD 1 (.int 0));let Z15:=(Z6.getD 0 (.int 0));let Z2:=AA Z24;let Z34:=nI (Z2.length);let Z5:=(Z2.length:Int);(x1<=l.length/\(l.take x1).all AE=true)->(ifB ((decide ((nI x1)<Z28))) ((0<=(nI x1)/\(nI x1)<((AA l).length:Int))/\((x1<(AA l).length)/\(∃ i1:Int×Int,[DA.agg [cI (Z15.n),cI (Z16.n)]]=Be.args i1/\Be.pre i1/\(ifB ((!(AE (i1.1,i1.2)))) Z30 ((∃ x2:Nat,(x2<=Z24.length/\∀ j,j<x2->Ac (Z24.getD j (0,0)) Z33=true)/\((rf Z10)/\(rf (vI (nI x1)))/\(vI (0:Int)=vI (nI x2))/\(rf (vI Z15.n))/\(rf (vI Z16.n))/\(rf (AA l))/\(rf Z2)))/\∀ x2:Nat,let Z35:=x2<Z2.length;let Z31:=Z2.getD x2 [];let Z27:=Z2.take x2;let Z25:=(0:Int)<=(nI x2);let Z22:=(decide ((nI x2)<Z34));let Z20:=(nI x2)<=Z5;let Z17:=(Z2.take (Z5.toNat)).drop x2;let Z13:=([((Z31.getD 0 (.int 0))).n,((Z31.getD 1 (.int 0))).n] == [Z15.n,Z16.n]);let Z3:=(([]:List Z18)++Z27).length+([[Dat.int (Z15.n),Dat.int (Z16.n)]]:List Z18).length<=2199023255552;let Z1:=(([]:List Z18)++Z27)++([[Dat.int (Z15.n),Dat.int (Z16.n)]]:List Z18);let Z9:=Z1.length+Z17.length<=2199023255552;(x2<=Z24.length/\∀ j,j<x2->Ac (Z24.getD j (0,0)) Z33=true)->(ifB Z22 ((0<=(nI x2)/\(nI x2)<Z5)/\(Z35/\(∃ i2:Int×Int×Int×Int,[DA.agg [cI (((Z31.getD 0 (.int 0))).n),cI (((Z31.getD 1 (.int 0))).n)],DA.agg [cI (Z15.n),cI (Z16.n)]]=E7.args i2/\E7.pre i2/\(ifB ((Ac (i2.1,i2.2.1) (i2.2.2.1,i2.2.2.2))) (∃ y3:Nat,(y3<=Z24.length/\∀ j,j<y3->Ac (Z24.getD j (0,0)) Z33=true)/\(Z24.length-y3<Z24.length-x2)/\((rf Z10)/\(rf (vI (nI x1)))/\(vI (wR ((nI x2)+(1:Int)))=vI (nI y3))/\(rf (vI Z15.n))/\(rf (vI Z16.n))/\(rf (AA l))/\(rf Z2))) (ifB Z22 ((0<=(nI x2)/\(nI x2)<Z5)/\(Z35/\(ifB Z13 (∃ y4:Nat,(y4<=l.length/\(l.take y4).all AE=true)/\(l.length-y4<l.length-x1)/\((rf Z10)/\(vI Z14=vI (nI y4))/\(rf (AA l))/\(Z2=(AA (Ar l y4))))) (Z12/\((0<=(0:Int))/\(Z25/\(Z20/\((([]:List Z18).length+Z27.length<=2199023255552)/\(Z3/\(Z12/\((0<=(nI x2))/\(Z20/\((Z5<=Z5)/\(Z9/\(∃ y5:Nat,(y5<=l.length/\(l.take y5).all AE=true)/\(l.length-y5<l.length-x1)/\((rf Z10)/\(vI Z14=vI (nI y5))/\(rf (AA l))/\((Z1++Z17)=(AA (Ar l y5))))))))))))))))))) (Z12/\((0<=(0:Int))/\(Z25/\(Z20/\((([]:List Z18).length+Z27.length<=2199023255552)/\(Z3/\(Z12/\((0<=(nI x2))/\(Z20/\((Z5<=Z5)/\(Z9/\(∃ y6:Nat,(y6<=l.length/\(l.take y6).all AE=true)/\(l.length-y6<l.length-x1)/\((rf Z10)/\(vI Z14=vI (nI y6))/\(rf (AA l))/\((Z1++Z17)=(AA (Ar l y6))))))))))))))))))))) (ifB Z22 ((0<=(nI x2)/\(nI x2)<Z5)/\(Z35/\(ifB Z13 (∃ y7:Nat,(y7<=l.length/\(l.take y7).all AE=true)/\(l.length-y7<l.length-x1)/\((rf Z10)/\(vI Z14=vI (nI y7))/\(rf (AA l))/\(Z2=(AA (Ar l y7))))) (Z12/\((0<=(0:Int))/\(Z25/\(Z20/\((([]:List Z18).length+Z27.length<=2199023255552)/\(Z3/\(Z12/\((0<=(nI x2))/\(Z20/\((Z5<=Z5)/\(Z9/\(∃ y8:Nat,(y8<=l.length/\(l.take y8).all AE=true)/\(l.length-y8<l.length-x1)/\((rf Z10)/\(vI Z14=vI (nI y8))/\(rf (AA l))/\((Z1++Z17)=(AA (Ar l y8))))))))))))))))))) (Z12/\((0<=(0:Int))/\(Z25/\(Z20/\((([]:List Z18).length+Z27.length<=2199023255552)/\(Z3/\(Z12/\((0<=(nI x2))/\(Z20/\((Z5<=Z5)/\(Z9/\(∃ y9:Nat,(y9<=l.length/\(l.take y9).all AE=true)/\(l.length-y9<l.length-x1)/\((rf Z10)/\(vI Z14=vI (nI y9))/\(rf (AA l))/\((Z1++Z17)=(AA (Ar l y9))))))))))))))))))))))) (ifB ((decide (Z34<(3:Int)))) ((Z2=AA (Bf l))) ((∃ x10:Nat,(x10<=Z4.length)/\((vI (wR (Z34-(1:Int)))=vI (Z36-1-(nI x10)))/\(Z2=Z32)/\(([]:List Z18)=(AA (Z4.reverse.take x10)))))/\∀ x10:Nat,let Z26:=AA (Z4.reverse.take x10);let Z7:=Z36-1-(nI x10);let Z21:=Z32.getD (Z7.toNat) [];let Z38:=((Z21.getD 1 (.int 0))).n;let Z37:=((Z21.getD 0 (.int 0))).n;(x10<=Z4.length)->(ifB ((decide (Z7≥(0:Int)))) ((0<=Z7/\Z7<(Z32.length:Int))/\((Z7.toNat<Z32.length)/\((Z26.length+([[Dat.int Z37,Dat.int Z38]]:List Z18).length<=2199023255552)/\(∃ y11:Nat,(y11<=Z4.length)/\(Z4.length-y11<Z4.length-x10)/\((vI (wR (Z7-(1:Int)))=vI (Z36-1-(nI y11)))/\(rf Z32)/\((Z26++([[Dat.int Z37,Dat.int Z38]]:List Z18))=(AA (Z4.reverse.take y11)))))))) (∃ i3:(List V2),let Z19:=AA (chT i3 i3.length);let Z8:=wR ((nI (Z19.length))-(1:Int));let Z29:=Z19.take (Z8.toNat);[DA.one (DC.sl 24 [.int,.int] Z32)]=De.args i3/\De.pre i3/\(∃ i4:(List V2),let Z23:=AA (chT i4 i4.length);let Z11:=wR ((nI (Z23.length))-(1:Int));[DA.one (DC.sl 24 [.int,.int] Z26)]=De.args i4/\De.pre i4/\(Z12/\((0<=(0:Int))/\(((0:Int)<=Z8)/\((Z8<=(Z19.length:Int))/\((([]:List Z18).length+Z29.length<=2199023255552)/\(Z12/\((0<=(0:Int))/\(((0:Int)<=Z11)/\((Z11<=(Z23.length:Int))/\(((([]:List Z18)++Z29).length+(Z23.take (Z11.toNat)).length<=2199023255552)/\((((([]:List Z18)++Z29)++(Z23.take (Z11.toNat)))=AA (Bf l))))))))))))))))))))) (by kernel_rfl) ?_
 conv=>zeta
 delta ifB vI wR nI
 have hvl:=AB l
 refine ⟨λ c1=>?_,λ c1=>?_⟩
 ·try simp only [nrm] at c1
  have hE:Bf l=[]:=Mx (by omega)
  rw [hE];rfl
 try simp only [nrm] at c1
 refine ⟨⟨0,by
  exact ⟨Nat.zero_le _,rfl⟩,?_⟩,?_⟩
 ·refine ⟨rfl,?_,rfl,?_⟩
  ·rfl
  rfl
 intro (k:Nat) hki3
 have hki3:k<=l.length/\(l.take k).all AE=true:=hki3
 refine And.symm ⟨λ c9=>?_,λ c9=>?_⟩
 ·try simp only [nrm] at c9
  have hk:l.length=k:=by omega
  have hall:l.all AE=true:=by have:=hki3.2;rwa [← hk,List.take_length] at this
  have hE:=KI (by omega) hall
  have hsl:=JE l l.length
  have hvs:=AB (Ar l k)
  have hvs2:=AB (Ar l l.length)
  refine ⟨λ c137=>?_,λ c137=>?_⟩
  ·try simp only [nrm] at c137
   rw [hE,hk,RZ (by omega)]
  try simp only [nrm] at c137
  have h3:¬ (Ar l l.length).length<3:=by rw [hk];omega
  have hE2:=KJ h3
  have hsv:=RY hall (Nat.le_refl _)
  refine ⟨⟨0,by
   omega,?_⟩,?_⟩
  ·refine ⟨?_,?_,?_⟩
   ·exact AS (by rw [hvs,← hk,AC (by omega) (by omega)];omega)
   ·rw [hk]
   rfl
  intro (j:Nat) hki139
  have hki139:j<=(Ar l l.length).length:=hki139
  refine ⟨λ c144=>?_,λ c144=>?_⟩
  ·try simp only [nrm] at c144
   have hj:j<(Ar l l.length).length:=by omega
   have hi:(((((Ar l l.length).length:Nat):Int)-1-((j:Nat):Int))).toNat=(Ar l l.length).length-1-j:=by omega
   refine ao (by omega) λ o145=>?_
   refine ao (by omega) λ o146=>?_
   refine ao (by simp only [AB,List.length_append,List.length_take,List.length_drop,List.length_cons,List.length_nil,List.nil_append];omega) λ o147=>?_
   refine ⟨j+1,by
    trivial,by
    omega,?_⟩
   refine ⟨?_,rfl,?_⟩
   ·exact AS (by rw [AC (by omega) (by omega)];omega)
   rw [hi,Aj (show (Ar l l.length).length-1-j<(Ar l l.length).length by omega),Aw (show (Ar l l.length).length-1-j<(Ar l l.length).length by omega)];exact YU hj
  try simp only [nrm] at c144
  have hj:(Ar l l.length).reverse.take j=(Ar l l.length).reverse:=List.take_of_length_le (by rw [List.length_reverse];omega)
  have hrl:(Ar l l.length).reverse.length=(Ar l l.length).length:=List.length_reverse
  refine ⟨(Ar l l.length),by
   rfl,by
   exact ⟨hsv,by omega,by omega⟩,?_⟩
  refine ⟨(Ar l l.length).reverse,by
   rw [hj];rfl,by
   exact ⟨LZ hsv,by omega,by omega⟩,?_⟩
  have hA:=Ul hsv (by omega)
  have hB:=Ul (LZ hsv) (by omega)
  have hvA:=AB (chT (Ar l l.length) (Ar l l.length).length)
  have hvB:=AB (chT (Ar l l.length).reverse (Ar l l.length).reverse.length)
  have hwA:IntKind.i64.wrap ((((AA (chT (Ar l l.length) (Ar l l.length).length)).length:Nat):Int)-(1:Int))=(((chT (Ar l l.length) (Ar l l.length).length).length-1:Nat):Int):=by rw [hvA,AC (by omega) (by omega)];omega
  have hwB:IntKind.i64.wrap ((((AA (chT (Ar l l.length).reverse (Ar l l.length).reverse.length)).length:Nat):Int)-(1:Int))=(((chT (Ar l l.length).reverse (Ar l l.length).reverse.length).length-1:Nat):Int):=by rw [hvB,AC (by omega) (by omega)];omega
  refine ao (by rfl) λ o160=>?_
  refine ao (by omega) λ o161=>?_
  refine ao (by omega) λ o162=>?_
  refine ao (by omega) λ o163=>?_
  refine ao (by simp only [AB,List.length_append,List.length_take,List.length_drop,List.length_cons,List.length_nil,List.nil_append];omega) λ o164=>?_
  refine ao (by rfl) λ o165=>?_
  refine ao (by omega) λ o166=>?_
  refine ao (by omega) λ o167=>?_
  refine ao (by omega) λ o168=>?_
  refine ao (by simp only [AB,List.length_append,List.length_take,List.length_drop,List.length_cons,List.length_nil,List.nil_append];omega) λ o169=>?_
  rw [hE,hE2,hwA,hwB,Int.toNat_natCast,Int.toNat_natCast,List.nil_append,Ra,Ra,Hn]
 try simp only [nrm] at c9
 have hkl:k<l.length:=by omega
 have hsl:=JE l k
 have hvs:=AB (Ar l k)
 refine ao (by omega) λ o10=>?_
 refine ao (by omega) λ o11=>?_
 refine ⟨((l.getD k (0,0)).1,(l.getD k (0,0)).2),by
  rw [Aj hkl,Aw hkl];rfl,by
  trivial,?_⟩
 refine ⟨λ c15=>?_,λ c15=>?_⟩
 ·try simp only [nrm] at c15
  have hE:Bf l=[]:=YS hkl c15
  rw [hE];rfl
 try simp only [nrm] at c15
 refine ⟨⟨0,by
  exact ⟨Nat.zero_le _,λ j hj=>absurd hj (Nat.not_lt_zero j)⟩,?_⟩,?_⟩
 ·refine ⟨rfl,rfl,?_,rfl,rfl,rfl,rfl⟩
  rfl
 intro (n:Nat) hki17
 have hki17:n<=(Ar l k).length/\∀ j,j<n->Ac ((Ar l k).getD j (0,0)) (l.getD k (0,0))=true:=hki17
 refine And.symm ⟨λ c26=>?_,λ c26=>?_⟩
 ·try simp only [nrm] at c26
  refine ⟨λ c90=>?_,λ c90=>?_⟩
  ·try simp only [nrm] at c90
   exfalso;omega -- done
  try simp only [nrm] at c90
  refine ao (by rfl) λ o119=>?_
  refine ao (by omega) λ o120=>?_
  refine ao (by omega) λ o121=>?_
  refine ao (by omega) λ o122=>?_
  refine ao (by simp only [AB,List.length_append,List.length_take,List.length_drop,List.length_cons,List.length_nil,List.nil_append];omega) λ o123=>?_
  refine ao (by simp only [AB,List.length_append,List.length_take,List.length_drop,List.length_cons,List.length_nil,List.nil_append];omega) λ o124=>?_
  refine ao (by rfl) λ o125=>?_
  refine ao (by omega) λ o126=>?_
  refine ao (by omega) λ o127=>?_
  refine ao (by omega) λ o128=>?_
  refine ao (by simp only [AB,List.length_append,List.length_take,List.length_drop,List.length_cons,List.length_nil,List.nil_append];omega) λ o129=>?_
  refine ⟨k+1,by
   exact ⟨by omega,Pc hkl hki3.2 c15⟩,by
   omega,?_⟩
  refine ⟨rfl,?_,rfl,?_⟩
  ·exact AS (AC (by omega) (by omega))
  rw [Aj hkl,Aw hkl,Rb,Uk (by omega) hki17.2 (λ h=>absurd h (by omega)) (λ h=>absurd h (by omega))]
 try simp only [nrm] at c26
 have hn:n<(Ar l k).length:=by omega
 refine ao (by omega) λ o27=>?_
 refine ao (by omega) λ o28=>?_
 refine ⟨(((Ar l k).getD n (0,0)).1,((Ar l k).getD n (0,0)).2,(l.getD k (0,0)).1,(l.getD k (0,0)).2),by
  rw [Aj hn,Aw hn,Aj hkl,Aw hkl];rfl,by
  trivial,?_⟩
 refine ⟨λ c32=>?_,λ c32=>?_⟩
 ·try simp only [nrm] at c32
  refine ⟨n+1,by
   exact ⟨by omega,YR hki17.2 c32⟩,by
   omega,?_⟩
  refine ⟨rfl,rfl,?_,rfl,rfl,rfl,rfl⟩
  exact AS (AC (by omega) (by omega))
 try simp only [nrm] at c32
 refine And.symm ⟨λ c43=>?_,λ c43=>?_⟩
 ·try simp only [nrm] at c43
  exfalso;omega -- done
 try simp only [nrm] at c43
 refine ao (by omega) λ o44=>?_
 refine ao (by omega) λ o45=>?_
 refine ⟨λ c46=>?_,λ c46=>?_⟩
 ·try dsimp only at c46
  try simp only [nrm] at c46
  rw [Aj hn,Aw hn,Aj hkl,Aw hkl] at c46
  have hq:=AAJ c46
  refine ⟨k+1,by
   exact ⟨by omega,Pc hkl hki3.2 c15⟩,by
   omega,?_⟩
  refine ⟨rfl,?_,rfl,?_⟩
  ·exact AS (AC (by omega) (by omega))
  rw [YT hn hki17.2 c32 hq]
 try dsimp only at c46
 try simp only [nrm] at c46
 rw [Aj hn,Aw hn,Aj hkl,Aw hkl] at c46
 refine ao (by rfl) λ o54=>?_
 refine ao (by omega) λ o55=>?_
 refine ao (by omega) λ o56=>?_
 refine ao (by omega) λ o57=>?_
 refine ao (by simp only [AB,List.length_append,List.length_take,List.length_drop,List.length_cons,List.length_nil,List.nil_append];omega) λ o58=>?_
 refine ao (by simp only [AB,List.length_append,List.length_take,List.length_drop,List.length_cons,List.length_nil,List.nil_append];omega) λ o59=>?_
 refine ao (by rfl) λ o60=>?_
 refine ao (by omega) λ o61=>?_
 refine ao (by omega) λ o62=>?_
 refine ao (by omega) λ o63=>?_
 refine ao (by simp only [AB,List.length_append,List.length_take,List.length_drop,List.length_cons,List.length_nil,List.nil_append];omega) λ o64=>?_
 refine ⟨k+1,by
  exact ⟨by omega,Pc hkl hki3.2 c15⟩,by
  omega,?_⟩
 refine ⟨rfl,?_,rfl,?_⟩
 ·exact AS (AC (by omega) (by omega))
 rw [Aj hkl,Aw hkl,Rb,Uk (by omega) hki17.2 (λ _=>c32) (λ _ e=>c46 (by rw [e]))]
def C0:Con:={ ι:=(List V2),pre:=λ i=>i.all AE=true/\i.length<=1048576,args:=λ i=>[.one (DC.sl 24 [.int,.int] (AA i)),.one (.ro (.fn 177 []))],mu:=[0],new:=λ i=>[AA (CD i)],tag:=178,res:=λ i=>⟨true,[],[]⟩ }
def Eh:Con:={ ι:=(List V2),pre:=λ i=>i.length<=1048576,args:=λ i=>[.one (DC.sl 24 [.int,.int] (AA i))],mu:=[0],new:=λ i=>[AA i.reverse],res:=λ i=>⟨true,[],[]⟩ }
def Ay:Con:={ ι:=(List V2),pre:=λ i=>i.length<=1048576,args:=λ i=>[.one (DC.sl 24 [.int,.int] (AA i))],mu:=[0],gone:=[0],new:=λ i=>[],res:=λ i=>⟨false,[none],[.own 24 [.int,.int] (AA (BH i))]⟩ }
theorem ACQ {us:List Value} (h:us.length=1):∃ u,us=[u]:=
 match us,h with
 | [_],_=>⟨_,rfl⟩
theorem AC3 {us:List Value} (h:us.length=2):∃ u v,us=[u,v]:=
 match us,h with
 | [_,_],_=>⟨_,_,rfl⟩
theorem WE:C0.Ok Tryz.prog 176 where
 enter:=⟨_,Tryz.func176,by decide,rfl⟩
 small:=λ _=>Nat.le_of_ble_eq_true rfl
 calls:=by
  intro (l:List V2) (hp:l.all AE=true/\l.length<=1048576) F w us mb h
  obtain ⟨u0,u1,rfl⟩:=AC3 h.len
  obtain ⟨_,_,_,_,e1,e2,f1,m1⟩:=h.own 0 0 rfl
  cases e1;cases e2
  obtain ⟨ps,hu1,hpl,-⟩:ROAt F w (.fn 177 []) u1:=h.rd 1 _ _ rfl rfl (by decide)
  obtain rfl:ps=[]:=List.eq_nil_of_length_eq_zero hpl
  subst hu1
  have hv:BA (C0.args l) [u0,.func (.func 177) #[] #[]]=[u0,.func (.func 177) #[] #[]]:=rfl
  rw [hv]
  rcases Pd f1 with ⟨rfl,rfl,hbs⟩|⟨g,cap,cur,rfl,q1,q2,q3,q4,q5,hbs⟩
  ·have hcon:=AnyF.slices_SortFunc_none ACO none 0 (.func (.func 177) #[] #[]) w
   refine Calls.mono (P:=Tryz.prog) hcon ?_
   rintro e w' ⟨rfl,rfl⟩
   refine ⟨[],[],rfl,⟨rfl,List.nodup_nil,λ b hb=>by simp at hb,λ j q e ts rows u hj hq hd hu=>?_,rfl,rfl,rfl,Nat.le_refl _,λ b _ _=>rfl⟩⟩
   obtain rfl:j=0:=by have:=(List.getElem?_eq_some_iff.1 hq).1;have hl:C0.mu.length=1:=rfl;omega
   cases hq
   cases hd
   cases hu
   refine ⟨mb 0,?_,m1,λ _ hb=>hb,λ _=>rfl⟩
   have es:CD []=[]:=List.eq_nil_of_length_eq_zero (Fe [])
   show Fp w' _ (.sl (AA (CD []))) _ _
   rw [es]
   exact f1
  ·have hsz:(GU l hp.1).length=l.length:=by have:=congrArg List.length (Ho l hp.1);simpa using this
   have hH:HoldsK Kv 2 w g 0 (GU l hp.1).toArray:=by
    have:=Rc q1 q2 q4 q5
    unfold HoldsK at this ⊢
    rw [Re,Ho];exact this
   have hg:g<w.heap.size:=(Array.getElem?_eq_some_iff.1 q1).1
   have eg:∀ args w,(callFunc 177 args).run Tryz.prog w=.ok (.enter 177 args) w:=enters_of Tryz.func177 (by kernel_rfl) rfl
   have hlp:=hp.2
   have hcon:=AnyQ.slices_SortFunc_total ACO 2 Tryz.isAgg24 Tryz.sizeOf24 Kv (λ _=>rfl) (λ x v hv=>by simp [Kv,Ag] at hv;rcases hv with rfl|rfl <;> rfl) cfV AC1 177 #[] g 0 cap (GU l hp.1).toArray w eg
    (λ _ _ _ _ x y=>NX x.1 y.1 x.2 y.2 _) hH hg (by simp only [List.size_toArray,hsz];omega) AC2
   have hs2:(GU l hp.1).toArray.size=l.length:=by rw [List.size_toArray,hsz]
   rw [hs2] at hcon
   refine Calls.mono (P:=Tryz.prog) hcon ?_
   rintro e w' ⟨rfl,n,os,rfl⟩
   obtain ⟨⟨cur',p1,p2⟩,p3,p4⟩:=Od Kv w g n ((GU l hp.1).toArray.toList.mergeSort λ x y=>!(ltOf cfV) y x).toArray os q1
   have hHK:=holdsK_sortWorldK_c Kv 2 w g 0 (GU l hp.1).toArray ((GU l hp.1).toArray.toList.mergeSort λ x y=>!(ltOf cfV) y x).toArray n os hH hg (by simp)
   have hHK:HoldsK Ag 2 (sortWorldK Kv 2 w g 0 n ((GU l hp.1).toArray.toList.mergeSort λ x y=>!(ltOf cfV) y x).toArray os) g 0 (CD l).toArray:=by
    unfold HoldsK at hHK ⊢
    rw [Re] at hHK
    rw [← YX l hp.1];exact hHK
   have hrow:=YW p1 (by rw [Fe];exact q2) (by rw [p2];exact q4) hHK
   have hfp:=YV p1 (by rw [Fe];exact q2) q3 (by rw [p2];exact q4) hrow
   rw [Fe] at hfp
   refine ⟨[],[],rfl,⟨rfl,List.nodup_nil,λ b hb=>by simp at hb,λ j q e ts rows u hj hq hd hu=>?_,rfl,rfl,rfl,p4,λ b hb hm=>p3 b hb λ e=>hm 0 (by decide) (by rw [hbs];simp [e])⟩⟩
   obtain rfl:j=0:=by have:=(List.getElem?_eq_some_iff.1 hq).1;have hl:C0.mu.length=1:=rfl;omega
   cases hq
   cases hd
   cases hu
   refine ⟨mb 0,?_,m1,λ _ hb=>hb,λ _=>rfl⟩
   rw [hbs]
   exact hfp
theorem AAK:Eh.Ok Tryz.prog 180 where
 enter:=⟨_,Tryz.func180,by decide,rfl⟩
 small:=λ _=>Nat.le_of_ble_eq_true rfl
 calls:=by
  intro (l:List V2) (hp:l.length<=1048576) F w us mb h
  obtain ⟨u0,rfl⟩:=ACQ h.len
  obtain ⟨_,_,_,_,e1,e2,f1,m1⟩:=h.own 0 0 rfl
  cases e1;cases e2
  have hv:BA (Eh.args l) [u0]=[u0]:=rfl
  rw [hv]
  rcases Pd f1 with ⟨rfl,rfl,hbs⟩|⟨g,cap,cur,rfl,q1,q2,q3,q4,q5,hbs⟩
  ·refine Calls.mono (P:=Tryz.prog) (AnyQ.slices_Reverse_empty ACP none 0 w) ?_
   rintro e w' ⟨rfl,rfl⟩
   refine ⟨[],[],rfl,⟨rfl,List.nodup_nil,λ b hb=>by simp at hb,λ j q e ts rows u hj hq hd hu=>?_,rfl,rfl,rfl,Nat.le_refl _,λ b _ _=>rfl⟩⟩
   obtain rfl:j=0:=by have:=(List.getElem?_eq_some_iff.1 hq).1;have hl:Eh.mu.length=1:=rfl;omega
   cases hq
   cases hd
   cases hu
   refine ⟨mb 0,?_,m1,λ _ hb=>hb,λ _=>rfl⟩
   exact f1
  ·have hH:=Rc q1 q2 q4 q5
   refine Calls.mono (P:=Tryz.prog) (AnyQ.slices_Reverse ACP 2 Tryz.isAgg24 Tryz.sizeOf24 Ag (λ _=>rfl) (λ x v hv=>by simp [Ag] at hv;rcases hv with rfl|rfl <;> rfl) g 0 cap l.toArray w hH (by simp only [List.size_toArray];omega)) ?_
   rintro e w' ⟨rfl,n,rfl⟩
   have hgr:putRowK Ag 2 (Sort.ahead w n) g 0 l.toArray.reverse=grow (putRowK Ag 2 (Sort.ahead w n) g 0 l.toArray.reverse) #[]:=by simp [grow]
   have hHK:=holdsK_putRowK Ag 2 (Sort.ahead w n) g 0 l.toArray l.toArray.reverse (holdsK_ahead Ag 2 w n g 0 l.toArray hH) (by simp)
   rw [hgr] at hHK ⊢
   obtain ⟨⟨cur',p1,p2⟩,p3,p4⟩:=Od Ag w g n l.toArray.reverse #[] q1
   have hHK2:HoldsK Ag 2 (grow (putRowK Ag 2 (Sort.ahead w n) g 0 l.toArray.reverse) #[]) g 0 l.reverse.toArray:=by
    have e:l.reverse.toArray=l.toArray.reverse:=by simp
    rw [e];exact hHK
   have hrow:=YW p1 (by rw [List.length_reverse];exact q2) (by rw [p2];exact q4) hHK2
   have hfp:=YV p1 (by rw [List.length_reverse];exact q2) q3 (by rw [p2];exact q4) hrow
   rw [List.length_reverse] at hfp
   refine ⟨[],[],rfl,⟨rfl,List.nodup_nil,λ b hb=>by simp at hb,λ j q e ts rows u hj hq hd hu=>?_,rfl,rfl,rfl,p4,λ b hb hm=>p3 b hb λ e=>hm 0 (by decide) (by rw [hbs];simp [e])⟩⟩
   obtain rfl:j=0:=by have:=(List.getElem?_eq_some_iff.1 hq).1;have hl:Eh.mu.length=1:=rfl;omega
   cases hq
   cases hd
   cases hu
   refine ⟨mb 0,?_,m1,λ _ hb=>hb,λ _=>rfl⟩
   rw [hbs]
   exact hfp
theorem AAL {w:World} {e:Nat} {l:List V2} {g cap:Nat} {cur:Array Value} (h1:w.heap[g]?=some (.cells cur e (0,0))) (h2:l.length<=cap) (h4:cur.size=cap*2) (h5:cur.toList.take (l.length*2)=(l.map Ag).flatten):RowA w g 0 l.toArray:=λ j hj=>by
 have hj:j<l.length:=by simpa using hj
 have key:∀ t,t<l.length*2->cur[t]?=some ((Ag (l.getD (t/2) (0,0)))[t%2]!):=λ t ht=>by
  have:=G1 l t ht
  rw [← h5,List.getElem?_take,if_pos ht,Array.getElem?_toList] at this
  exact this
 have a0:=key (j*2) (by omega)
 have a1:=key (j*2+1) (by omega)
 rw [show j*2/2=j by omega,show j*2%2=0 by omega] at a0
 rw [show (j*2+1)/2=j by omega,show (j*2+1)%2=1 by omega] at a1
 have hd:(l.toArray)[j]! = l.getD j (0,0):=by simp [List.getD,hj]
 rw [hd]
 refine ⟨?_,?_,by simp [World.frozen?,h1],by simp [World.frozen?,h1]⟩
 ·rw [Ff h1,Nat.zero_add,a0];rfl
 ·rw [Ff h1,Nat.zero_add,a1];rfl
theorem AAM {l:List V2} {cur:Array Value} (hc:∀ j,j<l.length->cur[j*2]?=some (.int .i64 (l.getD j (0,0)).1)/\cur[j*2+1]?=some (.int .i64 (l.getD j (0,0)).2)):cur.toList.take (l.length*2)=(l.map Ag).flatten:=by
 apply List.ext_getElem?
 intro j
 by_cases hj:j<l.length*2
 ·rw [G1 l j hj,List.getElem?_take,if_pos hj,Array.getElem?_toList]
  obtain ⟨c0,c1⟩:=hc (j/2) (by omega)
  have:j%2=0∨j%2=1:=by omega
  rcases this with e|e
  ·rw [e,show j=j/2*2 by omega,c0,show j/2*2/2=j/2 by omega];rfl
  ·rw [e];conv=>lhs;rw [show j=j/2*2+1 by omega,c1]
   rfl
 ·rw [List.getElem?_eq_none (by simp only [List.length_take];omega),List.getElem?_eq_none (by rw [My];omega)]
theorem Rg:∀ l:List V2,(BH l).length<=l.length
 | []=>by simp [BH]
 | [a]=>by simp [BH]
 | a::b::t=>by
  have:=Rg (b::t)
  unfold BH
  split
  ·simp only [List.length_cons] at *;omega
  ·simp only [List.length_cons] at *;omega
theorem Rh:Ay.Ok Tryz.prog 178 where
 enter:=⟨_,Tryz.func178,by decide,rfl⟩
 small:=λ _=>Nat.le_of_ble_eq_true rfl
 calls:=by
  intro (l:List V2) (hp:l.length<=1048576) F w us mb h
  obtain ⟨u0,rfl⟩:=ACQ h.len
  obtain ⟨_,_,_,_,e1,e2,f1,m1⟩:=h.own 0 0 rfl
  cases e1;cases e2
  have hv:BA (Ay.args l) [u0]=[u0]:=rfl
  rw [hv]
  have hfresh:∀ b ∈ mb 0,w.heap.size<=b∨∃ j,j ∈ Ay.gone/\j<Ay.mu.length/\b ∈ mb j:=λ b hb=>.inr ⟨0,by decide,by decide,hb⟩
  have hgone:∀ (w' : World) j p e ts rows u,j ∉ Ay.gone->Ay.mu[j]?=some p->((Ay.args l).flatMap DA.cells)[p]?=some (.sl e ts rows)->[u0][p]?=some u->∃ bt,Fp w' (.sl e ts) (.sl ((Ay.new l).getD j [])) u bt/\bt.Nodup/\(∀ b ∈ bt,b ∈ mb j)/\((∃ v,Ay.res l=⟨false,[none],[.im v]⟩)->bt=mb j):=λ w' j p e ts rows u hj hq=>by
   exfalso
   have:=(List.getElem?_eq_some_iff.1 hq).1
   have hl:Ay.mu.length=1:=rfl
   obtain rfl:j=0:=by omega
   exact hj (by decide)
  rcases Pd f1 with ⟨rfl,rfl,hbs⟩|⟨g,cap,cur,rfl,q1,q2,q3,q4,q5,hbs⟩
  ·refine Calls.mono (P:=Tryz.prog) (Pe w) ?_
   rintro e w' ⟨rfl,rfl⟩
   exact ⟨[.slice none 0 0],mb 0,rfl,⟨⟨mb 0,[],by simp,f1,rfl⟩,m1,hfresh,hgone _,rfl,rfl,rfl,Nat.le_refl _,λ b _ _=>rfl⟩⟩
  ·have hg:g<w.heap.size:=(Array.getElem?_eq_some_iff.1 q1).1
   have hsz:l.toArray.size=l.length:=by simp
   have hcc:=Ta g 0 cap l.toArray w (AAL q1 q2 q4 q5) hg (by rw [hsz];exact hp) (by rw [hsz];exact q2) (by unfold maxLen at q3;omega)
   have hcu:Lib.compactUpTo l.toArray l.length=BH l:=by rw [JI l _ (Nat.le_refl _),List.take_length]
   rw [hsz,hcu] at hcc
   refine Calls.mono (P:=Tryz.prog) hcc ?_
   rintro e w' ⟨rfl,ho,hs,d',hd1,hd2,hd3⟩
   obtain ⟨cur',p1,p2⟩:=hs cur _ _ q1
   have hlen:=Rg l
   have htk:cur'.toList.take ((BH l).length*2)=((BH l).map Ag).flatten:=AAM λ j hj=>by
    obtain ⟨c0,c1⟩:=hd3 j hj
    have e:=hd2 j hj
    have e2:(BH l).getD j (0,0)=d'[j]! := by rw [List.getD,e];rfl
    rw [Ff p1,Nat.zero_add] at c0 c1
    rw [e2];exact ⟨c0,c1⟩
   have hfp:=YV p1 (by omega) q3 (by rw [p2];exact q4) htk
   exact ⟨[.slice (some ⟨g,0,none⟩) (BH l).length cap],mb 0,rfl,⟨⟨mb 0,[],by simp,by rw [hbs];exact hfp,rfl⟩,m1,hfresh,hgone _,ho.os,ho.tape,ho.output,ho.size,λ b hb hm=>ho.block b hb λ e=>hm 0 (by decide) (by rw [hbs];simp [e])⟩⟩
def Hq:Con:={ ι:=(List V2),pre:=λ i=>i.length<=1048576,args:=λ i=>[.one (DC.sl 24 [.int,.int] (AA i))],res:=λ i=>⟨false,[none],[.own 24 [.int,.int] (AA (Bf i))]⟩ }
theorem Yd:Hq.Ok Tryz.prog 147:=by
 refine fok (X:=⟨tt,[(36,A8),(175,GD),(176,C0),(178,Ay),(179,Dd),(180,Eh)],[],31,[]⟩) mixed AQ (CTok.cons F6 (CTok.cons WD (CTok.cons WE (CTok.cons Rh (CTok.cons WB (CTok.cons AAK (CTok.nil _))))))) Tryz.func147 (λ _=>[]) ?_
 intro (l:List V2) hpre
 have hpre:l.length<=1048576:=hpre
 refine AP (q:=let Z3:=DC.sl 24 [.int,.int] (AA l);let Z1:=(([]:List (List Dat))=AA (Bf l));ifB ((!(decide ((nI ((AA l).length))>(64:Int))))) (∃ i1:(List V2),[DA.one Z3]=A8.args i1/\A8.pre i1/\(ifB ((!(i1.all AE))) Z1 (∃ i2:(List (List Dat)),[DA.one Z3]=GD.args i2/\GD.pre i2/\(∃ i3:(List V2),[DA.one (DC.sl 24 [.int,.int] i2),DA.one (DC.ro (.fn 177 []))]=C0.args i3/\C0.pre i3/\(∃ i4:(List V2),let Z2:=DC.sl 24 [.int,.int] (AA (BH i4));[DA.one (DC.sl 24 [.int,.int] (AA (CD i3)))]=Ay.args i4/\Ay.pre i4/\(ifB ((decide ((nI ((AA (BH i4)).length))<(2:Int)))) ((AA (BH i4)=AA (Bf l))) (∃ i5:(List V2),[DA.one Z2]=Dd.args i5/\Dd.pre i5/\(∃ i6:(List V2),[DA.one Z2]=Eh.args i6/\Eh.pre i6/\(∃ i7:(List V2),[DA.one (DC.sl 24 [.int,.int] (AA i6.reverse))]=Dd.args i7/\Dd.pre i7/\(((AA (A1 i5)).length+(AA (A1 i7)).length<=2199023255552)/\(((AA (A1 i5)++AA (A1 i7))=AA (Bf l))))))))))))) Z1) (by kernel_rfl) ?_
 conv=>zeta
 delta ifB nI
 have hvl:=AB l
 refine And.symm ⟨λ c1=>?_,λ c1=>?_⟩
 ·try simp only [nrm] at c1
  have hE:Bf l=[]:=Mx (by omega)
  rw [hE];rfl
 try simp only [nrm] at c1
 refine ⟨l,by
  rfl,by
  trivial,?_⟩
 refine ⟨λ c5=>?_,λ c5=>?_⟩
 ·try simp only [nrm] at c5
  have hE:=Oa c5
  rw [hE];rfl
 try simp only [nrm] at c5
 have hE:=KI (by omega) c5
 have hU:=V9 l
 have hlen:(BH (CD l)).length<=l.length:=by rw [hU];exact JE l l.length
 have hvec:(BH (CD l)).all AE=true:=by rw [hU];exact RY c5 (Nat.le_refl _)
 have hvu:=AB (BH (CD l))
 refine ⟨(AA l),by
  rfl,by
  show (AA l).length<=1073741824
  omega,?_⟩
 refine ⟨l,by
  rfl,by
  exact ⟨c5,hpre⟩,?_⟩
 refine ⟨(CD l),by
  rfl,by
  show (CD l).length<=1048576
  rw [Fe];exact hpre,?_⟩
 refine ⟨λ c16=>?_,λ c16=>?_⟩
 ·try simp only [nrm] at c16
  rw [hE,hU,RZ (by rw [← hU];omega)]
 try simp only [nrm] at c16
 have hc1:=(OY hvec).2
 have hc2:=(OY (LZ hvec)).2
 have hrl:(BH (CD l)).reverse.length=(BH (CD l)).length:=List.length_reverse
 have hH:A1 (BH (CD l))++A1 (BH (CD l)).reverse=NW (BH (CD l)):=by
  by_cases h2:(BH (CD l)).length=2
  ·exact YP h2
  ·exact (KJ (by omega)).symm
 refine ⟨(BH (CD l)),by
  rfl,by
  exact ⟨hvec,by omega,by omega⟩,?_⟩
 refine ⟨(BH (CD l)),by
  rfl,by
  show (BH (CD l)).length<=1048576
  omega,?_⟩
 refine ⟨(BH (CD l)).reverse,by
  rfl,by
  exact ⟨LZ hvec,by omega,by omega⟩,?_⟩
 refine ao (by rw [AB,AB];omega) λ o27=>?_
 rw [hE,← hU,← Hn,hH]
end Go.Proofs.YtkffpiaagjcmpaaGreat
namespace Go.Proofs.YtkffpiaagjcmpaaGreat
set_option linter.unusedVariables false
set_option linter.unusedSimpArgs false
open Go.RowKit
def ptS (b:List UInt8) (z:Int) (p:List V2×Cur):List V2×Cur:=
 (p.1++[(blV b p.2 (2*z+1)-z,blV b (blC b p.2 (2*z+1)) (2*z+1)-z)],blC b (blC b p.2 (2*z+1)) (2*z+1))
def ptN (b:List UInt8) (z:Int) (c:Cur):Nat->List V2×Cur
 | 0=>([],c)
 | j+1=>ptS b z (ptN b z c j)
def GV (b:List UInt8) (c:Cur):Nat:=(3+blV b c 3).toNat
def att (b:List UInt8) (z:Int) (c:Cur):List V2×Cur:=ptN b z (blC b c 3) (GV b c)
def drF (b:List UInt8) (z:Int):Nat->Cur->List V2×Cur
 | 0,c=>([(-1,-1),(1,-1),(0,1)],c)
 | k+1,c=>if AK (Bf (att b z c).1)=true then (Bf (att b z c).1,(att b z c).2) else drF b z k (att b z c).2
def drP (b:List UInt8) (z:Int) (c:Cur):List V2×Cur:=drF b z 8 c
def atC (b:List UInt8) (z:Int) (c:Cur):Nat->Cur
 | 0=>c
 | k+1=>(att b z (atC b z c k)).2
theorem E8 (b:List UInt8) (z:Int) (c:Cur):∀ j,(ptN b z c j).1.length=j
 | 0=>rfl
 | j+1=>by simp [ptN,ptS,E8 b z c j]
theorem D3 {b:List UInt8} {c:Cur} (z:Int) (h:Am b c):∀ j,Am b (ptN b z c j).2
 | 0=>h
 | j+1=>A2 _ (A2 _ (D3 z h j))
theorem Tc {b:List UInt8} {c:Cur} (z:Int) (h:Am b c):Am b (att b z c).2:=D3 z (A2 3 h) _
theorem Cf {b:List UInt8} {c:Cur} (z:Int) (h:Am b c):∀ k,Am b (atC b z c k)
 | 0=>h
 | k+1=>Tc z (Cf z h k)
theorem Ri (b:List UInt8) (c:Cur):3<=GV b c/\GV b c<=5/\((GV b c:Nat):Int)=3+blV b c 3:=by
 have:=A4 b c (n:=3) (by omega)
 unfold GV;omega
theorem IX (l:List V2) (x y:Int):AA l++[[Dat.int x,Dat.int y]]=AA (l++[(x,y)]):=by simp [AA,Hz]
theorem Ye {b:List UInt8} {z:Int} (hz:0<=z) (c:Cur):∀ j,∀ x ∈ (ptN b z c j).1,(-z<=x.1/\x.1<=z)/\-z<=x.2/\x.2<=z
 | 0,x,hx=>by simp [ptN] at hx
 | j+1,x,hx=>by
  simp only [ptN,ptS] at hx
  rcases List.mem_append.1 hx with hx|hx
  ·exact Ye hz c j x hx
  ·rw [List.mem_singleton.1 hx]
   have q1:=A4 b (ptN b z c j).2 (n:=2*z+1) (by omega)
   have q2:=A4 b (blC b (ptN b z c j).2 (2*z+1)) (n:=2*z+1) (by omega)
   exact ⟨⟨by show -z<=_-z;omega,by show _-z<=z;omega⟩,by show -z<=_-z;omega,by show _-z<=z;omega⟩
theorem Yf {b:List UInt8} {z:Int} (hz:1<=z):∀ k c,AK (drF b z k c).1=true/\(drF b z k c).1.length<=16/\∀ x ∈ (drF b z k c).1,(-z<=x.1/\x.1<=z)/\-z<=x.2/\x.2<=z
 | 0,c=>by
  refine ⟨by simp only [drF];decide,by simp [drF],λ x hx=>?_⟩
  simp only [drF,List.mem_cons,List.not_mem_nil,or_false] at hx
  rcases hx with rfl|rfl|rfl <;> exact ⟨⟨by omega,by omega⟩,by omega,by omega⟩
 | k+1,c=>by
  unfold drF
  split
  ·rename_i h
   refine ⟨h,?_,λ x hx=>?_⟩
   ·simp only [AK,Bool.and_eq_true,BK] at h
    have:=h.1.1
    simp only;omega
   ·exact Ye (by omega) _ _ x (Oc hx)
  ·exact Yf hz k _
theorem Pf {b:List UInt8} {z:Int} (hz:1<=z) (c:Cur):AK (drP b z c).1=true/\(drP b z c).1.length<=16/\∀ x ∈ (drP b z c).1,(-z<=x.1/\x.1<=z)/\-z<=x.2/\x.2<=z:=Yf hz 8 c
theorem Un {b:List UInt8} {z:Int} : ∀ k c,Am b c->Am b (drF b z k c).2
 | 0,c,h=>h
 | k+1,c,h=>by
  unfold drF
  split
  ·exact Tc z h
  ·exact Un k _ (Tc z h)
def JJ:(List UInt8)×Cur×Int->List PC:=λ i=>[.bt i.1,.im (.int .i64 i.2.1.i),.im (.int .i64 i.2.1.h)]
def Rj:(List UInt8)×Cur×Int->List PC:=λ i=>[.bt i.1,.im (.int .i64 (((drP i.1 i.2.2 i.2.1).2).i)),.im (.int .i64 (((drP i.1 i.2.2 i.2.1).2).h))]
def EM:Con:={ ι:=(List UInt8)×Cur×Int,pre:=λ i=>Am i.1 i.2.1/\0<=i.2.2/\i.2.2<=1000,args:=λ i=>[.one (cI i.2.2)],ptr:=some (JJ,Rj),res:=λ i=>⟨false,[none],[.own 24 [.int,.int] (AA (drP i.1 i.2.2 i.2.1).1)]⟩ }
set_option maxRecDepth 100000 in
theorem Yg:EM.OkP Tryz.prog 70 JJ Rj:=by
 refine YN (X:=⟨tt,[(69,AT),(124,Hp),(125,E3)],[4000000],48,[]⟩) mixed AQ (CTok.consP Mr (CTok.cons Yc (CTok.cons TH (CTok.nil _)))) Tryz.func70 (λ (i:(List UInt8)×Cur×Int)=>[(2,.mk 3 (Nat) (λ x1=>let Z3:=atC i.1 i.2.2 i.2.1 x1;{ tm:=[(0,tP 1 0),(1,tI i.2.2),(5,tI (x1:Int))],en:=[(1,.box [.ext 2,kI (Z3.i),kI (Z3.h)]),(2,.ro (.bytes i.1) [])] }) (λ x1=>x1<=8/\drF i.1 i.2.2 (8-x1) (atC i.1 i.2.2 i.2.1 x1)=drP i.1 i.2.2 i.2.1) (λ x1=>8-x1) (λ x1=>let Z1:=atC i.1 i.2.2 i.2.1 x1;[(6,.mk 4 (Nat) (λ x2=>let Z2:=ptN i.1 i.2.2 (blC i.1 Z1 3) x2;{ tm:=[(0,tP 1 0),(1,tI i.2.2),(5,tI (x1:Int)),(7,tI ((nI (GV i.1 Z1))-(x2:Int))),(6,tX 3)],en:=[(1,.box [.ext 2,kI (Z2.2.i),kI (Z2.2.h)]),(2,.ro (.bytes i.1) []),(3,.own 24 [.int,.int] (AA Z2.1))] }) (λ x2=>x2<=GV i.1 Z1) (λ x2=>GV i.1 Z1-x2) (λ _=>[]))]))]) ?_
 rintro ⟨b,c,z⟩ hpre
 have hpre:Am b c/\0<=z/\z<=1000:=hpre
 refine AP (q:=let Z7:=drP b z c;let Z5:=cI (wR ((wR ((2:Int)*z))+(1:Int)));let Z3:=(.bytes b:RO)=.bytes b;(∃ x1:Nat,let Z12:=atC b z c x1;(x1<=8/\drF b z (8-x1) Z12=drP b z c)/\((rf (vI z))/\(vI (0:Int)=vI (x1:Int))/\(vI c.i=vI (Z12.i))/\(vI c.h=vI (Z12.h))/\Z3))/\∀ x1:Nat,let Z1:=atC b z c x1;let Z6:=nI (GV b Z1);let Z4:=blC b Z1 3;(x1<=8/\drF b z (8-x1) Z1=drP b z c)->(ifB ((decide ((x1:Int)<(8:Int)))) (∃ i1:(List UInt8)×Cur×Int,let Z13:=blC i1.1 i1.2.1 i1.2.2;[DA.one (cI (3:Int))]=AT.args i1/\[PC.bt b,PC.im (vI (Z1.i)),PC.im (vI (Z1.h))]=BN i1/\AT.pre i1/\((∃ x2:Nat,let Z10:=ptN b z Z4 x2;(x2<=GV b Z1)/\((rf (vI z))/\(rf (vI (x1:Int)))/\(vI (wR ((3:Int)+(blV i1.1 i1.2.1 i1.2.2)))=vI (Z6-(x2:Int)))/\(vI (Z13.i)=vI (Z10.2.i))/\(vI (Z13.h)=vI (Z10.2.h))/\Z3/\(([]:List (List Dat))=(AA Z10.1))))/\∀ x2:Nat,let Z2:=ptN b z Z4 x2;(x2<=GV b Z1)->(ifB ((decide ((Z6-(x2:Int))>(0:Int)))) (∃ i2:(List UInt8)×Cur×Int,let Z14:=blC i2.1 i2.2.1 i2.2.2;let Z8:=wR ((blV i2.1 i2.2.1 i2.2.2)-z);[DA.one Z5]=AT.args i2/\[PC.bt b,PC.im (vI (Z2.2.i)),PC.im (vI (Z2.2.h))]=BN i2/\AT.pre i2/\(∃ i3:(List UInt8)×Cur×Int,let Z15:=blC i3.1 i3.2.1 i3.2.2;let Z9:=wR ((blV i3.1 i3.2.1 i3.2.2)-z);[DA.one Z5]=AT.args i3/\[PC.bt b,PC.im (vI (Z14.i)),PC.im (vI (Z14.h))]=BN i3/\AT.pre i3/\(((AA Z2.1).length+([[Dat.int Z8,Dat.int Z9]]:List (List Dat)).length<=2199023255552)/\(∃ y3:Nat,let Z11:=ptN b z Z4 y3;(y3<=GV b Z1)/\(GV b Z1-y3<GV b Z1-x2)/\((rf (vI z))/\(rf (vI (x1:Int)))/\(vI (wR ((Z6-(x2:Int))-(1:Int)))=vI (Z6-(y3:Int)))/\(vI (Z15.i)=vI (Z11.2.i))/\(vI (Z15.h)=vI (Z11.2.h))/\Z3/\(((AA Z2.1)++([[Dat.int Z8,Dat.int Z9]]:List (List Dat)))=(AA Z11.1))))))) (∃ i4:(List V2),[DA.one (DC.sl 24 [.int,.int] (AA Z2.1))]=Hp.args i4/\Hp.pre i4/\(∃ i5:(List V2),[DA.one (DC.sl 24 [.int,.int] (AA (Bf i4)))]=E3.args i5/\E3.pre i5/\(ifB ((AK i5)) ((AA (Bf i4)=AA Z7.1)/\(vI (Z2.2.i)=vI ((Z7.2).i))/\(vI (Z2.2.h)=vI ((Z7.2).h))) (∃ y4:Nat,let Z16:=atC b z c y4;(y4<=8/\drF b z (8-y4) Z16=drP b z c)/\(8-y4<8-x1)/\((rf (vI z))/\(vI (wR ((x1:Int)+(1:Int)))=vI (y4:Int))/\(vI (Z2.2.i)=vI (Z16.i))/\(vI (Z2.2.h)=vI (Z16.h))/\Z3)))))))) ((([[Dat.int (-1:Int),Dat.int (-1:Int)],[Dat.int (1:Int),Dat.int (-1:Int)],[Dat.int (0:Int),Dat.int (1:Int)]]:List (List Dat))=AA Z7.1)/\(vI (Z1.i)=vI ((Z7.2).i))/\(vI (Z1.h)=vI ((Z7.2).h))))) (by kernel_rfl) ?_
 conv=>zeta
 delta ifB vI wR nI
 obtain ⟨hc,hz0,hz1⟩:=hpre
 have hw:IntKind.i64.wrap (IntKind.i64.wrap (2*z)+1)=2*z+1:=by rw [AC (x:=2*z) (by omega) (by omega),AC (by omega) (by omega)]
 refine ⟨⟨0,by
  exact ⟨Nat.zero_le _,rfl⟩,?_⟩,?_⟩
 ·refine ⟨rfl,rfl,?_,?_,?_⟩
  ·rfl
  ·rfl
  rfl
 intro (k:Nat) hki1
 have hki1:k<=8/\drF b z (8-k) (atC b z c k)=drP b z c:=hki1
 refine And.symm ⟨λ c8=>?_,λ c8=>?_⟩
 ·try simp only [nrm] at c8
  have hr:drP b z c=([(-1,-1),(1,-1),(0,1)],atC b z c k):=by rw [← hki1.2,show 8-k=0 by omega];rfl
  refine ⟨?_,?_,?_⟩
  ·first|(rw [hr];done)|(rw [hr];rfl)|(rw [hr,hpt];done)
  ·first|(rw [hr];done)|(rw [hr];rfl)|(rw [hr,hpt];done)
  first|(rw [hr];done)|(rw [hr];rfl)|(rw [hr,hpt];done)
 try simp only [nrm] at c8
 have hcr:=Ri b (atC b z c k)
 refine ⟨(b,(atC b z c k),(3:Int)),by
  rfl,rfl,by
  show Am b (atC b z c k)
  first|exact Cf z hc k|exact (D3 z (A2 3 (Cf z hc k)) j)|exact A2 _ (D3 z (A2 3 (Cf z hc k)) j)|(rw [E8];omega)|trivial,?_⟩
 refine ⟨⟨0,by
  first|omega|trivial,?_⟩,?_⟩
 ·refine ⟨rfl,rfl,?_,?_,?_,?_,?_⟩
  ·show Value.int .i64 (IntKind.i64.wrap ((3:Int)+(blV b (atC b z c k) (3:Int))))=Value.int .i64 ((((GV b (atC b z c k)):Nat):Int)-(0:Int))
   first|rfl|exact AS (by rw [AC (by omega) (by omega)];omega)
  ·show Value.int .i64 ((blC b (atC b z c k) (3:Int)).i)=Value.int .i64 ((ptN b z (blC b (atC b z c k) 3) 0).2.i)
   first|rfl|exact AS (by rw [AC (by omega) (by omega)];omega)
  ·show Value.int .i64 ((blC b (atC b z c k) (3:Int)).h)=Value.int .i64 ((ptN b z (blC b (atC b z c k) 3) 0).2.h)
   first|rfl|exact AS (by rw [AC (by omega) (by omega)];omega)
  ·first|rfl|exact AS (by rw [AC (by omega) (by omega)];omega)
  first|rfl|exact AS (by rw [AC (by omega) (by omega)];omega)
 intro (j:Nat) hki12
 have hki12:j<=GV b (atC b z c k):=hki12
 refine ⟨λ c21=>?_,λ c21=>?_⟩
 ·try simp only [nrm] at c21
  have q1:=A4 b (ptN b z (blC b (atC b z c k) 3) j).2 (n:=2*z+1) (by omega)
  have q2:=A4 b (blC b (ptN b z (blC b (atC b z c k) 3) j).2 (2*z+1)) (n:=2*z+1) (by omega)
  refine ⟨(b,(ptN b z (blC b (atC b z c k) 3) j).2,(2*z+1)),by
   exact congrArg (λ x=>[DA.one (DC.im (Value.int .i64 x))]) hw,rfl,by
   show Am b ((ptN b z (blC b (atC b z c k) 3) j).2)
   first|exact Cf z hc k|exact (D3 z (A2 3 (Cf z hc k)) j)|exact A2 _ (D3 z (A2 3 (Cf z hc k)) j)|(rw [E8];omega)|trivial,?_⟩
  refine ⟨(b,(blC b (ptN b z (blC b (atC b z c k) 3) j).2 (2*z+1)),(2*z+1)),by
   exact congrArg (λ x=>[DA.one (DC.im (Value.int .i64 x))]) hw,rfl,by
   show Am b (blC b (ptN b z (blC b (atC b z c k) 3) j).2 (2*z+1))
   first|exact Cf z hc k|exact (D3 z (A2 3 (Cf z hc k)) j)|exact A2 _ (D3 z (A2 3 (Cf z hc k)) j)|(rw [E8];omega)|trivial,?_⟩
  refine ao (a:=(AA (ptN b z (blC b (atC b z c k) 3) j).1).length+([[Dat.int (IntKind.i64.wrap ((blV b ((ptN b z (blC b (atC b z c k) 3) j).2) (2*z+1))-z)),Dat.int (IntKind.i64.wrap ((blV b (blC b (ptN b z (blC b (atC b z c k) 3) j).2 (2*z+1)) (2*z+1))-z))]]:List (List Dat)).length<=2199023255552) (by first|rfl|omega|(rw [AB,E8];simp only [List.length_cons,List.length_nil];omega)) λ o28=>?_
  refine ⟨j+1,by
   first|omega|trivial,by
   first|omega|(simp;omega),?_⟩
  refine ⟨rfl,rfl,?_,?_,?_,?_,?_⟩
  ·first|rfl|exact AS (by rw [AC (by omega) (by omega)];omega)
  ·show Value.int .i64 ((blC b (blC b (ptN b z (blC b (atC b z c k) 3) j).2 (2*z+1)) (2*z+1)).i)=Value.int .i64 ((ptN b z (blC b (atC b z c k) 3) (j+1)).2.i)
   first|rfl|exact AS (by rw [AC (by omega) (by omega)];omega)
  ·show Value.int .i64 ((blC b (blC b (ptN b z (blC b (atC b z c k) 3) j).2 (2*z+1)) (2*z+1)).h)=Value.int .i64 ((ptN b z (blC b (atC b z c k) 3) (j+1)).2.h)
   first|rfl|exact AS (by rw [AC (by omega) (by omega)];omega)
  ·first|rfl|exact AS (by rw [AC (by omega) (by omega)];omega)
  show ((AA (ptN b z (blC b (atC b z c k) 3) j).1)++([[Dat.int (IntKind.i64.wrap ((blV b ((ptN b z (blC b (atC b z c k) 3) j).2) (2*z+1))-z)),Dat.int (IntKind.i64.wrap ((blV b (blC b (ptN b z (blC b (atC b z c k) 3) j).2 (2*z+1)) (2*z+1))-z))]]:List (List Dat)))=(AA (ptN b z (blC b (atC b z c k) 3) (j+1)).1)
  rw [AC (by omega) (by omega),AC (by omega) (by omega)];exact IX _ _ _
 try simp only [nrm] at c21
 have hj:GV b (atC b z c k)=j:=by omega
 have hpt:ptN b z (blC b (atC b z c k) 3) j=att b z (atC b z c k):=by unfold att;rw [hj]
 refine ⟨(ptN b z (blC b (atC b z c k) 3) j).1,by
  rfl,by
  show ((ptN b z (blC b (atC b z c k) 3) j).1).length<=1048576
  first|exact Cf z hc k|exact (D3 z (A2 3 (Cf z hc k)) j)|exact A2 _ (D3 z (A2 3 (Cf z hc k)) j)|(rw [E8];omega)|trivial,?_⟩
 refine ⟨(Bf ((ptN b z (blC b (atC b z c k) 3) j).1)),by
  rfl,by
  first|exact Cf z hc k|exact (D3 z (A2 3 (Cf z hc k)) j)|exact A2 _ (D3 z (A2 3 (Cf z hc k)) j)|(rw [E8];omega)|trivial,?_⟩
 refine ⟨λ c45=>?_,λ c45=>?_⟩
 ·try simp only [nrm] at c45
  rw [hpt] at c45
  have hr:drP b z c=(Bf (att b z (atC b z c k)).1,(att b z (atC b z c k)).2):=by rw [← hki1.2,show 8-k=(7-k)+1 by omega];exact if_pos c45
  refine ⟨?_,?_,?_⟩
  ·first|(rw [hr];done)|(rw [hr];rfl)|(rw [hr,hpt];done)
  ·first|(rw [hr];done)|(rw [hr];rfl)|(rw [hr,hpt];done)
  first|(rw [hr];done)|(rw [hr];rfl)|(rw [hr,hpt];done)
 try simp only [nrm] at c45
 rw [hpt] at c45
 have hr:drF b z (8-(k+1)) (atC b z c (k+1))=drP b z c:=by rw [← hki1.2,show 8-k=(8-(k+1))+1 by omega];exact (if_neg (by rw [c45];simp)).symm
 refine ⟨k+1,by
  exact ⟨by omega,hr⟩,by
  first|omega|(simp;omega),?_⟩
 refine ⟨rfl,?_,?_,?_,?_⟩
 ·first|exact AS (AC (by omega) (by omega))|rfl|(rw [hpt];rfl)
 ·first|exact AS (AC (by omega) (by omega))|rfl|(rw [hpt];rfl)
 ·first|exact AS (AC (by omega) (by omega))|rfl|(rw [hpt];rfl)
 first|exact AS (AC (by omega) (by omega))|rfl|(rw [hpt];rfl)
end Go.Proofs.YtkffpiaagjcmpaaGreat
