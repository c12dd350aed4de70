import Derived.Test.YtndnhlhnjiopfaaGreatToRkH
import Derived.Test.YtndnhlhnjiopfaaGreatToHuv
import Derived.Test.YtndnhlhnjiopfaaGreatToHulS
namespace Go.Proofs.YtndnhlhnjiopfaaGreat
set_option maxRecDepth 100000
set_option linter.unusedVariables false
set_option linter.unusedSimpArgs false
open Go.RowKit Go.Sort Go.Shelf
def A0:Con:={ ι:=(List V2),pre:=λ i=>True,args:=λ i=>[.one (DC.sl 44 [.int,.int] (AA i))],res:=λ i=>⟨false,[none],[rcB (i.all AB)]⟩ }
theorem GX:A0.Ok Tryz.prog 60:=CT rfl ⟨_,Tryz.func60,by decide,rfl⟩ (λ _=>Nat.le_of_ble_eq_true rfl) (λ _=>rfl) (λ l=>[.im (.bool (l.all AB))]) (λ _=>rfl) (λ _=>rfl) (λ i hp w us h=>by
 have h:RdRow w [.sl 44 [.int,.int]] [.sl (AA i)] us:=h
 obtain ⟨v,vs,rfl,h1,h2⟩:=RdRow.cons2 h
 obtain ⟨-,rfl⟩:=RdRow.nil_inv h2
 refine (IO i v w (Rd.vecs h1)).mono ?_
 rintro e w' ⟨rfl,hb⟩
 exact ⟨[Value.bool (i.all AB)],rfl,Own.leaf (Fp.mk_bool _),hb⟩)
def CD:Con:={ ι:=Int×Int×Int×Int×Int×Int,pre:=λ i=>AB (i.1,i.2.1)=true/\AB (i.2.2.1,i.2.2.2.1)=true/\AB (i.2.2.2.2.1,i.2.2.2.2.2)=true,args:=λ i=>[DA.agg [cI i.1,cI i.2.1],DA.agg [cI i.2.2.1,cI i.2.2.2.1],DA.agg [cI i.2.2.2.2.1,cI i.2.2.2.2.2]],res:=λ i=>⟨false,[none],[rcI (AC (i.1,i.2.1) (i.2.2.1,i.2.2.2.1) (i.2.2.2.2.1,i.2.2.2.2.2))]⟩ }
theorem OX:CD.Ok Tryz.prog 81:=CT rfl ⟨_,Tryz.func81,by decide,rfl⟩ (λ _=>Nat.le_of_ble_eq_true rfl) (λ _=>rfl) (λ i=>[.im (.int .i64 (AC (i.1,i.2.1) (i.2.2.1,i.2.2.2.1) (i.2.2.2.2.1,i.2.2.2.2.2)))]) (λ _=>rfl) (λ _=>rfl) (λ i hp w us h=>by
 obtain ⟨a1,a2,b1,b2,c1,c2⟩:=i
 have h:RdRow w [.int,.int,.int,.int,.int,.int] [.int a1,.int a2,.int b1,.int b2,.int c1,.int c2] us:=h
 obtain ⟨x1,_,rfl,q1,h⟩:=RdRow.cons2 h
 obtain ⟨x2,_,rfl,q2,h⟩:=RdRow.cons2 h
 obtain ⟨x3,_,rfl,q3,h⟩:=RdRow.cons2 h
 obtain ⟨x4,_,rfl,q4,h⟩:=RdRow.cons2 h
 obtain ⟨x5,_,rfl,q5,h⟩:=RdRow.cons2 h
 obtain ⟨x6,_,rfl,q6,h⟩:=RdRow.cons2 h
 obtain ⟨-,rfl⟩:=RdRow.nil_inv h
 obtain rfl:=Rd.int2 q1
 obtain rfl:=Rd.int2 q2
 obtain rfl:=Rd.int2 q3
 obtain rfl:=Rd.int2 q4
 obtain rfl:=Rd.int2 q5
 obtain rfl:=Rd.int2 q6
 refine (UY a1 a2 b1 b2 c1 c2 hp.1 hp.2.1 hp.2.2 w).mono ?_
 rintro e w' ⟨rfl,hb⟩
 exact ⟨[Value.int .i64 (AC (a1,a2) (b1,b2) (c1,c2))],rfl,Own.leaf (Fp.mk_int _),hb⟩)
def EQ:Con:={ ι:=Int×Int×Int×Int×Int×Int,pre:=λ i=>AB (i.1,i.2.1)=true/\AB (i.2.2.1,i.2.2.2.1)=true/\AB (i.2.2.2.2.1,i.2.2.2.2.2)=true,args:=λ i=>[DA.agg [cI i.1,cI i.2.1],DA.agg [cI i.2.2.1,cI i.2.2.2.1],DA.agg [cI i.2.2.2.2.1,cI i.2.2.2.2.2]],res:=λ i=>⟨false,[none],[rcI (AC (i.1,i.2.1) (i.2.2.1,i.2.2.2.1) (i.2.2.2.2.1,i.2.2.2.2.2))]⟩ }
theorem Uj:EQ.Ok Tryz.prog 113:=CT rfl ⟨_,Tryz.func113,by decide,rfl⟩ (λ _=>Nat.le_of_ble_eq_true rfl) (λ _=>rfl) (λ i=>[.im (.int .i64 (AC (i.1,i.2.1) (i.2.2.1,i.2.2.2.1) (i.2.2.2.2.1,i.2.2.2.2.2)))]) (λ _=>rfl) (λ _=>rfl) (λ i hp w us h=>by
 obtain ⟨a1,a2,b1,b2,c1,c2⟩:=i
 have h:RdRow w [.int,.int,.int,.int,.int,.int] [.int a1,.int a2,.int b1,.int b2,.int c1,.int c2] us:=h
 obtain ⟨x1,_,rfl,q1,h⟩:=RdRow.cons2 h
 obtain ⟨x2,_,rfl,q2,h⟩:=RdRow.cons2 h
 obtain ⟨x3,_,rfl,q3,h⟩:=RdRow.cons2 h
 obtain ⟨x4,_,rfl,q4,h⟩:=RdRow.cons2 h
 obtain ⟨x5,_,rfl,q5,h⟩:=RdRow.cons2 h
 obtain ⟨x6,_,rfl,q6,h⟩:=RdRow.cons2 h
 obtain ⟨-,rfl⟩:=RdRow.nil_inv h
 obtain rfl:=Rd.int2 q1
 obtain rfl:=Rd.int2 q2
 obtain rfl:=Rd.int2 q3
 obtain rfl:=Rd.int2 q4
 obtain rfl:=Rd.int2 q5
 obtain rfl:=Rd.int2 q6
 refine (UZ a1 a2 b1 b2 c1 c2 hp.1 hp.2.1 hp.2.2 w).mono ?_
 rintro e w' ⟨rfl,hb⟩
 exact ⟨[Value.int .i64 (AC (a1,a2) (b1,b2) (c1,c2))],rfl,Own.leaf (Fp.mk_int _),hb⟩)
def Dm:Con:={ ι:=Int×Int×Int×Int,pre:=λ i=>True,args:=λ i=>[DA.agg [cI i.1,cI i.2.1],DA.agg [cI i.2.2.1,cI i.2.2.2]],res:=λ i=>⟨false,[none],[rcB (AO (i.1,i.2.1) (i.2.2.1,i.2.2.2))]⟩ }
theorem P6:Dm.Ok Tryz.prog 110:=by
 refine fok (X:=⟨tt,[],[],24,[]⟩) mixed AM (CTok.nil _) Tryz.func110 (λ _=>[]) ?_
 rintro ⟨a1,a2,b1,b2⟩ hpre
 have hpre:True:=hpre
 refine AL (q:=let Z1:=AO (a1,a2) (b1,b2);ifB ((!(decide (a1<b1)))) (ifB ((a1 == b1)) ((vB (decide (a2<b2))=vB Z1)) ((vB false=vB Z1))) ((vB true=vB Z1))) (by kernel_rfl) ?_
 conv=>zeta
 delta ifB vB
 refine And.symm ⟨λ c1=>?_,λ c1=>?_⟩
 ·try simp only [nrm] at c1
  exact congrArg Value.bool (by unfold AO;simp_all)
 try simp only [nrm] at c1
 refine ⟨λ c2=>?_,λ c2=>?_⟩
 ·try simp only [nrm] at c2
  exact congrArg Value.bool (by unfold AO;simp_all)
 try simp only [nrm] at c2
 exact congrArg Value.bool (by unfold AO;simp_all)
def CZ:Con:={ ι:=(List V2),pre:=λ i=>i.all AB=true/\0<i.length/\i.length<=64,args:=λ i=>[.one (DC.sl 44 [.int,.int] (AA i))],res:=λ i=>⟨false,[none],[.own 44 [.int,.int] (AA (AQ i))]⟩ }
theorem SV:CZ.Ok Tryz.prog 134:=by
 refine fok (X:=⟨tt,[(81,CD)],[37,47],48,[]⟩) mixed AM (CTok.cons OX (CTok.nil _)) Tryz.func134 (λ (i:(List V2))=>[(3,.mk 3 (Nat) (λ x1=>{ tm:=[(7,tX 1),(8,tI (nI ((AA i).length))),(9,tI (nI x1)),(3,tX 2)],en:=[(1,.view 44 [.int,.int] (AA i) []),(2,.own 44 [.int,.int] (AA (chT i x1)))] }) (λ x1=>x1<=i.length) (λ x1=>i.length-x1) (λ x1=>[(5,.mk 4 ((List V2)) (λ x2=>{ tm:=[(7,tX 1),(8,tI (nI ((AA i).length))),(9,tI (nI x1)),(5,tP 2 0),(3,tX 3)],en:=[(2,.box [kI (((((AA i).getD x1 []).getD 0 (.int 0))).n),kI (((((AA i).getD x1 []).getD 1 (.int 0))).n)]),(1,.view 44 [.int,.int] (AA i) []),(3,.own 44 [.int,.int] (AA x2))] }) (λ x2=>BQ x2 (i.getD x1 (0,0))=BQ (chT i x1) (i.getD x1 (0,0))/\x2.length<=x1/\x2.all AB=true) (λ x2=>x2.length) (λ _=>[]))]))]) ?_
 intro (l:List V2) hpre
 have hpre:l.all AB=true/\0<l.length/\l.length<=64:=hpre
 refine AL (q:=let Z6:=vI (nI ((AA l).length));(∃ x1:Nat,(x1<=l.length)/\((rf Z6)/\(vI (0:Int)=vI (nI x1))/\(rf (AA l))/\(([]:List (List Dat))=(AA (chT l x1)))))/\∀ x1:Nat,let Z16:=wR ((nI x1)+(1:Int));let Z15:=chT l x1;let Z12:=AA Z15;let Z11:=l.getD x1 (0,0);let Z7:=wR ((nI (Z12.length))-(1:Int));let Z2:=(AA l).getD x1 [];let Z10:=(Z2.getD 1 (.int 0));let Z9:=(Z2.getD 0 (.int 0));(x1<=l.length)->(ifB ((decide ((nI x1)<(nI ((AA l).length))))) ((0<=(nI x1)/\(nI x1)<((AA l).length:Int))/\((x1<(AA l).length)/\((∃ x2:(List V2),(BQ x2 Z11=BQ Z15 Z11/\x2.length<=x1/\x2.all AB=true)/\((rf Z6)/\(rf (vI (nI x1)))/\(rf (vI Z9.n))/\(rf (vI Z10.n))/\(rf (AA l))/\(Z12=(AA x2))))/\∀ x2:(List V2),let Z8:=AA x2;let Z14:=nI (Z8.length);let Z13:=(Z8.length:Int);let Z5:=Z8++([[Dat.int (Z9.n),Dat.int (Z10.n)]]:List (List Dat));let Z4:=Z8.length+([[Dat.int (Z9.n),Dat.int (Z10.n)]]:List (List Dat)).length<=2199023255552;let Z3:=wR (Z14-(2:Int));let Z1:=wR (Z14-(1:Int));(BQ x2 Z11=BQ Z15 Z11/\x2.length<=x1/\x2.all AB=true)->(ifB ((decide (Z14>(1:Int)))) ((0<=Z3/\Z3<Z13)/\((Z3.toNat<Z8.length)/\((0<=Z1/\Z1<Z13)/\((Z1.toNat<Z8.length)/\(∃ i1:Int×Int×Int×Int×Int×Int,[DA.agg [cI ((((Z8.getD (Z3.toNat) []).getD 0 (.int 0))).n),cI ((((Z8.getD (Z3.toNat) []).getD 1 (.int 0))).n)],DA.agg [cI ((((Z8.getD (Z1.toNat) []).getD 0 (.int 0))).n),cI ((((Z8.getD (Z1.toNat) []).getD 1 (.int 0))).n)],DA.agg [cI (Z9.n),cI (Z10.n)]]=CD.args i1/\CD.pre i1/\(ifB ((decide ((AC (i1.1,i1.2.1) (i1.2.2.1,i1.2.2.2.1) (i1.2.2.2.2.1,i1.2.2.2.2.2))<=(0:Int)))) ((Nat.beq 2 2=true)/\(((0:Int)=0)/\((0<=Z1)/\((Z1<=Z13)/\(∃ y3:(List V2),(BQ y3 Z11=BQ Z15 Z11/\y3.length<=x1/\y3.all AB=true)/\(y3.length<x2.length)/\((rf Z6)/\(rf (vI (nI x1)))/\(rf (vI Z9.n))/\(rf (vI Z10.n))/\(rf (AA l))/\((Z8.take (Z1.toNat))=(AA y3)))))))) (Z4/\(∃ y4:Nat,(y4<=l.length)/\(l.length-y4<l.length-x1)/\((rf Z6)/\(vI Z16=vI (nI y4))/\(rf (AA l))/\(Z5=(AA (chT l y4)))))))))))) (Z4/\(∃ y5:Nat,(y5<=l.length)/\(l.length-y5<l.length-x1)/\((rf Z6)/\(vI Z16=vI (nI y5))/\(rf (AA l))/\(Z5=(AA (chT l y5)))))))))) ((Nat.beq 2 2=true)/\(((0:Int)=0)/\((0<=Z7)/\((Z7<=(Z12.length:Int))/\(((Z12.take (Z7.toNat))=AA (AQ l))))))))) (by kernel_rfl) ?_
 conv=>zeta
 delta ifB vI wR nI
 have hvl:=AD l
 refine ⟨⟨0,by
  omega,?_⟩,?_⟩
 ·refine ⟨rfl,?_,rfl,?_⟩
  ·rfl
  rfl
 intro (k:Nat) hki1
 have hki1:k<=l.length:=hki1
 refine And.symm ⟨λ c7=>?_,λ c7=>?_⟩
 ·try simp only [nrm] at c7
  have hk:l.length=k:=by omega
  have hcb:=Hi hpre.1 k (by omega)
  have hp:0<(chT l k).length:=by obtain ⟨m,rfl⟩:∃ m,k=m+1:=⟨k-1,by omega⟩;exact QN l m
  have hvc:=AD (chT l k)
  have hw3:IntKind.i64.wrap ((((AA (chT l k)).length:Nat):Int)-(1:Int))=(((chT l k).length-1:Nat):Int):=by rw [hvc,AE (by omega) (by omega)];omega
  refine ao (by rfl) λ o56=>?_
  refine ao (by rfl) λ o57=>?_
  refine ao (by omega) λ o58=>?_
  refine ao (by omega) λ o59=>?_
  rw [hw3,Int.toNat_natCast];show _=AA (Dw (chT l l.length));rw [hk];simp [AA,Dw,List.map_take]
 try simp only [nrm] at c7
 have hkl:k<l.length:=by omega
 have hV:=Ai hpre.1 hkl
 have hcb:=Hi hpre.1 k (by omega)
 refine ao (by omega) λ o8=>?_
 refine ao (by omega) λ o9=>?_
 refine ⟨⟨chT l k,by
  exact ⟨rfl,hcb.1,hcb.2⟩,?_⟩,?_⟩
 ·exact ⟨rfl,rfl,rfl,rfl,rfl,rfl⟩
 intro (o:List V2) hki10
 have hki10:BQ o (l.getD k (0,0))=BQ (chT l k) (l.getD k (0,0))/\o.length<=k/\o.all AB=true:=hki10
 have hvo:=AD o
 refine And.symm ⟨λ c18=>?_,λ c18=>?_⟩
 ·try simp only [nrm] at c18
  have hn:BQ o (l.getD k (0,0))=o:=Bv (λ h=>by omega)
  refine ao (by simp only [AD,List.length_cons,List.length_nil];omega) λ o48=>?_
  refine ⟨k+1,by
   trivial,by
   omega,?_⟩
  refine ⟨rfl,?_,rfl,?_⟩
  ·exact Ac (AE (by omega) (by omega))
  rw [Ao hkl,Ap hkl,← Gi hki10.1 hn];simp [AA,GG]
 try simp only [nrm] at c18
 have ho:1<o.length:=by omega
 have hw2:IntKind.i64.wrap ((((AA o).length:Nat):Int)-(2:Int))=((o.length-2:Nat):Int):=by rw [hvo,AE (by omega) (by omega)];omega
 have hw1:IntKind.i64.wrap ((((AA o).length:Nat):Int)-(1:Int))=((o.length-1:Nat):Int):=by rw [hvo,AE (by omega) (by omega)];omega
 refine ao (by omega) λ o19=>?_
 refine ao (by omega) λ o20=>?_
 refine ao (by omega) λ o21=>?_
 refine ao (by omega) λ o22=>?_
 refine ⟨((o.getD (o.length-2) (0,0)).1,(o.getD (o.length-2) (0,0)).2,(o.getD (o.length-1) (0,0)).1,(o.getD (o.length-1) (0,0)).2,(l.getD k (0,0)).1,(l.getD k (0,0)).2),by
  rw [hw2,hw1,Int.toNat_natCast,Int.toNat_natCast,Ao (show o.length-2<o.length by omega),Ap (show o.length-2<o.length by omega),Ao (show o.length-1<o.length by omega),Ap (show o.length-1<o.length by omega),Ao hkl,Ap hkl];rfl,by
  try dsimp only [CD]
  exact ⟨Ai hki10.2.2 (show o.length-2<o.length by omega),Ai hki10.2.2 (show o.length-1<o.length by omega),hV⟩,?_⟩
 refine And.symm ⟨λ c26=>?_,λ c26=>?_⟩
 ·try dsimp only at c26
  try simp only [nrm] at c26
  have hn:BQ o (l.getD k (0,0))=o:=Bv (λ h=>Int.not_le.2 c26 h.2)
  refine ao (by simp only [AD,List.length_cons,List.length_nil];omega) λ o40=>?_
  refine ⟨k+1,by
   trivial,by
   omega,?_⟩
  refine ⟨rfl,?_,rfl,?_⟩
  ·exact Ac (AE (by omega) (by omega))
  rw [Ao hkl,Ap hkl,← Gi hki10.1 hn];simp [AA,GG]
 try dsimp only at c26
 try simp only [nrm] at c26
 refine ao (by rfl) λ o27=>?_
 refine ao (by rfl) λ o28=>?_
 refine ao (by omega) λ o29=>?_
 refine ao (by omega) λ o30=>?_
 refine ⟨o.take (o.length-1),by
  exact ⟨(Gh ho c26).trans hki10.1,by simp only [List.length_take];omega,by rw [List.all_eq_true];exact λ x hx=>List.all_eq_true.1 hki10.2.2 x (List.mem_of_mem_take hx)⟩,by
  simp only [List.length_take];omega,?_⟩
 refine ⟨rfl,rfl,rfl,rfl,rfl,?_⟩
 rw [hw1,Int.toNat_natCast];simp [AA,List.map_take]
def Ca:Con:={ ι:=(List V2),pre:=λ i=>i.all AB=true/\0<i.length/\i.length<=64,args:=λ i=>[.one (DC.sl 44 [.int,.int] (AA i))],res:=λ i=>⟨false,[none],[.own 44 [.int,.int] (AA (chT i i.length))]⟩ }
theorem SW:Ca.Ok Tryz.prog 111:=by
 refine fok (X:=⟨tt,[(113,EQ)],[37],44,[]⟩) mixed AM (CTok.cons Uj (CTok.nil _)) Tryz.func111 (λ (i:(List V2))=>[(3,.mk 3 (Nat) (λ x1=>{ tm:=[(7,tX 1),(8,tI (nI ((AA i).length))),(9,tI (nI x1)),(3,tX 2)],en:=[(1,.view 44 [.int,.int] (AA i) []),(2,.own 44 [.int,.int] (AA (chT i x1)))] }) (λ x1=>x1<=i.length) (λ x1=>i.length-x1) (λ x1=>[(5,.mk 4 ((List V2)) (λ x2=>{ tm:=[(7,tX 1),(8,tI (nI ((AA i).length))),(9,tI (nI x1)),(5,tP 2 0),(3,tX 3)],en:=[(2,.box [kI (((((AA i).getD x1 []).getD 0 (.int 0))).n),kI (((((AA i).getD x1 []).getD 1 (.int 0))).n)]),(1,.view 44 [.int,.int] (AA i) []),(3,.own 44 [.int,.int] (AA x2))] }) (λ x2=>BQ x2 (i.getD x1 (0,0))=BQ (chT i x1) (i.getD x1 (0,0))/\x2.length<=x1/\x2.all AB=true) (λ x2=>x2.length) (λ _=>[]))]))]) ?_
 intro (l:List V2) hpre
 have hpre:l.all AB=true/\0<l.length/\l.length<=64:=hpre
 refine AL (q:=let Z6:=vI (nI ((AA l).length));(∃ x1:Nat,(x1<=l.length)/\((rf Z6)/\(vI (0:Int)=vI (nI x1))/\(rf (AA l))/\(([]:List (List Dat))=(AA (chT l x1)))))/\∀ x1:Nat,let Z14:=wR ((nI x1)+(1:Int));let Z11:=chT l x1;let Z10:=l.getD x1 (0,0);let Z2:=(AA l).getD x1 [];let Z9:=(Z2.getD 1 (.int 0));let Z8:=(Z2.getD 0 (.int 0));(x1<=l.length)->(ifB ((decide ((nI x1)<(nI ((AA l).length))))) ((0<=(nI x1)/\(nI x1)<((AA l).length:Int))/\((x1<(AA l).length)/\((∃ x2:(List V2),(BQ x2 Z10=BQ Z11 Z10/\x2.length<=x1/\x2.all AB=true)/\((rf Z6)/\(rf (vI (nI x1)))/\(rf (vI Z8.n))/\(rf (vI Z9.n))/\(rf (AA l))/\((AA Z11)=(AA x2))))/\∀ x2:(List V2),let Z7:=AA x2;let Z13:=nI (Z7.length);let Z12:=(Z7.length:Int);let Z5:=Z7++([[Dat.int (Z8.n),Dat.int (Z9.n)]]:List (List Dat));let Z4:=Z7.length+([[Dat.int (Z8.n),Dat.int (Z9.n)]]:List (List Dat)).length<=2199023255552;let Z3:=wR (Z13-(2:Int));let Z1:=wR (Z13-(1:Int));(BQ x2 Z10=BQ Z11 Z10/\x2.length<=x1/\x2.all AB=true)->(ifB ((decide (Z13>(1:Int)))) ((0<=Z3/\Z3<Z12)/\((Z3.toNat<Z7.length)/\((0<=Z1/\Z1<Z12)/\((Z1.toNat<Z7.length)/\(∃ i1:Int×Int×Int×Int×Int×Int,[DA.agg [cI ((((Z7.getD (Z3.toNat) []).getD 0 (.int 0))).n),cI ((((Z7.getD (Z3.toNat) []).getD 1 (.int 0))).n)],DA.agg [cI ((((Z7.getD (Z1.toNat) []).getD 0 (.int 0))).n),cI ((((Z7.getD (Z1.toNat) []).getD 1 (.int 0))).n)],DA.agg [cI (Z8.n),cI (Z9.n)]]=EQ.args i1/\EQ.pre i1/\(ifB ((decide ((AC (i1.1,i1.2.1) (i1.2.2.1,i1.2.2.2.1) (i1.2.2.2.2.1,i1.2.2.2.2.2))<=(0:Int)))) ((Nat.beq 2 2=true)/\(((0:Int)=0)/\((0<=Z1)/\((Z1<=Z12)/\(∃ y3:(List V2),(BQ y3 Z10=BQ Z11 Z10/\y3.length<=x1/\y3.all AB=true)/\(y3.length<x2.length)/\((rf Z6)/\(rf (vI (nI x1)))/\(rf (vI Z8.n))/\(rf (vI Z9.n))/\(rf (AA l))/\((Z7.take (Z1.toNat))=(AA y3)))))))) (Z4/\(∃ y4:Nat,(y4<=l.length)/\(l.length-y4<l.length-x1)/\((rf Z6)/\(vI Z14=vI (nI y4))/\(rf (AA l))/\(Z5=(AA (chT l y4)))))))))))) (Z4/\(∃ y5:Nat,(y5<=l.length)/\(l.length-y5<l.length-x1)/\((rf Z6)/\(vI Z14=vI (nI y5))/\(rf (AA l))/\(Z5=(AA (chT l y5)))))))))) (((AA Z11)=AA (chT l l.length))))) (by kernel_rfl) ?_
 conv=>zeta
 delta ifB vI wR nI
 have hvl:=AD l
 refine ⟨⟨0,by
  omega,?_⟩,?_⟩
 ·refine ⟨rfl,?_,rfl,?_⟩
  ·rfl
  rfl
 intro (k:Nat) hki1
 have hki1:k<=l.length:=hki1
 refine And.symm ⟨λ c7=>?_,λ c7=>?_⟩
 ·try simp only [nrm] at c7
  rw [show l.length=k by omega]
 try simp only [nrm] at c7
 have hkl:k<l.length:=by omega
 have hV:=Ai hpre.1 hkl
 have hcb:=Hi hpre.1 k (by omega)
 refine ao (by omega) λ o8=>?_
 refine ao (by omega) λ o9=>?_
 refine ⟨⟨chT l k,by
  exact ⟨rfl,hcb.1,hcb.2⟩,?_⟩,?_⟩
 ·exact ⟨rfl,rfl,rfl,rfl,rfl,rfl⟩
 intro (o:List V2) hki10
 have hki10:BQ o (l.getD k (0,0))=BQ (chT l k) (l.getD k (0,0))/\o.length<=k/\o.all AB=true:=hki10
 have hvo:=AD o
 refine And.symm ⟨λ c18=>?_,λ c18=>?_⟩
 ·try simp only [nrm] at c18
  have hn:BQ o (l.getD k (0,0))=o:=Bv (λ h=>by omega)
  refine ao (by simp only [AD,List.length_cons,List.length_nil];omega) λ o48=>?_
  refine ⟨k+1,by
   trivial,by
   omega,?_⟩
  refine ⟨rfl,?_,rfl,?_⟩
  ·exact Ac (AE (by omega) (by omega))
  rw [Ao hkl,Ap hkl,← Gi hki10.1 hn];simp [AA,GG]
 try simp only [nrm] at c18
 have ho:1<o.length:=by omega
 have hw2:IntKind.i64.wrap ((((AA o).length:Nat):Int)-(2:Int))=((o.length-2:Nat):Int):=by rw [hvo,AE (by omega) (by omega)];omega
 have hw1:IntKind.i64.wrap ((((AA o).length:Nat):Int)-(1:Int))=((o.length-1:Nat):Int):=by rw [hvo,AE (by omega) (by omega)];omega
 refine ao (by omega) λ o19=>?_
 refine ao (by omega) λ o20=>?_
 refine ao (by omega) λ o21=>?_
 refine ao (by omega) λ o22=>?_
 refine ⟨((o.getD (o.length-2) (0,0)).1,(o.getD (o.length-2) (0,0)).2,(o.getD (o.length-1) (0,0)).1,(o.getD (o.length-1) (0,0)).2,(l.getD k (0,0)).1,(l.getD k (0,0)).2),by
  rw [hw2,hw1,Int.toNat_natCast,Int.toNat_natCast,Ao (show o.length-2<o.length by omega),Ap (show o.length-2<o.length by omega),Ao (show o.length-1<o.length by omega),Ap (show o.length-1<o.length by omega),Ao hkl,Ap hkl];rfl,by
  try dsimp only [EQ]
  exact ⟨Ai hki10.2.2 (show o.length-2<o.length by omega),Ai hki10.2.2 (show o.length-1<o.length by omega),hV⟩,?_⟩
 refine And.symm ⟨λ c26=>?_,λ c26=>?_⟩
 ·try dsimp only at c26
  try simp only [nrm] at c26
  have hn:BQ o (l.getD k (0,0))=o:=Bv (λ h=>Int.not_le.2 c26 h.2)
  refine ao (by simp only [AD,List.length_cons,List.length_nil];omega) λ o40=>?_
  refine ⟨k+1,by
   trivial,by
   omega,?_⟩
  refine ⟨rfl,?_,rfl,?_⟩
  ·exact Ac (AE (by omega) (by omega))
  rw [Ao hkl,Ap hkl,← Gi hki10.1 hn];simp [AA,GG]
 try dsimp only at c26
 try simp only [nrm] at c26
 refine ao (by rfl) λ o27=>?_
 refine ao (by rfl) λ o28=>?_
 refine ao (by omega) λ o29=>?_
 refine ao (by omega) λ o30=>?_
 refine ⟨o.take (o.length-1),by
  exact ⟨(Gh ho c26).trans hki10.1,by simp only [List.length_take];omega,by rw [List.all_eq_true];exact λ x hx=>List.all_eq_true.1 hki10.2.2 x (List.mem_of_mem_take hx)⟩,by
  simp only [List.length_take];omega,?_⟩
 refine ⟨rfl,rfl,rfl,rfl,rfl,?_⟩
 rw [hw1,Int.toNat_natCast];simp [AA,List.map_take]
def Er:Con:={ ι:=(List (List Dat)),pre:=λ i=>i.length<=1073741824,args:=λ i=>[.one (DC.sl 44 [.int,.int] i)],res:=λ i=>⟨false,[none],[.own 44 [.int,.int] i]⟩ }
theorem SX:Er.Ok Tryz.prog 130:=by
 refine fok (X:=⟨tt,[],[],8,[]⟩) mixed AM (CTok.nil _) Tryz.func130 (λ _=>[]) ?_
 intro (ls:List (List Dat)) hpre
 have hpre:ls.length<=1073741824:=hpre
 refine AL (q:=∀ b1:Bool,(b1=true->ls=[])->(ifB (b1) ((([]:List (List Dat))=ls)) ((([]:List (List Dat)).length+ls.length<=2199023255552)/\(((([]:List (List Dat))++ls)=ls))))) (by kernel_rfl) ?_
 delta ifB
 intro b1 q1
 refine ⟨λ c2=>?_,λ c2=>?_⟩
 ·try simp only [nrm] at c2
  rw [q1 c2]
 try simp only [nrm] at c2
 refine ao (by simp;omega) λ o4=>?_
 rfl
def F3:Con:={ ι:=(List V2),pre:=λ i=>i.length<=1048576,args:=λ i=>[.one (DC.sl 44 [.int,.int] (AA i))],res:=λ i=>⟨false,[none],[.own 44 [.int,.int] (AA (At i))]⟩ }
set_option maxHeartbeats 1600000 in
theorem Uk:F3.Ok Tryz.prog 70:=by
 refine fok (X:=⟨tt,[(109,Ek),(110,Dm),(111,Ca)],[],104,[]⟩) mixed AM (CTok.cons SO (CTok.cons P6 (CTok.cons SW (CTok.nil _)))) Tryz.func70 (λ (i:(List V2))=>let Z1:=AW i i.length;[(21,.mk 3 (Nat) (λ x10=>{ tm:=[(9,tI ((nI (Z1.length))-1-(nI x10))),(3,tX 1),(8,tX 2)],en:=[(1,.own 44 [.int,.int] (AA Z1)),(2,.own 44 [.int,.int] (AA (Z1.reverse.take x10)))] }) (λ x10=>x10<=Z1.length) (λ x10=>Z1.length-x10) (λ _=>[])),(5,.mk 3 (Nat) (λ x1=>{ tm:=[(17,tX 1),(18,tI (nI ((AA i).length))),(19,tI (nI x1)),(3,tX 2)],en:=[(1,.view 44 [.int,.int] (AA i) []),(2,.own 44 [.int,.int] (AA (AW i x1)))] }) (λ x1=>x1<=i.length/\(i.take x1).all AB=true) (λ x1=>i.length-x1) (λ x1=>let Z2:=AW i x1;[(10,.mk 4 (Nat) (λ x2=>{ tm:=[(17,tX 1),(18,tI (nI ((AA i).length))),(19,tI (nI x1)),(5,tP 2 0),(6,tI (nI x2)),(3,tX 3)],en:=[(2,.box [kI (((((AA i).getD x1 []).getD 0 (.int 0))).n),kI (((((AA i).getD x1 []).getD 1 (.int 0))).n)]),(1,.view 44 [.int,.int] (AA i) []),(3,.own 44 [.int,.int] (AA Z2))] }) (λ x2=>x2<=Z2.length/\∀ j,j<x2->AO (Z2.getD j (0,0)) (i.getD x1 (0,0))=true) (λ x2=>Z2.length-x2) (λ _=>[]))]))]) ?_
 intro (l:List V2) hpre
 have hpre:l.length<=1048576:=hpre
 refine AL (q:=let Z28:=nI ((AA l).length);let Z18:=List Dat;let Z30:=(([]:List Z18)=AA (At l));let Z12:=Nat.beq 2 2=true;let Z10:=vI Z28;let Z4:=AW l l.length;let Z36:=nI (Z4.length);let Z32:=AA Z4;ifB ((decide (Z28>(64:Int)))) Z30 ((∃ x1:Nat,(x1<=l.length/\(l.take x1).all AB=true)/\((rf Z10)/\(vI (0:Int)=vI (nI x1))/\(rf (AA l))/\(([]:List Z18)=(AA (AW l x1)))))/\∀ x1:Nat,let Z33:=l.getD x1 (0,0);let Z24:=AW l x1;let Z14:=wR ((nI x1)+(1:Int));let Z6:=(AA l).getD x1 [];let Z16:=(Z6.getD 1 (.int 0));let Z15:=(Z6.getD 0 (.int 0));let Z2:=AA Z24;let Z34:=nI (Z2.length);let Z5:=(Z2.length:Int);(x1<=l.length/\(l.take x1).all AB=true)->(ifB ((decide ((nI x1)<Z28))) ((0<=(nI x1)/\(nI x1)<((AA l).length:Int))/\((x1<(AA l).length)/\(∃ i1:Int×Int,[DA.agg [cI (Z15.n),cI (Z16.n)]]=Ek.args i1/\Ek.pre i1/\(ifB ((!(AB (i1.1,i1.2)))) Z30 ((∃ x2:Nat,(x2<=Z24.length/\∀ j,j<x2->AO (Z24.getD j (0,0)) Z33=true)/\((rf Z10)/\(rf (vI (nI x1)))/\(vI (0:Int)=vI (nI x2))/\(rf (vI Z15.n))/\(rf (vI Z16.n))/\(rf (AA l))/\(rf Z2)))/\∀ x2:Nat,let Z35:=x2<Z2.length;let Z31:=Z2.getD x2 [];let Z27:=Z2.take x2;let Z25:=(0:Int)<=(nI x2);let Z22:=(decide ((nI x2)<Z34));let Z20:=(nI x2)<=Z5;let Z17:=(Z2.take (Z5.toNat)).drop x2;let Z13:=([((Z31.getD 0 (.int 0))).n,((Z31.getD 1 (.int 0))).n] == [Z15.n,Z16.n]);let Z3:=(([]:List Z18)++Z27).length+([[Dat.int (Z15.n),Dat.int (Z16.n)]]:List Z18).length<=2199023255552;let Z1:=(([]:List Z18)++Z27)++([[Dat.int (Z15.n),Dat.int (Z16.n)]]:List Z18);let Z9:=Z1.length+Z17.length<=2199023255552;(x2<=Z24.length/\∀ j,j<x2->AO (Z24.getD j (0,0)) Z33=true)->(ifB Z22 ((0<=(nI x2)/\(nI x2)<Z5)/\(Z35/\(∃ i2:Int×Int×Int×Int,[DA.agg [cI (((Z31.getD 0 (.int 0))).n),cI (((Z31.getD 1 (.int 0))).n)],DA.agg [cI (Z15.n),cI (Z16.n)]]=Dm.args i2/\Dm.pre i2/\(ifB ((AO (i2.1,i2.2.1) (i2.2.2.1,i2.2.2.2))) (∃ y3:Nat,(y3<=Z24.length/\∀ j,j<y3->AO (Z24.getD j (0,0)) Z33=true)/\(Z24.length-y3<Z24.length-x2)/\((rf Z10)/\(rf (vI (nI x1)))/\(vI (wR ((nI x2)+(1:Int)))=vI (nI y3))/\(rf (vI Z15.n))/\(rf (vI Z16.n))/\(rf (AA l))/\(rf Z2))) (ifB Z22 ((0<=(nI x2)/\(nI x2)<Z5)/\(Z35/\(ifB Z13 (∃ y4:Nat,(y4<=l.length/\(l.take y4).all AB=true)/\(l.length-y4<l.length-x1)/\((rf Z10)/\(vI Z14=vI (nI y4))/\(rf (AA l))/\(Z2=(AA (AW l y4))))) (Z12/\((0<=(0:Int))/\(Z25/\(Z20/\((([]:List Z18).length+Z27.length<=2199023255552)/\(Z3/\(Z12/\((0<=(nI x2))/\(Z20/\((Z5<=Z5)/\(Z9/\(∃ y5:Nat,(y5<=l.length/\(l.take y5).all AB=true)/\(l.length-y5<l.length-x1)/\((rf Z10)/\(vI Z14=vI (nI y5))/\(rf (AA l))/\((Z1++Z17)=(AA (AW l y5))))))))))))))))))) (Z12/\((0<=(0:Int))/\(Z25/\(Z20/\((([]:List Z18).length+Z27.length<=2199023255552)/\(Z3/\(Z12/\((0<=(nI x2))/\(Z20/\((Z5<=Z5)/\(Z9/\(∃ y6:Nat,(y6<=l.length/\(l.take y6).all AB=true)/\(l.length-y6<l.length-x1)/\((rf Z10)/\(vI Z14=vI (nI y6))/\(rf (AA l))/\((Z1++Z17)=(AA (AW l y6))))))))))))))))))))) (ifB Z22 ((0<=(nI x2)/\(nI x2)<Z5)/\(Z35/\(ifB Z13 (∃ y7:Nat,(y7<=l.length/\(l.take y7).all AB=true)/\(l.length-y7<l.length-x1)/\((rf Z10)/\(vI Z14=vI (nI y7))/\(rf (AA l))/\(Z2=(AA (AW l y7))))) (Z12/\((0<=(0:Int))/\(Z25/\(Z20/\((([]:List Z18).length+Z27.length<=2199023255552)/\(Z3/\(Z12/\((0<=(nI x2))/\(Z20/\((Z5<=Z5)/\(Z9/\(∃ y8:Nat,(y8<=l.length/\(l.take y8).all AB=true)/\(l.length-y8<l.length-x1)/\((rf Z10)/\(vI Z14=vI (nI y8))/\(rf (AA l))/\((Z1++Z17)=(AA (AW l y8))))))))))))))))))) (Z12/\((0<=(0:Int))/\(Z25/\(Z20/\((([]:List Z18).length+Z27.length<=2199023255552)/\(Z3/\(Z12/\((0<=(nI x2))/\(Z20/\((Z5<=Z5)/\(Z9/\(∃ y9:Nat,(y9<=l.length/\(l.take y9).all AB=true)/\(l.length-y9<l.length-x1)/\((rf Z10)/\(vI Z14=vI (nI y9))/\(rf (AA l))/\((Z1++Z17)=(AA (AW l y9))))))))))))))))))))))) (ifB ((decide (Z34<(3:Int)))) ((Z2=AA (At l))) ((∃ x10:Nat,(x10<=Z4.length)/\((vI (wR (Z34-(1:Int)))=vI (Z36-1-(nI x10)))/\(Z2=Z32)/\(([]:List Z18)=(AA (Z4.reverse.take x10)))))/\∀ x10:Nat,let Z26:=AA (Z4.reverse.take x10);let Z7:=Z36-1-(nI x10);let Z21:=Z32.getD (Z7.toNat) [];let Z38:=((Z21.getD 1 (.int 0))).n;let Z37:=((Z21.getD 0 (.int 0))).n;(x10<=Z4.length)->(ifB ((decide (Z7≥(0:Int)))) ((0<=Z7/\Z7<(Z32.length:Int))/\((Z7.toNat<Z32.length)/\((Z26.length+([[Dat.int Z37,Dat.int Z38]]:List Z18).length<=2199023255552)/\(∃ y11:Nat,(y11<=Z4.length)/\(Z4.length-y11<Z4.length-x10)/\((vI (wR (Z7-(1:Int)))=vI (Z36-1-(nI y11)))/\(rf Z32)/\((Z26++([[Dat.int Z37,Dat.int Z38]]:List Z18))=(AA (Z4.reverse.take y11)))))))) (∃ i3:(List V2),let Z19:=AA (chT i3 i3.length);let Z8:=wR ((nI (Z19.length))-(1:Int));let Z29:=Z19.take (Z8.toNat);[DA.one (DC.sl 44 [.int,.int] Z32)]=Ca.args i3/\Ca.pre i3/\(∃ i4:(List V2),let Z23:=AA (chT i4 i4.length);let Z11:=wR ((nI (Z23.length))-(1:Int));[DA.one (DC.sl 44 [.int,.int] Z26)]=Ca.args i4/\Ca.pre i4/\(Z12/\((0<=(0:Int))/\(((0:Int)<=Z8)/\((Z8<=(Z19.length:Int))/\((([]:List Z18).length+Z29.length<=2199023255552)/\(Z12/\((0<=(0:Int))/\(((0:Int)<=Z11)/\((Z11<=(Z23.length:Int))/\(((([]:List Z18)++Z29).length+(Z23.take (Z11.toNat)).length<=2199023255552)/\((((([]:List Z18)++Z29)++(Z23.take (Z11.toNat)))=AA (At l))))))))))))))))))))) (by kernel_rfl) ?_
 conv=>zeta
 delta ifB vI wR nI
 have hvl:=AD l
 refine ⟨λ c1=>?_,λ c1=>?_⟩
 ·try simp only [nrm] at c1
  have hE:At l=[]:=JX (by omega)
  rw [hE];rfl
 try simp only [nrm] at c1
 refine ⟨⟨0,by
  exact ⟨Nat.zero_le _,rfl⟩,?_⟩,?_⟩
 ·refine ⟨rfl,?_,rfl,?_⟩
  ·rfl
  rfl
 intro (k:Nat) hki3
 have hki3:k<=l.length/\(l.take k).all AB=true:=hki3
 refine And.symm ⟨λ c9=>?_,λ c9=>?_⟩
 ·try simp only [nrm] at c9
  have hk:l.length=k:=by omega
  have hall:l.all AB=true:=by have:=hki3.2;rwa [← hk,List.take_length] at this
  have hE:=FY (by omega) hall
  have hsl:=Gg l l.length
  have hvs:=AD (AW l k)
  have hvs2:=AD (AW l l.length)
  refine ⟨λ c137=>?_,λ c137=>?_⟩
  ·try simp only [nrm] at c137
   rw [hE,hk,M6 (by omega)]
  try simp only [nrm] at c137
  have h3:¬ (AW l l.length).length<3:=by rw [hk];omega
  have hE2:=FZ h3
  have hsv:=M5 hall (Nat.le_refl _)
  refine ⟨⟨0,by
   omega,?_⟩,?_⟩
  ·refine ⟨?_,?_,?_⟩
   ·exact Ac (by rw [hvs,← hk,AE (by omega) (by omega)];omega)
   ·rw [hk]
   rfl
  intro (j:Nat) hki139
  have hki139:j<=(AW l l.length).length:=hki139
  refine ⟨λ c144=>?_,λ c144=>?_⟩
  ·try simp only [nrm] at c144
   have hj:j<(AW l l.length).length:=by omega
   have hi:(((((AW l l.length).length:Nat):Int)-1-((j:Nat):Int))).toNat=(AW l l.length).length-1-j:=by omega
   refine ao (by omega) λ o145=>?_
   refine ao (by omega) λ o146=>?_
   refine ao (by simp only [AD,List.length_append,List.length_take,List.length_drop,List.length_cons,List.length_nil,List.nil_append];omega) λ o147=>?_
   refine ⟨j+1,by
    trivial,by
    omega,?_⟩
   refine ⟨?_,rfl,?_⟩
   ·exact Ac (by rw [AE (by omega) (by omega)];omega)
   rw [hi,Ao (show (AW l l.length).length-1-j<(AW l l.length).length by omega),Ap (show (AW l l.length).length-1-j<(AW l l.length).length by omega)];exact Sx hj
  try simp only [nrm] at c144
  have hj:(AW l l.length).reverse.take j=(AW l l.length).reverse:=List.take_of_length_le (by rw [List.length_reverse];omega)
  have hrl:(AW l l.length).reverse.length=(AW l l.length).length:=List.length_reverse
  refine ⟨(AW l l.length),by
   rfl,by
   exact ⟨hsv,by omega,by omega⟩,?_⟩
  refine ⟨(AW l l.length).reverse,by
   rw [hj];rfl,by
   exact ⟨I6 hsv,by omega,by omega⟩,?_⟩
  have hA:=QQ hsv (by omega)
  have hB:=QQ (I6 hsv) (by omega)
  have hvA:=AD (chT (AW l l.length) (AW l l.length).length)
  have hvB:=AD (chT (AW l l.length).reverse (AW l l.length).reverse.length)
  have hwA:IntKind.i64.wrap ((((AA (chT (AW l l.length) (AW l l.length).length)).length:Nat):Int)-(1:Int))=(((chT (AW l l.length) (AW l l.length).length).length-1:Nat):Int):=by rw [hvA,AE (by omega) (by omega)];omega
  have hwB:IntKind.i64.wrap ((((AA (chT (AW l l.length).reverse (AW l l.length).reverse.length)).length:Nat):Int)-(1:Int))=(((chT (AW l l.length).reverse (AW l l.length).reverse.length).length-1:Nat):Int):=by rw [hvB,AE (by omega) (by omega)];omega
  refine ao (by rfl) λ o160=>?_
  refine ao (by omega) λ o161=>?_
  refine ao (by omega) λ o162=>?_
  refine ao (by omega) λ o163=>?_
  refine ao (by simp only [AD,List.length_append,List.length_take,List.length_drop,List.length_cons,List.length_nil,List.nil_append];omega) λ o164=>?_
  refine ao (by rfl) λ o165=>?_
  refine ao (by omega) λ o166=>?_
  refine ao (by omega) λ o167=>?_
  refine ao (by omega) λ o168=>?_
  refine ao (by simp only [AD,List.length_append,List.length_take,List.length_drop,List.length_cons,List.length_nil,List.nil_append];omega) λ o169=>?_
  rw [hE,hE2,hwA,hwB,Int.toNat_natCast,Int.toNat_natCast,List.nil_append,M7,M7,Fa]
 try simp only [nrm] at c9
 have hkl:k<l.length:=by omega
 have hsl:=Gg l k
 have hvs:=AD (AW l k)
 refine ao (by omega) λ o10=>?_
 refine ao (by omega) λ o11=>?_
 refine ⟨((l.getD k (0,0)).1,(l.getD k (0,0)).2),by
  rw [Ao hkl,Ap hkl];rfl,by
  trivial,?_⟩
 refine ⟨λ c15=>?_,λ c15=>?_⟩
 ·try simp only [nrm] at c15
  have hE:At l=[]:=Sv hkl c15
  rw [hE];rfl
 try simp only [nrm] at c15
 refine ⟨⟨0,by
  exact ⟨Nat.zero_le _,λ j hj=>absurd hj (Nat.not_lt_zero j)⟩,?_⟩,?_⟩
 ·refine ⟨rfl,rfl,?_,rfl,rfl,rfl,rfl⟩
  rfl
 intro (n:Nat) hki17
 have hki17:n<=(AW l k).length/\∀ j,j<n->AO ((AW l k).getD j (0,0)) (l.getD k (0,0))=true:=hki17
 refine And.symm ⟨λ c26=>?_,λ c26=>?_⟩
 ·try simp only [nrm] at c26
  refine ⟨λ c90=>?_,λ c90=>?_⟩
  ·try simp only [nrm] at c90
   exfalso;omega -- done
  try simp only [nrm] at c90
  refine ao (by rfl) λ o119=>?_
  refine ao (by omega) λ o120=>?_
  refine ao (by omega) λ o121=>?_
  refine ao (by omega) λ o122=>?_
  refine ao (by simp only [AD,List.length_append,List.length_take,List.length_drop,List.length_cons,List.length_nil,List.nil_append];omega) λ o123=>?_
  refine ao (by simp only [AD,List.length_append,List.length_take,List.length_drop,List.length_cons,List.length_nil,List.nil_append];omega) λ o124=>?_
  refine ao (by rfl) λ o125=>?_
  refine ao (by omega) λ o126=>?_
  refine ao (by omega) λ o127=>?_
  refine ao (by omega) λ o128=>?_
  refine ao (by simp only [AD,List.length_append,List.length_take,List.length_drop,List.length_cons,List.length_nil,List.nil_append];omega) λ o129=>?_
  refine ⟨k+1,by
   exact ⟨by omega,MF hkl hki3.2 c15⟩,by
   omega,?_⟩
  refine ⟨rfl,?_,rfl,?_⟩
  ·exact Ac (AE (by omega) (by omega))
  rw [Ao hkl,Ap hkl,M8,QP (by omega) hki17.2 (λ h=>absurd h (by omega)) (λ h=>absurd h (by omega))]
 try simp only [nrm] at c26
 have hn:n<(AW l k).length:=by omega
 refine ao (by omega) λ o27=>?_
 refine ao (by omega) λ o28=>?_
 refine ⟨(((AW l k).getD n (0,0)).1,((AW l k).getD n (0,0)).2,(l.getD k (0,0)).1,(l.getD k (0,0)).2),by
  rw [Ao hn,Ap hn,Ao hkl,Ap hkl];rfl,by
  trivial,?_⟩
 refine ⟨λ c32=>?_,λ c32=>?_⟩
 ·try simp only [nrm] at c32
  refine ⟨n+1,by
   exact ⟨by omega,Su hki17.2 c32⟩,by
   omega,?_⟩
  refine ⟨rfl,rfl,?_,rfl,rfl,rfl,rfl⟩
  exact Ac (AE (by omega) (by omega))
 try simp only [nrm] at c32
 refine And.symm ⟨λ c43=>?_,λ c43=>?_⟩
 ·try simp only [nrm] at c43
  exfalso;omega -- done
 try simp only [nrm] at c43
 refine ao (by omega) λ o44=>?_
 refine ao (by omega) λ o45=>?_
 refine ⟨λ c46=>?_,λ c46=>?_⟩
 ·try dsimp only at c46
  try simp only [nrm] at c46
  rw [Ao hn,Ap hn,Ao hkl,Ap hkl] at c46
  have hq:=U6 c46
  refine ⟨k+1,by
   exact ⟨by omega,MF hkl hki3.2 c15⟩,by
   omega,?_⟩
  refine ⟨rfl,?_,rfl,?_⟩
  ·exact Ac (AE (by omega) (by omega))
  rw [Sw hn hki17.2 c32 hq]
 try dsimp only at c46
 try simp only [nrm] at c46
 rw [Ao hn,Ap hn,Ao hkl,Ap hkl] at c46
 refine ao (by rfl) λ o54=>?_
 refine ao (by omega) λ o55=>?_
 refine ao (by omega) λ o56=>?_
 refine ao (by omega) λ o57=>?_
 refine ao (by simp only [AD,List.length_append,List.length_take,List.length_drop,List.length_cons,List.length_nil,List.nil_append];omega) λ o58=>?_
 refine ao (by simp only [AD,List.length_append,List.length_take,List.length_drop,List.length_cons,List.length_nil,List.nil_append];omega) λ o59=>?_
 refine ao (by rfl) λ o60=>?_
 refine ao (by omega) λ o61=>?_
 refine ao (by omega) λ o62=>?_
 refine ao (by omega) λ o63=>?_
 refine ao (by simp only [AD,List.length_append,List.length_take,List.length_drop,List.length_cons,List.length_nil,List.nil_append];omega) λ o64=>?_
 refine ⟨k+1,by
  exact ⟨by omega,MF hkl hki3.2 c15⟩,by
  omega,?_⟩
 refine ⟨rfl,?_,rfl,?_⟩
 ·exact Ac (AE (by omega) (by omega))
 rw [Ao hkl,Ap hkl,M8,QP (by omega) hki17.2 (λ _=>c32) (λ _ e=>c46 (by rw [e]))]
def B7:Con:={ ι:=(List V2),pre:=λ i=>i.all AB=true/\i.length<=1048576,args:=λ i=>[.one (DC.sl 44 [.int,.int] (AA i)),.one (.ro (.fn 132 []))],mu:=[0],new:=λ i=>[AA (BW i)],tag:=133,res:=λ i=>⟨true,[],[]⟩ }
def DU:Con:={ ι:=(List V2),pre:=λ i=>i.length<=1048576,args:=λ i=>[.one (DC.sl 44 [.int,.int] (AA i))],mu:=[0],new:=λ i=>[AA i.reverse],res:=λ i=>⟨true,[],[]⟩ }
def Ah:Con:={ ι:=(List V2),pre:=λ i=>i.length<=1048576,args:=λ i=>[.one (DC.sl 44 [.int,.int] (AA i))],mu:=[0],gone:=[0],new:=λ i=>[],res:=λ i=>⟨false,[none],[.own 44 [.int,.int] (AA (Aj i))]⟩ }
theorem Xb {us:List Value} (h:us.length=1):∃ u,us=[u]:=
 match us,h with
 | [_],_=>⟨_,rfl⟩
theorem X8 {us:List Value} (h:us.length=2):∃ u v,us=[u,v]:=
 match us,h with
 | [_,_],_=>⟨_,_,rfl⟩
theorem SY:B7.Ok Tryz.prog 131 where
 enter:=⟨_,Tryz.func131,by decide,rfl⟩
 small:=λ _=>Nat.le_of_ble_eq_true rfl
 calls:=by
  intro (l:List V2) (hp:l.all AB=true/\l.length<=1048576) F w us mb h
  obtain ⟨u0,u1,rfl⟩:=X8 h.len
  obtain ⟨_,_,_,_,e1,e2,f1,m1⟩:=h.own 0 0 rfl
  cases e1;cases e2
  obtain ⟨ps,hu1,hpl,-⟩:ROAt F w (.fn 132 []) u1:=h.rd 1 _ _ rfl rfl (by decide)
  obtain rfl:ps=[]:=List.eq_nil_of_length_eq_zero hpl
  subst hu1
  have hv:Ax (B7.args l) [u0,.func (.func 132) #[] #[]]=[u0,.func (.func 132) #[] #[]]:=rfl
  rw [hv]
  rcases Ml f1 with ⟨rfl,rfl,hbs⟩|⟨g,cap,cur,rfl,q1,q2,q3,q4,q5,hbs⟩
  ·have hcon:=AnyF.slices_SortFunc_none XZ none 0 (.func (.func 132) #[] #[]) w
   refine Calls.mono (P:=Tryz.prog) hcon ?_
   rintro e w' ⟨rfl,rfl⟩
   refine ⟨[],[],rfl,⟨rfl,List.nodup_nil,λ b hb=>by simp at hb,λ j q e ts rows u hj hq hd hu=>?_,rfl,rfl,rfl,Nat.le_refl _,λ b _ _=>rfl⟩⟩
   obtain rfl:j=0:=by have:=(List.getElem?_eq_some_iff.1 hq).1;have hl:B7.mu.length=1:=rfl;omega
   cases hq
   cases hd
   cases hu
   have es:BW []=[]:=List.eq_nil_of_length_eq_zero (D8 [])
   show Fp w' _ (.sl (AA (BW []))) _ _
   rw [es]
   exact f1
  ·have hsz:(E3 l hp.1).length=l.length:=by have:=congrArg List.length (F1 l hp.1);simpa using this
   have hH:HoldsK Is 2 w g 0 (E3 l hp.1).toArray:=by
    have:=OU q1 q2 q4 q5
    unfold HoldsK at this ⊢
    rw [OV,F1];exact this
   have hg:g<w.heap.size:=(Array.getElem?_eq_some_iff.1 q1).1
   have eg:∀ args w,(callFunc 132 args).run Tryz.prog w=.ok (.enter 132 args) w:=enters_of Tryz.func132 (by kernel_rfl) rfl
   have hlp:=hp.2
   have hcon:=AnyQ.slices_SortFunc_total XZ 2 Tryz.isAgg44 Tryz.sizeOf44 Is (λ _=>rfl) (λ x v hv=>by simp [Is,AT] at hv;rcases hv with rfl|rfl <;> rfl) cfV X6 132 #[] g 0 cap (E3 l hp.1).toArray w eg
    (λ _ _ _ _ x y=>Kz x.1 y.1 x.2 y.2 _) hH hg (by simp only [List.size_toArray,hsz];omega) X7
   have hs2:(E3 l hp.1).toArray.size=l.length:=by rw [List.size_toArray,hsz]
   rw [hs2] at hcon
   refine Calls.mono (P:=Tryz.prog) hcon ?_
   rintro e w' ⟨rfl,n,os,rfl⟩
   obtain ⟨⟨cur',p1,p2⟩,p3,p4⟩:=L1 Is w g n ((E3 l hp.1).toArray.toList.mergeSort λ x y=>!(ltOf cfV) y x).toArray os q1
   have hHK:=holdsK_sortWorldK_c Is 2 w g 0 (E3 l hp.1).toArray ((E3 l hp.1).toArray.toList.mergeSort λ x y=>!(ltOf cfV) y x).toArray n os hH hg (by simp)
   have hHK:HoldsK AT 2 (sortWorldK Is 2 w g 0 n ((E3 l hp.1).toArray.toList.mergeSort λ x y=>!(ltOf cfV) y x).toArray os) g 0 (BW l).toArray:=by
    unfold HoldsK at hHK ⊢
    rw [OV] at hHK
    rw [← Ug l hp.1];exact hHK
   have hrow:=Uf p1 (by rw [D8];exact q2) (by rw [p2];exact q4) hHK
   have hfp:=Ue p1 (by rw [D8];exact q2) q3 (by rw [p2];exact q4) hrow
   rw [D8] at hfp
   refine ⟨[],[],rfl,⟨rfl,List.nodup_nil,λ b hb=>by simp at hb,λ j q e ts rows u hj hq hd hu=>?_,rfl,rfl,rfl,p4,λ b hb hm=>p3 b hb λ e=>hm 0 (by decide) (by rw [hbs];simp [e])⟩⟩
   obtain rfl:j=0:=by have:=(List.getElem?_eq_some_iff.1 hq).1;have hl:B7.mu.length=1:=rfl;omega
   cases hq
   cases hd
   cases hu
   rw [hbs]
   exact hfp
theorem Vp:DU.Ok Tryz.prog 135 where
 enter:=⟨_,Tryz.func135,by decide,rfl⟩
 small:=λ _=>Nat.le_of_ble_eq_true rfl
 calls:=by
  intro (l:List V2) (hp:l.length<=1048576) F w us mb h
  obtain ⟨u0,rfl⟩:=Xb h.len
  obtain ⟨_,_,_,_,e1,e2,f1,m1⟩:=h.own 0 0 rfl
  cases e1;cases e2
  have hv:Ax (DU.args l) [u0]=[u0]:=rfl
  rw [hv]
  rcases Ml f1 with ⟨rfl,rfl,hbs⟩|⟨g,cap,cur,rfl,q1,q2,q3,q4,q5,hbs⟩
  ·refine Calls.mono (P:=Tryz.prog) (AnyQ.slices_Reverse_empty Xa none 0 w) ?_
   rintro e w' ⟨rfl,rfl⟩
   refine ⟨[],[],rfl,⟨rfl,List.nodup_nil,λ b hb=>by simp at hb,λ j q e ts rows u hj hq hd hu=>?_,rfl,rfl,rfl,Nat.le_refl _,λ b _ _=>rfl⟩⟩
   obtain rfl:j=0:=by have:=(List.getElem?_eq_some_iff.1 hq).1;have hl:DU.mu.length=1:=rfl;omega
   cases hq
   cases hd
   cases hu
   exact f1
  ·have hH:=OU q1 q2 q4 q5
   refine Calls.mono (P:=Tryz.prog) (AnyQ.slices_Reverse Xa 2 Tryz.isAgg44 Tryz.sizeOf44 AT (λ _=>rfl) (λ x v hv=>by simp [AT] at hv;rcases hv with rfl|rfl <;> rfl) g 0 cap l.toArray w hH (by simp only [List.size_toArray];omega)) ?_
   rintro e w' ⟨rfl,n,rfl⟩
   have hgr:putRowK AT 2 (Sort.ahead w n) g 0 l.toArray.reverse=grow (putRowK AT 2 (Sort.ahead w n) g 0 l.toArray.reverse) #[]:=by simp [grow]
   have hHK:=holdsK_putRowK AT 2 (Sort.ahead w n) g 0 l.toArray l.toArray.reverse (holdsK_ahead AT 2 w n g 0 l.toArray hH) (by simp)
   rw [hgr] at hHK ⊢
   obtain ⟨⟨cur',p1,p2⟩,p3,p4⟩:=L1 AT w g n l.toArray.reverse #[] q1
   have hHK2:HoldsK AT 2 (grow (putRowK AT 2 (Sort.ahead w n) g 0 l.toArray.reverse) #[]) g 0 l.reverse.toArray:=by
    have e:l.reverse.toArray=l.toArray.reverse:=by simp
    rw [e];exact hHK
   have hrow:=Uf p1 (by rw [List.length_reverse];exact q2) (by rw [p2];exact q4) hHK2
   have hfp:=Ue p1 (by rw [List.length_reverse];exact q2) q3 (by rw [p2];exact q4) hrow
   rw [List.length_reverse] at hfp
   refine ⟨[],[],rfl,⟨rfl,List.nodup_nil,λ b hb=>by simp at hb,λ j q e ts rows u hj hq hd hu=>?_,rfl,rfl,rfl,p4,λ b hb hm=>p3 b hb λ e=>hm 0 (by decide) (by rw [hbs];simp [e])⟩⟩
   obtain rfl:j=0:=by have:=(List.getElem?_eq_some_iff.1 hq).1;have hl:DU.mu.length=1:=rfl;omega
   cases hq
   cases hd
   cases hu
   rw [hbs]
   exact hfp
theorem Vq {w:World} {e:Nat} {l:List V2} {g cap:Nat} {cur:Array Value} (h1:w.heap[g]?=some (.cells cur e (0,0))) (h2:l.length<=cap) (h4:cur.size=cap*2) (h5:cur.toList.take (l.length*2)=(l.map AT).flatten):RowA w g 0 l.toArray:=λ j hj=>by
 have hj:j<l.length:=by simpa using hj
 have key:∀ t,t<l.length*2->cur[t]?=some ((AT (l.getD (t/2) (0,0)))[t%2]!):=λ t ht=>by
  have:=FT l t ht
  rw [← h5,List.getElem?_take,if_pos ht,Array.getElem?_toList] at this
  exact this
 have a0:=key (j*2) (by omega)
 have a1:=key (j*2+1) (by omega)
 rw [show j*2/2=j by omega,show j*2%2=0 by omega] at a0
 rw [show (j*2+1)/2=j by omega,show (j*2+1)%2=1 by omega] at a1
 have hd:(l.toArray)[j]! = l.getD j (0,0):=by simp [List.getD,hj]
 rw [hd]
 refine ⟨?_,?_,by simp [World.frozen?,h1],by simp [World.frozen?,h1]⟩
 ·rw [EP h1,Nat.zero_add,a0];rfl
 ·rw [EP h1,Nat.zero_add,a1];rfl
theorem Vr {l:List V2} {cur:Array Value} (hc:∀ j,j<l.length->cur[j*2]?=some (.int .i64 (l.getD j (0,0)).1)/\cur[j*2+1]?=some (.int .i64 (l.getD j (0,0)).2)):cur.toList.take (l.length*2)=(l.map AT).flatten:=by
 apply List.ext_getElem?
 intro j
 by_cases hj:j<l.length*2
 ·rw [FT l j hj,List.getElem?_take,if_pos hj,Array.getElem?_toList]
  obtain ⟨c0,c1⟩:=hc (j/2) (by omega)
  have:j%2=0∨j%2=1:=by omega
  rcases this with e|e
  ·rw [e,show j=j/2*2 by omega,c0,show j/2*2/2=j/2 by omega];rfl
  ·rw [e];conv=>lhs;rw [show j=j/2*2+1 by omega,c1]
   rfl
 ·rw [List.getElem?_eq_none (by simp only [List.length_take];omega),List.getElem?_eq_none (by rw [KW];omega)]
theorem OY:∀ l:List V2,(Aj l).length<=l.length
 | []=>by simp [Aj]
 | [a]=>by simp [Aj]
 | a::b::t=>by
  have:=OY (b::t)
  unfold Aj
  split
  ·simp only [List.length_cons] at *;omega
  ·simp only [List.length_cons] at *;omega
theorem OZ:Ah.Ok Tryz.prog 133 where
 enter:=⟨_,Tryz.func133,by decide,rfl⟩
 small:=λ _=>Nat.le_of_ble_eq_true rfl
 calls:=by
  intro (l:List V2) (hp:l.length<=1048576) F w us mb h
  obtain ⟨u0,rfl⟩:=Xb h.len
  obtain ⟨_,_,_,_,e1,e2,f1,m1⟩:=h.own 0 0 rfl
  cases e1;cases e2
  have hv:Ax (Ah.args l) [u0]=[u0]:=rfl
  rw [hv]
  have hfresh:∀ b ∈ mb 0,w.heap.size<=b∨∃ j,j ∈ Ah.gone/\j<Ah.mu.length/\b ∈ mb j:=λ b hb=>.inr ⟨0,by decide,by decide,hb⟩
  have hgone:∀ (w' : World) j p e ts rows u,j ∉ Ah.gone->Ah.mu[j]?=some p->((Ah.args l).flatMap DA.cells)[p]?=some (.sl e ts rows)->[u0][p]?=some u->Fp w' (.sl e ts) (.sl ((Ah.new l).getD j [])) u (mb j):=λ w' j p e ts rows u hj hq=>by
   exfalso
   have:=(List.getElem?_eq_some_iff.1 hq).1
   have hl:Ah.mu.length=1:=rfl
   obtain rfl:j=0:=by omega
   exact hj (by decide)
  rcases Ml f1 with ⟨rfl,rfl,hbs⟩|⟨g,cap,cur,rfl,q1,q2,q3,q4,q5,hbs⟩
  ·refine Calls.mono (P:=Tryz.prog) (Mm w) ?_
   rintro e w' ⟨rfl,rfl⟩
   exact ⟨[.slice none 0 0],mb 0,rfl,⟨⟨mb 0,[],by simp,f1,rfl⟩,m1,hfresh,hgone _,rfl,rfl,rfl,Nat.le_refl _,λ b _ _=>rfl⟩⟩
  ·have hg:g<w.heap.size:=(Array.getElem?_eq_some_iff.1 q1).1
   have hsz:l.toArray.size=l.length:=by simp
   have hcc:=P5 g 0 cap l.toArray w (Vq q1 q2 q4 q5) hg (by rw [hsz];exact hp) (by rw [hsz];exact q2) (by unfold maxLen at q3;omega)
   have hcu:Lib.compactUpTo l.toArray l.length=Aj l:=by rw [HG l _ (Nat.le_refl _),List.take_length]
   rw [hsz,hcu] at hcc
   refine Calls.mono (P:=Tryz.prog) hcc ?_
   rintro e w' ⟨rfl,ho,hs,d',hd1,hd2,hd3⟩
   obtain ⟨cur',p1,p2⟩:=hs cur _ _ q1
   have hlen:=OY l
   have htk:cur'.toList.take ((Aj l).length*2)=((Aj l).map AT).flatten:=Vr λ j hj=>by
    obtain ⟨c0,c1⟩:=hd3 j hj
    have e:=hd2 j hj
    have e2:(Aj l).getD j (0,0)=d'[j]! := by rw [List.getD,e];rfl
    rw [EP p1,Nat.zero_add] at c0 c1
    rw [e2];exact ⟨c0,c1⟩
   have hfp:=Ue p1 (by omega) q3 (by rw [p2];exact q4) htk
   exact ⟨[.slice (some ⟨g,0,none⟩) (Aj l).length cap],mb 0,rfl,⟨⟨mb 0,[],by simp,by rw [hbs];exact hfp,rfl⟩,m1,hfresh,hgone _,ho.os,ho.tape,ho.output,ho.size,λ b hb hm=>ho.block b hb λ e=>hm 0 (by decide) (by rw [hbs];simp [e])⟩⟩
def F4:Con:={ ι:=(List V2),pre:=λ i=>i.length<=1048576,args:=λ i=>[.one (DC.sl 44 [.int,.int] (AA i))],res:=λ i=>⟨false,[none],[.own 44 [.int,.int] (AA (At i))]⟩ }
theorem Ul:F4.Ok Tryz.prog 99:=by
 refine fok (X:=⟨tt,[(60,A0),(130,Er),(131,B7),(133,Ah),(134,CZ),(135,DU)],[],31,[]⟩) mixed AM (CTok.cons GX (CTok.cons SX (CTok.cons SY (CTok.cons OZ (CTok.cons SV (CTok.cons Vp (CTok.nil _))))))) Tryz.func99 (λ _=>[]) ?_
 intro (l:List V2) hpre
 have hpre:l.length<=1048576:=hpre
 refine AL (q:=let Z3:=DC.sl 44 [.int,.int] (AA l);let Z1:=(([]:List (List Dat))=AA (At l));ifB ((!(decide ((nI ((AA l).length))>(64:Int))))) (∃ i1:(List V2),[DA.one Z3]=A0.args i1/\A0.pre i1/\(ifB ((!(i1.all AB))) Z1 (∃ i2:(List (List Dat)),[DA.one Z3]=Er.args i2/\Er.pre i2/\(∃ i3:(List V2),[DA.one (DC.sl 44 [.int,.int] i2),DA.one (DC.ro (.fn 132 []))]=B7.args i3/\B7.pre i3/\(∃ i4:(List V2),let Z2:=DC.sl 44 [.int,.int] (AA (Aj i4));[DA.one (DC.sl 44 [.int,.int] (AA (BW i3)))]=Ah.args i4/\Ah.pre i4/\(ifB ((decide ((nI ((AA (Aj i4)).length))<(2:Int)))) ((AA (Aj i4)=AA (At l))) (∃ i5:(List V2),[DA.one Z2]=CZ.args i5/\CZ.pre i5/\(∃ i6:(List V2),[DA.one Z2]=DU.args i6/\DU.pre i6/\(∃ i7:(List V2),[DA.one (DC.sl 44 [.int,.int] (AA i6.reverse))]=CZ.args i7/\CZ.pre i7/\(((AA (AQ i5)).length+(AA (AQ i7)).length<=2199023255552)/\(((AA (AQ i5)++AA (AQ i7))=AA (At l))))))))))))) Z1) (by kernel_rfl) ?_
 conv=>zeta
 delta ifB nI
 have hvl:=AD l
 refine And.symm ⟨λ c1=>?_,λ c1=>?_⟩
 ·try simp only [nrm] at c1
  have hE:At l=[]:=JX (by omega)
  rw [hE];rfl
 try simp only [nrm] at c1
 refine ⟨l,by
  rfl,by
  trivial,?_⟩
 refine ⟨λ c5=>?_,λ c5=>?_⟩
 ·try simp only [nrm] at c5
  have hE:=K6 c5
  rw [hE];rfl
 try simp only [nrm] at c5
 have hE:=FY (by omega) c5
 have hU:=RX l
 have hlen:(Aj (BW l)).length<=l.length:=by rw [hU];exact Gg l l.length
 have hvec:(Aj (BW l)).all AB=true:=by rw [hU];exact M5 c5 (Nat.le_refl _)
 have hvu:=AD (Aj (BW l))
 refine ⟨(AA l),by
  rfl,by
  show (AA l).length<=1073741824
  omega,?_⟩
 refine ⟨l,by
  rfl,by
  exact ⟨c5,hpre⟩,?_⟩
 refine ⟨(BW l),by
  rfl,by
  show (BW l).length<=1048576
  rw [D8];exact hpre,?_⟩
 refine ⟨λ c16=>?_,λ c16=>?_⟩
 ·try simp only [nrm] at c16
  rw [hE,hU,M6 (by rw [← hU];omega)]
 try simp only [nrm] at c16
 have hc1:=(K4 hvec).2
 have hc2:=(K4 (I6 hvec)).2
 have hrl:(Aj (BW l)).reverse.length=(Aj (BW l)).length:=List.length_reverse
 have hH:AQ (Aj (BW l))++AQ (Aj (BW l)).reverse=JV (Aj (BW l)):=by
  by_cases h2:(Aj (BW l)).length=2
  ·exact Sr h2
  ·exact (FZ (by omega)).symm
 refine ⟨(Aj (BW l)),by
  rfl,by
  exact ⟨hvec,by omega,by omega⟩,?_⟩
 refine ⟨(Aj (BW l)),by
  rfl,by
  show (Aj (BW l)).length<=1048576
  omega,?_⟩
 refine ⟨(Aj (BW l)).reverse,by
  rfl,by
  exact ⟨I6 hvec,by omega,by omega⟩,?_⟩
 refine ao (by rw [AD,AD];omega) λ o27=>?_
 rw [hE,← hU,← Fa,hH]
end Go.Proofs.YtndnhlhnjiopfaaGreat
