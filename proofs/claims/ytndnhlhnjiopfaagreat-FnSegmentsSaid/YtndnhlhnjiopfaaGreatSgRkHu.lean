import Derived.Test.YtndnhlhnjiopfaaGreatSgRkH
import Derived.Test.YtndnhlhnjiopfaaGreatSgHuv
import Derived.Test.YtndnhlhnjiopfaaGreatSgHulS
namespace Go.Proofs.YtndnhlhnjiopfaaGreat
set_option maxRecDepth 100000
set_option linter.unusedVariables false
set_option linter.unusedSimpArgs false
open Go.RowKit Go.Sort Go.Shelf
def FO:Con:={ ι:=Int×Int×Int×Int×Int×Int,pre:=λ i=>AP (i.1,i.2.1)=true/\AP (i.2.2.1,i.2.2.2.1)=true/\AP (i.2.2.2.2.1,i.2.2.2.2.2)=true,args:=λ i=>[DA.agg [cI i.1,cI i.2.1],DA.agg [cI i.2.2.1,cI i.2.2.2.1],DA.agg [cI i.2.2.2.2.1,cI i.2.2.2.2.2]],res:=λ i=>⟨false,[none],[rcI (AZ (i.1,i.2.1) (i.2.2.1,i.2.2.2.1) (i.2.2.2.2.1,i.2.2.2.2.2))]⟩ }
theorem Uh:FO.Ok Tryz.prog 113:=Gg rfl ⟨_,Tryz.func113,by decide,rfl⟩ (λ _=>Nat.le_of_ble_eq_true rfl) (λ _=>rfl) (λ i=>[.im (.int .i64 (AZ (i.1,i.2.1) (i.2.2.1,i.2.2.2.1) (i.2.2.2.2.1,i.2.2.2.2.2)))]) (λ _=>rfl) (λ _=>rfl) (λ i hp w us h=>by
 obtain ⟨a1,a2,b1,b2,c1,c2⟩:=i
 have h:RdRow w [.int,.int,.int,.int,.int,.int] [.int a1,.int a2,.int b1,.int b2,.int c1,.int c2] us:=h
 obtain ⟨x1,_,rfl,q1,h⟩:=RdRow.cons2 h
 obtain ⟨x2,_,rfl,q2,h⟩:=RdRow.cons2 h
 obtain ⟨x3,_,rfl,q3,h⟩:=RdRow.cons2 h
 obtain ⟨x4,_,rfl,q4,h⟩:=RdRow.cons2 h
 obtain ⟨x5,_,rfl,q5,h⟩:=RdRow.cons2 h
 obtain ⟨x6,_,rfl,q6,h⟩:=RdRow.cons2 h
 obtain ⟨-,rfl⟩:=RdRow.nil_inv h
 obtain rfl:=Rd.int2 q1
 obtain rfl:=Rd.int2 q2
 obtain rfl:=Rd.int2 q3
 obtain rfl:=Rd.int2 q4
 obtain rfl:=Rd.int2 q5
 obtain rfl:=Rd.int2 q6
 refine (UL a1 a2 b1 b2 c1 c2 hp.1 hp.2.1 hp.2.2 w).mono ?_
 rintro e w' ⟨rfl,hb⟩
 exact ⟨[Value.int .i64 (AZ (a1,a2) (b1,b2) (c1,c2))],rfl,Own.leaf (Fp.mk_int _),hb⟩)
def Ec:Con:={ ι:=Int×Int×Int×Int,pre:=λ i=>True,args:=λ i=>[DA.agg [cI i.1,cI i.2.1],DA.agg [cI i.2.2.1,cI i.2.2.2]],res:=λ i=>⟨false,[none],[rcB (CZ (i.1,i.2.1) (i.2.2.1,i.2.2.2))]⟩ }
theorem QN:Ec.Ok Tryz.prog 110:=by
 refine fok (X:=⟨tt,[],[],24,[]⟩) AH AI (CTok.nil _) Tryz.func110 (λ _=>[]) ?_
 rintro ⟨a1,a2,b1,b2⟩ hpre
 have hpre:True:=hpre
 refine AG (q:=let Z1:=CZ (a1,a2) (b1,b2);ifB ((!(decide (a1<b1)))) (ifB ((a1 == b1)) ((vB (decide (a2<b2))=vB Z1)) ((vB false=vB Z1))) ((vB true=vB Z1))) (by kernel_rfl) ?_
 conv=>zeta
 delta ifB vB
 refine And.symm ⟨λ c1=>?_,λ c1=>?_⟩
 ·try simp only [nrm] at c1
  exact congrArg Value.bool (by unfold CZ;simp_all)
 try simp only [nrm] at c1
 refine ⟨λ c2=>?_,λ c2=>?_⟩
 ·try simp only [nrm] at c2
  exact congrArg Value.bool (by unfold CZ;simp_all)
 try simp only [nrm] at c2
 exact congrArg Value.bool (by unfold CZ;simp_all)
def DS:Con:={ ι:=(List V2),pre:=λ i=>i.all AP=true/\0<i.length/\i.length<=64,args:=λ i=>[.one (DC.sl 44 [.int,.int] (AD i))],res:=λ i=>⟨false,[none],[.own 44 [.int,.int] (AD (chT i i.length))]⟩ }
theorem Sb:DS.Ok Tryz.prog 111:=by
 refine fok (X:=⟨tt,[(113,FO)],[37],44,[]⟩) AH AI (CTok.cons Uh (CTok.nil _)) Tryz.func111 (λ (i:(List V2))=>[(3,.mk 3 (Nat) (λ x1=>{ tm:=[(7,tX 1),(8,tI (nI ((AD i).length))),(9,tI (nI x1)),(3,tX 2)],en:=[(1,.view 44 [.int,.int] (AD i) []),(2,.own 44 [.int,.int] (AD (chT i x1)))] }) (λ x1=>x1<=i.length) (λ x1=>i.length-x1) (λ x1=>[(5,.mk 4 ((List V2)) (λ x2=>{ tm:=[(7,tX 1),(8,tI (nI ((AD i).length))),(9,tI (nI x1)),(5,tP 2 0),(3,tX 3)],en:=[(2,.box [kI (((((AD i).getD x1 []).getD 0 (.int 0))).n),kI (((((AD i).getD x1 []).getD 1 (.int 0))).n)]),(1,.view 44 [.int,.int] (AD i) []),(3,.own 44 [.int,.int] (AD x2))] }) (λ x2=>EJ x2 (i.getD x1 (0,0))=EJ (chT i x1) (i.getD x1 (0,0))/\x2.length<=x1/\x2.all AP=true) (λ x2=>x2.length) (λ _=>[]))]))]) ?_
 intro (l:List V2) hpre
 have hpre:l.all AP=true/\0<l.length/\l.length<=64:=hpre
 refine AG (q:=let Z6:=vI (nI ((AD l).length));(∃ x1:Nat,(x1<=l.length)/\((rf Z6)/\(vI (0:Int)=vI (nI x1))/\(rf (AD l))/\(([]:List (List Dat))=(AD (chT l x1)))))/\∀ x1:Nat,let Z14:=wR ((nI x1)+(1:Int));let Z11:=chT l x1;let Z10:=l.getD x1 (0,0);let Z2:=(AD l).getD x1 [];let Z9:=(Z2.getD 1 (.int 0));let Z8:=(Z2.getD 0 (.int 0));(x1<=l.length)->(ifB ((decide ((nI x1)<(nI ((AD l).length))))) ((0<=(nI x1)/\(nI x1)<((AD l).length:Int))/\((x1<(AD l).length)/\((∃ x2:(List V2),(EJ x2 Z10=EJ Z11 Z10/\x2.length<=x1/\x2.all AP=true)/\((rf Z6)/\(rf (vI (nI x1)))/\(rf (vI Z8.n))/\(rf (vI Z9.n))/\(rf (AD l))/\((AD Z11)=(AD x2))))/\∀ x2:(List V2),let Z7:=AD x2;let Z13:=nI (Z7.length);let Z12:=(Z7.length:Int);let Z5:=Z7++([[Dat.int (Z8.n),Dat.int (Z9.n)]]:List (List Dat));let Z4:=Z7.length+([[Dat.int (Z8.n),Dat.int (Z9.n)]]:List (List Dat)).length<=2199023255552;let Z3:=wR (Z13-(2:Int));let Z1:=wR (Z13-(1:Int));(EJ x2 Z10=EJ Z11 Z10/\x2.length<=x1/\x2.all AP=true)->(ifB ((decide (Z13>(1:Int)))) ((0<=Z3/\Z3<Z12)/\((Z3.toNat<Z7.length)/\((0<=Z1/\Z1<Z12)/\((Z1.toNat<Z7.length)/\(∃ i1:Int×Int×Int×Int×Int×Int,[DA.agg [cI ((((Z7.getD (Z3.toNat) []).getD 0 (.int 0))).n),cI ((((Z7.getD (Z3.toNat) []).getD 1 (.int 0))).n)],DA.agg [cI ((((Z7.getD (Z1.toNat) []).getD 0 (.int 0))).n),cI ((((Z7.getD (Z1.toNat) []).getD 1 (.int 0))).n)],DA.agg [cI (Z8.n),cI (Z9.n)]]=FO.args i1/\FO.pre i1/\(ifB ((decide ((AZ (i1.1,i1.2.1) (i1.2.2.1,i1.2.2.2.1) (i1.2.2.2.2.1,i1.2.2.2.2.2))<=(0:Int)))) ((Nat.beq 2 2=true)/\(((0:Int)=0)/\((0<=Z1)/\((Z1<=Z12)/\(∃ y3:(List V2),(EJ y3 Z10=EJ Z11 Z10/\y3.length<=x1/\y3.all AP=true)/\(y3.length<x2.length)/\((rf Z6)/\(rf (vI (nI x1)))/\(rf (vI Z8.n))/\(rf (vI Z9.n))/\(rf (AD l))/\((Z7.take (Z1.toNat))=(AD y3)))))))) (Z4/\(∃ y4:Nat,(y4<=l.length)/\(l.length-y4<l.length-x1)/\((rf Z6)/\(vI Z14=vI (nI y4))/\(rf (AD l))/\(Z5=(AD (chT l y4)))))))))))) (Z4/\(∃ y5:Nat,(y5<=l.length)/\(l.length-y5<l.length-x1)/\((rf Z6)/\(vI Z14=vI (nI y5))/\(rf (AD l))/\(Z5=(AD (chT l y5)))))))))) (((AD Z11)=AD (chT l l.length))))) (by kernel_rfl) ?_
 conv=>zeta
 delta ifB vI wR nI
 have hvl:=AL l
 refine ⟨⟨0,by
  omega,?_⟩,?_⟩
 ·refine ⟨rfl,?_,rfl,?_⟩
  ·rfl
  rfl
 intro (k:Nat) hki1
 have hki1:k<=l.length:=hki1
 refine And.symm ⟨λ c7=>?_,λ c7=>?_⟩
 ·try simp only [nrm] at c7
  rw [show l.length=k by omega]
 try simp only [nrm] at c7
 have hkl:k<l.length:=by omega
 have hV:=B0 hpre.1 hkl
 have hcb:=QH hpre.1 k (by omega)
 refine ao (by omega) λ o8=>?_
 refine ao (by omega) λ o9=>?_
 refine ⟨⟨chT l k,by
  exact ⟨rfl,hcb.1,hcb.2⟩,?_⟩,?_⟩
 ·exact ⟨rfl,rfl,rfl,rfl,rfl,rfl⟩
 intro (o:List V2) hki10
 have hki10:EJ o (l.getD k (0,0))=EJ (chT l k) (l.getD k (0,0))/\o.length<=k/\o.all AP=true:=hki10
 have hvo:=AL o
 refine And.symm ⟨λ c18=>?_,λ c18=>?_⟩
 ·try simp only [nrm] at c18
  have hn:EJ o (l.getD k (0,0))=o:=J7 (λ h=>by omega)
  refine ao (by simp only [AL,List.length_cons,List.length_nil];omega) λ o48=>?_
  refine ⟨k+1,by
   trivial,by
   omega,?_⟩
  refine ⟨rfl,?_,rfl,?_⟩
  ·exact Al (AB (by omega) (by omega))
  rw [Cb hkl,Cc hkl,← Ou hki10.1 hn];simp [AD,Mm]
 try simp only [nrm] at c18
 have ho:1<o.length:=by omega
 have hw2:IntKind.i64.wrap ((((AD o).length:Nat):Int)-(2:Int))=((o.length-2:Nat):Int):=by rw [hvo,AB (by omega) (by omega)];omega
 have hw1:IntKind.i64.wrap ((((AD o).length:Nat):Int)-(1:Int))=((o.length-1:Nat):Int):=by rw [hvo,AB (by omega) (by omega)];omega
 refine ao (by omega) λ o19=>?_
 refine ao (by omega) λ o20=>?_
 refine ao (by omega) λ o21=>?_
 refine ao (by omega) λ o22=>?_
 refine ⟨((o.getD (o.length-2) (0,0)).1,(o.getD (o.length-2) (0,0)).2,(o.getD (o.length-1) (0,0)).1,(o.getD (o.length-1) (0,0)).2,(l.getD k (0,0)).1,(l.getD k (0,0)).2),by
  rw [hw2,hw1,Int.toNat_natCast,Int.toNat_natCast,Cb (show o.length-2<o.length by omega),Cc (show o.length-2<o.length by omega),Cb (show o.length-1<o.length by omega),Cc (show o.length-1<o.length by omega),Cb hkl,Cc hkl];rfl,by
  try dsimp only [FO]
  exact ⟨B0 hki10.2.2 (show o.length-2<o.length by omega),B0 hki10.2.2 (show o.length-1<o.length by omega),hV⟩,?_⟩
 refine And.symm ⟨λ c26=>?_,λ c26=>?_⟩
 ·try dsimp only at c26
  try simp only [nrm] at c26
  have hn:EJ o (l.getD k (0,0))=o:=J7 (λ h=>Int.not_le.2 c26 h.2)
  refine ao (by simp only [AL,List.length_cons,List.length_nil];omega) λ o40=>?_
  refine ⟨k+1,by
   trivial,by
   omega,?_⟩
  refine ⟨rfl,?_,rfl,?_⟩
  ·exact Al (AB (by omega) (by omega))
  rw [Cb hkl,Cc hkl,← Ou hki10.1 hn];simp [AD,Mm]
 try dsimp only at c26
 try simp only [nrm] at c26
 refine ao (by rfl) λ o27=>?_
 refine ao (by rfl) λ o28=>?_
 refine ao (by omega) λ o29=>?_
 refine ao (by omega) λ o30=>?_
 refine ⟨o.take (o.length-1),by
  exact ⟨(Ot ho c26).trans hki10.1,by simp only [List.length_take];omega,by rw [List.all_eq_true];exact λ x hx=>List.all_eq_true.1 hki10.2.2 x (List.mem_of_mem_take hx)⟩,by
  simp only [List.length_take];omega,?_⟩
 refine ⟨rfl,rfl,rfl,rfl,rfl,?_⟩
 rw [hw1,Int.toNat_natCast];simp [AD,List.map_take]
def Gs:Con:={ ι:=(List V2),pre:=λ i=>i.length<=1048576,args:=λ i=>[.one (DC.sl 44 [.int,.int] (AD i))],res:=λ i=>⟨false,[none],[.own 44 [.int,.int] (AD (Ch i))]⟩ }
set_option maxHeartbeats 1600000 in
theorem Ui:Gs.Ok Tryz.prog 70:=by
 refine fok (X:=⟨tt,[(109,Fm),(110,Ec),(111,DS)],[],104,[]⟩) AH AI (CTok.cons SQ (CTok.cons QN (CTok.cons Sb (CTok.nil _)))) Tryz.func70 (λ (i:(List V2))=>let Z1:=Am i i.length;[(21,.mk 3 (Nat) (λ x10=>{ tm:=[(9,tI ((nI (Z1.length))-1-(nI x10))),(3,tX 1),(8,tX 2)],en:=[(1,.own 44 [.int,.int] (AD Z1)),(2,.own 44 [.int,.int] (AD (Z1.reverse.take x10)))] }) (λ x10=>x10<=Z1.length) (λ x10=>Z1.length-x10) (λ _=>[])),(5,.mk 3 (Nat) (λ x1=>{ tm:=[(17,tX 1),(18,tI (nI ((AD i).length))),(19,tI (nI x1)),(3,tX 2)],en:=[(1,.view 44 [.int,.int] (AD i) []),(2,.own 44 [.int,.int] (AD (Am i x1)))] }) (λ x1=>x1<=i.length/\(i.take x1).all AP=true) (λ x1=>i.length-x1) (λ x1=>let Z2:=Am i x1;[(10,.mk 4 (Nat) (λ x2=>{ tm:=[(17,tX 1),(18,tI (nI ((AD i).length))),(19,tI (nI x1)),(5,tP 2 0),(6,tI (nI x2)),(3,tX 3)],en:=[(2,.box [kI (((((AD i).getD x1 []).getD 0 (.int 0))).n),kI (((((AD i).getD x1 []).getD 1 (.int 0))).n)]),(1,.view 44 [.int,.int] (AD i) []),(3,.own 44 [.int,.int] (AD Z2))] }) (λ x2=>x2<=Z2.length/\∀ j,j<x2->CZ (Z2.getD j (0,0)) (i.getD x1 (0,0))=true) (λ x2=>Z2.length-x2) (λ _=>[]))]))]) ?_
 intro (l:List V2) hpre
 have hpre:l.length<=1048576:=hpre
 refine AG (q:=let Z28:=nI ((AD l).length);let Z18:=List Dat;let Z30:=(([]:List Z18)=AD (Ch l));let Z12:=Nat.beq 2 2=true;let Z10:=vI Z28;let Z4:=Am l l.length;let Z36:=nI (Z4.length);let Z32:=AD Z4;ifB ((decide (Z28>(64:Int)))) Z30 ((∃ x1:Nat,(x1<=l.length/\(l.take x1).all AP=true)/\((rf Z10)/\(vI (0:Int)=vI (nI x1))/\(rf (AD l))/\(([]:List Z18)=(AD (Am l x1)))))/\∀ x1:Nat,let Z33:=l.getD x1 (0,0);let Z24:=Am l x1;let Z14:=wR ((nI x1)+(1:Int));let Z6:=(AD l).getD x1 [];let Z16:=(Z6.getD 1 (.int 0));let Z15:=(Z6.getD 0 (.int 0));let Z2:=AD Z24;let Z34:=nI (Z2.length);let Z5:=(Z2.length:Int);(x1<=l.length/\(l.take x1).all AP=true)->(ifB ((decide ((nI x1)<Z28))) ((0<=(nI x1)/\(nI x1)<((AD l).length:Int))/\((x1<(AD l).length)/\(∃ i1:Int×Int,[DA.agg [cI (Z15.n),cI (Z16.n)]]=Fm.args i1/\Fm.pre i1/\(ifB ((!(AP (i1.1,i1.2)))) Z30 ((∃ x2:Nat,(x2<=Z24.length/\∀ j,j<x2->CZ (Z24.getD j (0,0)) Z33=true)/\((rf Z10)/\(rf (vI (nI x1)))/\(vI (0:Int)=vI (nI x2))/\(rf (vI Z15.n))/\(rf (vI Z16.n))/\(rf (AD l))/\(rf Z2)))/\∀ x2:Nat,let Z35:=x2<Z2.length;let Z31:=Z2.getD x2 [];let Z27:=Z2.take x2;let Z25:=(0:Int)<=(nI x2);let Z22:=(decide ((nI x2)<Z34));let Z20:=(nI x2)<=Z5;let Z17:=(Z2.take (Z5.toNat)).drop x2;let Z13:=([((Z31.getD 0 (.int 0))).n,((Z31.getD 1 (.int 0))).n] == [Z15.n,Z16.n]);let Z3:=(([]:List Z18)++Z27).length+([[Dat.int (Z15.n),Dat.int (Z16.n)]]:List Z18).length<=2199023255552;let Z1:=(([]:List Z18)++Z27)++([[Dat.int (Z15.n),Dat.int (Z16.n)]]:List Z18);let Z9:=Z1.length+Z17.length<=2199023255552;(x2<=Z24.length/\∀ j,j<x2->CZ (Z24.getD j (0,0)) Z33=true)->(ifB Z22 ((0<=(nI x2)/\(nI x2)<Z5)/\(Z35/\(∃ i2:Int×Int×Int×Int,[DA.agg [cI (((Z31.getD 0 (.int 0))).n),cI (((Z31.getD 1 (.int 0))).n)],DA.agg [cI (Z15.n),cI (Z16.n)]]=Ec.args i2/\Ec.pre i2/\(ifB ((CZ (i2.1,i2.2.1) (i2.2.2.1,i2.2.2.2))) (∃ y3:Nat,(y3<=Z24.length/\∀ j,j<y3->CZ (Z24.getD j (0,0)) Z33=true)/\(Z24.length-y3<Z24.length-x2)/\((rf Z10)/\(rf (vI (nI x1)))/\(vI (wR ((nI x2)+(1:Int)))=vI (nI y3))/\(rf (vI Z15.n))/\(rf (vI Z16.n))/\(rf (AD l))/\(rf Z2))) (ifB Z22 ((0<=(nI x2)/\(nI x2)<Z5)/\(Z35/\(ifB Z13 (∃ y4:Nat,(y4<=l.length/\(l.take y4).all AP=true)/\(l.length-y4<l.length-x1)/\((rf Z10)/\(vI Z14=vI (nI y4))/\(rf (AD l))/\(Z2=(AD (Am l y4))))) (Z12/\((0<=(0:Int))/\(Z25/\(Z20/\((([]:List Z18).length+Z27.length<=2199023255552)/\(Z3/\(Z12/\((0<=(nI x2))/\(Z20/\((Z5<=Z5)/\(Z9/\(∃ y5:Nat,(y5<=l.length/\(l.take y5).all AP=true)/\(l.length-y5<l.length-x1)/\((rf Z10)/\(vI Z14=vI (nI y5))/\(rf (AD l))/\((Z1++Z17)=(AD (Am l y5))))))))))))))))))) (Z12/\((0<=(0:Int))/\(Z25/\(Z20/\((([]:List Z18).length+Z27.length<=2199023255552)/\(Z3/\(Z12/\((0<=(nI x2))/\(Z20/\((Z5<=Z5)/\(Z9/\(∃ y6:Nat,(y6<=l.length/\(l.take y6).all AP=true)/\(l.length-y6<l.length-x1)/\((rf Z10)/\(vI Z14=vI (nI y6))/\(rf (AD l))/\((Z1++Z17)=(AD (Am l y6))))))))))))))))))))) (ifB Z22 ((0<=(nI x2)/\(nI x2)<Z5)/\(Z35/\(ifB Z13 (∃ y7:Nat,(y7<=l.length/\(l.take y7).all AP=true)/\(l.length-y7<l.length-x1)/\((rf Z10)/\(vI Z14=vI (nI y7))/\(rf (AD l))/\(Z2=(AD (Am l y7))))) (Z12/\((0<=(0:Int))/\(Z25/\(Z20/\((([]:List Z18).length+Z27.length<=2199023255552)/\(Z3/\(Z12/\((0<=(nI x2))/\(Z20/\((Z5<=Z5)/\(Z9/\(∃ y8:Nat,(y8<=l.length/\(l.take y8).all AP=true)/\(l.length-y8<l.length-x1)/\((rf Z10)/\(vI Z14=vI (nI y8))/\(rf (AD l))/\((Z1++Z17)=(AD (Am l y8))))))))))))))))))) (Z12/\((0<=(0:Int))/\(Z25/\(Z20/\((([]:List Z18).length+Z27.length<=2199023255552)/\(Z3/\(Z12/\((0<=(nI x2))/\(Z20/\((Z5<=Z5)/\(Z9/\(∃ y9:Nat,(y9<=l.length/\(l.take y9).all AP=true)/\(l.length-y9<l.length-x1)/\((rf Z10)/\(vI Z14=vI (nI y9))/\(rf (AD l))/\((Z1++Z17)=(AD (Am l y9))))))))))))))))))))))) (ifB ((decide (Z34<(3:Int)))) ((Z2=AD (Ch l))) ((∃ x10:Nat,(x10<=Z4.length)/\((vI (wR (Z34-(1:Int)))=vI (Z36-1-(nI x10)))/\(Z2=Z32)/\(([]:List Z18)=(AD (Z4.reverse.take x10)))))/\∀ x10:Nat,let Z26:=AD (Z4.reverse.take x10);let Z7:=Z36-1-(nI x10);let Z21:=Z32.getD (Z7.toNat) [];let Z38:=((Z21.getD 1 (.int 0))).n;let Z37:=((Z21.getD 0 (.int 0))).n;(x10<=Z4.length)->(ifB ((decide (Z7≥(0:Int)))) ((0<=Z7/\Z7<(Z32.length:Int))/\((Z7.toNat<Z32.length)/\((Z26.length+([[Dat.int Z37,Dat.int Z38]]:List Z18).length<=2199023255552)/\(∃ y11:Nat,(y11<=Z4.length)/\(Z4.length-y11<Z4.length-x10)/\((vI (wR (Z7-(1:Int)))=vI (Z36-1-(nI y11)))/\(rf Z32)/\((Z26++([[Dat.int Z37,Dat.int Z38]]:List Z18))=(AD (Z4.reverse.take y11)))))))) (∃ i3:(List V2),let Z19:=AD (chT i3 i3.length);let Z8:=wR ((nI (Z19.length))-(1:Int));let Z29:=Z19.take (Z8.toNat);[DA.one (DC.sl 44 [.int,.int] Z32)]=DS.args i3/\DS.pre i3/\(∃ i4:(List V2),let Z23:=AD (chT i4 i4.length);let Z11:=wR ((nI (Z23.length))-(1:Int));[DA.one (DC.sl 44 [.int,.int] Z26)]=DS.args i4/\DS.pre i4/\(Z12/\((0<=(0:Int))/\(((0:Int)<=Z8)/\((Z8<=(Z19.length:Int))/\((([]:List Z18).length+Z29.length<=2199023255552)/\(Z12/\((0<=(0:Int))/\(((0:Int)<=Z11)/\((Z11<=(Z23.length:Int))/\(((([]:List Z18)++Z29).length+(Z23.take (Z11.toNat)).length<=2199023255552)/\((((([]:List Z18)++Z29)++(Z23.take (Z11.toNat)))=AD (Ch l))))))))))))))))))))) (by kernel_rfl) ?_
 conv=>zeta
 delta ifB vI wR nI
 have hvl:=AL l
 refine ⟨λ c1=>?_,λ c1=>?_⟩
 ·try simp only [nrm] at c1
  have hE:Ch l=[]:=QJ (by omega)
  rw [hE];rfl
 try simp only [nrm] at c1
 refine ⟨⟨0,by
  exact ⟨Nat.zero_le _,rfl⟩,?_⟩,?_⟩
 ·refine ⟨rfl,?_,rfl,?_⟩
  ·rfl
  rfl
 intro (k:Nat) hki3
 have hki3:k<=l.length/\(l.take k).all AP=true:=hki3
 refine And.symm ⟨λ c9=>?_,λ c9=>?_⟩
 ·try simp only [nrm] at c9
  have hk:l.length=k:=by omega
  have hall:l.all AP=true:=by have:=hki3.2;rwa [← hk,List.take_length] at this
  have hE:=SV (by omega) hall
  have hsl:=LL l l.length
  have hvs:=AL (Am l k)
  have hvs2:=AL (Am l l.length)
  refine ⟨λ c137=>?_,λ c137=>?_⟩
  ·try simp only [nrm] at c137
   rw [hE,hk,UX (by omega)]
  try simp only [nrm] at c137
  have h3:¬ (Am l l.length).length<3:=by rw [hk];omega
  have hE2:=SX h3
  have hsv:=UT hall (Nat.le_refl _)
  refine ⟨⟨0,by
   omega,?_⟩,?_⟩
  ·refine ⟨?_,?_,?_⟩
   ·exact Al (by rw [hvs,← hk,AB (by omega) (by omega)];omega)
   ·rw [hk]
   rfl
  intro (j:Nat) hki139
  have hki139:j<=(Am l l.length).length:=hki139
  refine ⟨λ c144=>?_,λ c144=>?_⟩
  ·try simp only [nrm] at c144
   have hj:j<(Am l l.length).length:=by omega
   have hi:(((((Am l l.length).length:Nat):Int)-1-((j:Nat):Int))).toNat=(Am l l.length).length-1-j:=by omega
   refine ao (by omega) λ o145=>?_
   refine ao (by omega) λ o146=>?_
   refine ao (by simp only [AL,List.length_append,List.length_take,List.length_drop,List.length_cons,List.length_nil,List.nil_append];omega) λ o147=>?_
   refine ⟨j+1,by
    trivial,by
    omega,?_⟩
   refine ⟨?_,rfl,?_⟩
   ·exact Al (by rw [AB (by omega) (by omega)];omega)
   rw [hi,Cb (show (Am l l.length).length-1-j<(Am l l.length).length by omega),Cc (show (Am l l.length).length-1-j<(Am l l.length).length by omega)];exact UY hj
  try simp only [nrm] at c144
  have hj:(Am l l.length).reverse.take j=(Am l l.length).reverse:=List.take_of_length_le (by rw [List.length_reverse];omega)
  have hrl:(Am l l.length).reverse.length=(Am l l.length).length:=List.length_reverse
  refine ⟨(Am l l.length),by
   rfl,by
   exact ⟨hsv,by omega,by omega⟩,?_⟩
  refine ⟨(Am l l.length).reverse,by
   rw [hj];rfl,by
   exact ⟨RI hsv,by omega,by omega⟩,?_⟩
  have hA:=RJ hsv (by omega)
  have hB:=RJ (RI hsv) (by omega)
  have hvA:=AL (chT (Am l l.length) (Am l l.length).length)
  have hvB:=AL (chT (Am l l.length).reverse (Am l l.length).reverse.length)
  have hwA:IntKind.i64.wrap ((((AD (chT (Am l l.length) (Am l l.length).length)).length:Nat):Int)-(1:Int))=(((chT (Am l l.length) (Am l l.length).length).length-1:Nat):Int):=by rw [hvA,AB (by omega) (by omega)];omega
  have hwB:IntKind.i64.wrap ((((AD (chT (Am l l.length).reverse (Am l l.length).reverse.length)).length:Nat):Int)-(1:Int))=(((chT (Am l l.length).reverse (Am l l.length).reverse.length).length-1:Nat):Int):=by rw [hvB,AB (by omega) (by omega)];omega
  refine ao (by rfl) λ o160=>?_
  refine ao (by omega) λ o161=>?_
  refine ao (by omega) λ o162=>?_
  refine ao (by omega) λ o163=>?_
  refine ao (by simp only [AL,List.length_append,List.length_take,List.length_drop,List.length_cons,List.length_nil,List.nil_append];omega) λ o164=>?_
  refine ao (by rfl) λ o165=>?_
  refine ao (by omega) λ o166=>?_
  refine ao (by omega) λ o167=>?_
  refine ao (by omega) λ o168=>?_
  refine ao (by simp only [AL,List.length_append,List.length_take,List.length_drop,List.length_cons,List.length_nil,List.nil_append];omega) λ o169=>?_
  rw [hE,hE2,hwA,hwB,Int.toNat_natCast,Int.toNat_natCast,List.nil_append,Ov,Ov,Ma]
 try simp only [nrm] at c9
 have hkl:k<l.length:=by omega
 have hsl:=LL l k
 have hvs:=AL (Am l k)
 refine ao (by omega) λ o10=>?_
 refine ao (by omega) λ o11=>?_
 refine ⟨((l.getD k (0,0)).1,(l.getD k (0,0)).2),by
  rw [Cb hkl,Cc hkl];rfl,by
  trivial,?_⟩
 refine ⟨λ c15=>?_,λ c15=>?_⟩
 ·try simp only [nrm] at c15
  have hE:Ch l=[]:=UV hkl c15
  rw [hE];rfl
 try simp only [nrm] at c15
 refine ⟨⟨0,by
  exact ⟨Nat.zero_le _,λ j hj=>absurd hj (Nat.not_lt_zero j)⟩,?_⟩,?_⟩
 ·refine ⟨rfl,rfl,?_,rfl,rfl,rfl,rfl⟩
  rfl
 intro (n:Nat) hki17
 have hki17:n<=(Am l k).length/\∀ j,j<n->CZ ((Am l k).getD j (0,0)) (l.getD k (0,0))=true:=hki17
 refine And.symm ⟨λ c26=>?_,λ c26=>?_⟩
 ·try simp only [nrm] at c26
  refine ⟨λ c90=>?_,λ c90=>?_⟩
  ·try simp only [nrm] at c90
   exfalso;omega -- done
  try simp only [nrm] at c90
  refine ao (by rfl) λ o119=>?_
  refine ao (by omega) λ o120=>?_
  refine ao (by omega) λ o121=>?_
  refine ao (by omega) λ o122=>?_
  refine ao (by simp only [AL,List.length_append,List.length_take,List.length_drop,List.length_cons,List.length_nil,List.nil_append];omega) λ o123=>?_
  refine ao (by simp only [AL,List.length_append,List.length_take,List.length_drop,List.length_cons,List.length_nil,List.nil_append];omega) λ o124=>?_
  refine ao (by rfl) λ o125=>?_
  refine ao (by omega) λ o126=>?_
  refine ao (by omega) λ o127=>?_
  refine ao (by omega) λ o128=>?_
  refine ao (by simp only [AL,List.length_append,List.length_take,List.length_drop,List.length_cons,List.length_nil,List.nil_append];omega) λ o129=>?_
  refine ⟨k+1,by
   exact ⟨by omega,NM hkl hki3.2 c15⟩,by
   omega,?_⟩
  refine ⟨rfl,?_,rfl,?_⟩
  ·exact Al (AB (by omega) (by omega))
  rw [Cb hkl,Cc hkl,Ow,RH (by omega) hki17.2 (λ h=>absurd h (by omega)) (λ h=>absurd h (by omega))]
 try simp only [nrm] at c26
 have hn:n<(Am l k).length:=by omega
 refine ao (by omega) λ o27=>?_
 refine ao (by omega) λ o28=>?_
 refine ⟨(((Am l k).getD n (0,0)).1,((Am l k).getD n (0,0)).2,(l.getD k (0,0)).1,(l.getD k (0,0)).2),by
  rw [Cb hn,Cc hn,Cb hkl,Cc hkl];rfl,by
  trivial,?_⟩
 refine ⟨λ c32=>?_,λ c32=>?_⟩
 ·try simp only [nrm] at c32
  refine ⟨n+1,by
   exact ⟨by omega,UU hki17.2 c32⟩,by
   omega,?_⟩
  refine ⟨rfl,rfl,?_,rfl,rfl,rfl,rfl⟩
  exact Al (AB (by omega) (by omega))
 try simp only [nrm] at c32
 refine And.symm ⟨λ c43=>?_,λ c43=>?_⟩
 ·try simp only [nrm] at c43
  exfalso;omega -- done
 try simp only [nrm] at c43
 refine ao (by omega) λ o44=>?_
 refine ao (by omega) λ o45=>?_
 refine ⟨λ c46=>?_,λ c46=>?_⟩
 ·try dsimp only at c46
  try simp only [nrm] at c46
  rw [Cb hn,Cc hn,Cb hkl,Cc hkl] at c46
  have hq:=Vd c46
  refine ⟨k+1,by
   exact ⟨by omega,NM hkl hki3.2 c15⟩,by
   omega,?_⟩
  refine ⟨rfl,?_,rfl,?_⟩
  ·exact Al (AB (by omega) (by omega))
  rw [UW hn hki17.2 c32 hq]
 try dsimp only at c46
 try simp only [nrm] at c46
 rw [Cb hn,Cc hn,Cb hkl,Cc hkl] at c46
 refine ao (by rfl) λ o54=>?_
 refine ao (by omega) λ o55=>?_
 refine ao (by omega) λ o56=>?_
 refine ao (by omega) λ o57=>?_
 refine ao (by simp only [AL,List.length_append,List.length_take,List.length_drop,List.length_cons,List.length_nil,List.nil_append];omega) λ o58=>?_
 refine ao (by simp only [AL,List.length_append,List.length_take,List.length_drop,List.length_cons,List.length_nil,List.nil_append];omega) λ o59=>?_
 refine ao (by rfl) λ o60=>?_
 refine ao (by omega) λ o61=>?_
 refine ao (by omega) λ o62=>?_
 refine ao (by omega) λ o63=>?_
 refine ao (by simp only [AL,List.length_append,List.length_take,List.length_drop,List.length_cons,List.length_nil,List.nil_append];omega) λ o64=>?_
 refine ⟨k+1,by
  exact ⟨by omega,NM hkl hki3.2 c15⟩,by
  omega,?_⟩
 refine ⟨rfl,?_,rfl,?_⟩
 ·exact Al (AB (by omega) (by omega))
 rw [Cb hkl,Cc hkl,Ow,RH (by omega) hki17.2 (λ _=>c32) (λ _ e=>c46 (by rw [e]))]
end Go.Proofs.YtndnhlhnjiopfaaGreat
