import Derived.Test.YtndnhlhnjiopfaaGreatDi2RkH
import Derived.Test.YtndnhlhnjiopfaaGreatDi2Huv
import Derived.Test.YtndnhlhnjiopfaaGreatDi2HulS
namespace Go.Proofs.YtndnhlhnjiopfaaGreat
set_option maxRecDepth 100000
set_option linter.unusedVariables false
set_option linter.unusedSimpArgs false
open Go.RowKit Go.Sort Go.Shelf
def F1:Con:={ ι:=Int×Int×Int×Int×Int×Int,pre:=λ i=>AQ (i.1,i.2.1)=true/\AQ (i.2.2.1,i.2.2.2.1)=true/\AQ (i.2.2.2.2.1,i.2.2.2.2.2)=true,args:=λ i=>[DA.agg [cI i.1,cI i.2.1],DA.agg [cI i.2.2.1,cI i.2.2.2.1],DA.agg [cI i.2.2.2.2.1,cI i.2.2.2.2.2]],res:=λ i=>⟨false,[none],[rcI (Aa (i.1,i.2.1) (i.2.2.1,i.2.2.2.1) (i.2.2.2.2.1,i.2.2.2.2.2))]⟩ }
theorem Vp:F1.Ok Tryz.prog 113:=Hb rfl ⟨_,Tryz.func113,by decide,rfl⟩ (λ _=>Nat.le_of_ble_eq_true rfl) (λ _=>rfl) (λ i=>[.im (.int .i64 (Aa (i.1,i.2.1) (i.2.2.1,i.2.2.2.1) (i.2.2.2.2.1,i.2.2.2.2.2)))]) (λ _=>rfl) (λ _=>rfl) (λ i hp w us h=>by
 obtain ⟨a1,a2,b1,b2,c1,c2⟩:=i
 have h:RdRow w [.int,.int,.int,.int,.int,.int] [.int a1,.int a2,.int b1,.int b2,.int c1,.int c2] us:=h
 obtain ⟨x1,_,rfl,q1,h⟩:=RdRow.cons2 h
 obtain ⟨x2,_,rfl,q2,h⟩:=RdRow.cons2 h
 obtain ⟨x3,_,rfl,q3,h⟩:=RdRow.cons2 h
 obtain ⟨x4,_,rfl,q4,h⟩:=RdRow.cons2 h
 obtain ⟨x5,_,rfl,q5,h⟩:=RdRow.cons2 h
 obtain ⟨x6,_,rfl,q6,h⟩:=RdRow.cons2 h
 obtain ⟨-,rfl⟩:=RdRow.nil_inv h
 obtain rfl:=Rd.int2 q1
 obtain rfl:=Rd.int2 q2
 obtain rfl:=Rd.int2 q3
 obtain rfl:=Rd.int2 q4
 obtain rfl:=Rd.int2 q5
 obtain rfl:=Rd.int2 q6
 refine (VT a1 a2 b1 b2 c1 c2 hp.1 hp.2.1 hp.2.2 w).mono ?_
 rintro e w' ⟨rfl,hb⟩
 exact ⟨[Value.int .i64 (Aa (a1,a2) (b1,b2) (c1,c2))],rfl,Own.leaf (Fp.mk_int _),hb⟩)
def FG:Con:={ ι:=Int×Int×Int×Int,pre:=λ i=>True,args:=λ i=>[DA.agg [cI i.1,cI i.2.1],DA.agg [cI i.2.2.1,cI i.2.2.2]],res:=λ i=>⟨false,[none],[rcB (Cv (i.1,i.2.1) (i.2.2.1,i.2.2.2))]⟩ }
theorem RL:FG.Ok Tryz.prog 110:=by
 refine fok (X:=⟨tt,[],[],24,[]⟩) AG AH (CTok.nil _) Tryz.func110 (λ _=>[]) ?_
 rintro ⟨a1,a2,b1,b2⟩ hpre
 have hpre:True:=hpre
 refine AF (q:=let Z1:=Cv (a1,a2) (b1,b2);ifB ((!(decide (a1<b1)))) (ifB ((a1 == b1)) ((vB (decide (a2<b2))=vB Z1)) ((vB false=vB Z1))) ((vB true=vB Z1))) (by kernel_rfl) ?_
 conv=>zeta
 delta ifB vB
 refine And.symm ⟨λ c1=>?_,λ c1=>?_⟩
 ·try simp only [nrm] at c1
  exact congrArg Value.bool (by unfold Cv;simp_all)
 try simp only [nrm] at c1
 refine ⟨λ c2=>?_,λ c2=>?_⟩
 ·try simp only [nrm] at c2
  exact congrArg Value.bool (by unfold Cv;simp_all)
 try simp only [nrm] at c2
 exact congrArg Value.bool (by unfold Cv;simp_all)
def Ds:Con:={ ι:=(List V2),pre:=λ i=>i.all AQ=true/\0<i.length/\i.length<=64,args:=λ i=>[.one (DC.sl 44 [.int,.int] (AC i))],res:=λ i=>⟨false,[none],[.own 44 [.int,.int] (AC (chT i i.length))]⟩ }
theorem Tq:Ds.Ok Tryz.prog 111:=by
 refine fok (X:=⟨tt,[(113,F1)],[37],44,[]⟩) AG AH (CTok.cons Vp (CTok.nil _)) Tryz.func111 (λ (i:(List V2))=>[(3,.mk 3 (Nat) (λ x1=>{ tm:=[(7,tX 1),(8,tI (nI ((AC i).length))),(9,tI (nI x1)),(3,tX 2)],en:=[(1,.view 44 [.int,.int] (AC i) []),(2,.own 44 [.int,.int] (AC (chT i x1)))] }) (λ x1=>x1<=i.length) (λ x1=>i.length-x1) (λ x1=>[(5,.mk 4 ((List V2)) (λ x2=>{ tm:=[(7,tX 1),(8,tI (nI ((AC i).length))),(9,tI (nI x1)),(5,tP 2 0),(3,tX 3)],en:=[(2,.box [kI (((((AC i).getD x1 []).getD 0 (.int 0))).n),kI (((((AC i).getD x1 []).getD 1 (.int 0))).n)]),(1,.view 44 [.int,.int] (AC i) []),(3,.own 44 [.int,.int] (AC x2))] }) (λ x2=>Es x2 (i.getD x1 (0,0))=Es (chT i x1) (i.getD x1 (0,0))/\x2.length<=x1/\x2.all AQ=true) (λ x2=>x2.length) (λ _=>[]))]))]) ?_
 intro (l:List V2) hpre
 have hpre:l.all AQ=true/\0<l.length/\l.length<=64:=hpre
 refine AF (q:=let Z6:=vI (nI ((AC l).length));(∃ x1:Nat,(x1<=l.length)/\((rf Z6)/\(vI (0:Int)=vI (nI x1))/\(rf (AC l))/\(([]:List (List Dat))=(AC (chT l x1)))))/\∀ x1:Nat,let Z14:=wR ((nI x1)+(1:Int));let Z11:=chT l x1;let Z10:=l.getD x1 (0,0);let Z2:=(AC l).getD x1 [];let Z9:=(Z2.getD 1 (.int 0));let Z8:=(Z2.getD 0 (.int 0));(x1<=l.length)->(ifB ((decide ((nI x1)<(nI ((AC l).length))))) ((0<=(nI x1)/\(nI x1)<((AC l).length:Int))/\((x1<(AC l).length)/\((∃ x2:(List V2),(Es x2 Z10=Es Z11 Z10/\x2.length<=x1/\x2.all AQ=true)/\((rf Z6)/\(rf (vI (nI x1)))/\(rf (vI Z8.n))/\(rf (vI Z9.n))/\(rf (AC l))/\((AC Z11)=(AC x2))))/\∀ x2:(List V2),let Z7:=AC x2;let Z13:=nI (Z7.length);let Z12:=(Z7.length:Int);let Z5:=Z7++([[Dat.int (Z8.n),Dat.int (Z9.n)]]:List (List Dat));let Z4:=Z7.length+([[Dat.int (Z8.n),Dat.int (Z9.n)]]:List (List Dat)).length<=2199023255552;let Z3:=wR (Z13-(2:Int));let Z1:=wR (Z13-(1:Int));(Es x2 Z10=Es Z11 Z10/\x2.length<=x1/\x2.all AQ=true)->(ifB ((decide (Z13>(1:Int)))) ((0<=Z3/\Z3<Z12)/\((Z3.toNat<Z7.length)/\((0<=Z1/\Z1<Z12)/\((Z1.toNat<Z7.length)/\(∃ i1:Int×Int×Int×Int×Int×Int,[DA.agg [cI ((((Z7.getD (Z3.toNat) []).getD 0 (.int 0))).n),cI ((((Z7.getD (Z3.toNat) []).getD 1 (.int 0))).n)],DA.agg [cI ((((Z7.getD (Z1.toNat) []).getD 0 (.int 0))).n),cI ((((Z7.getD (Z1.toNat) []).getD 1 (.int 0))).n)],DA.agg [cI (Z8.n),cI (Z9.n)]]=F1.args i1/\F1.pre i1/\(ifB ((decide ((Aa (i1.1,i1.2.1) (i1.2.2.1,i1.2.2.2.1) (i1.2.2.2.2.1,i1.2.2.2.2.2))<=(0:Int)))) ((Nat.beq 2 2=true)/\(((0:Int)=0)/\((0<=Z1)/\((Z1<=Z12)/\(∃ y3:(List V2),(Es y3 Z10=Es Z11 Z10/\y3.length<=x1/\y3.all AQ=true)/\(y3.length<x2.length)/\((rf Z6)/\(rf (vI (nI x1)))/\(rf (vI Z8.n))/\(rf (vI Z9.n))/\(rf (AC l))/\((Z7.take (Z1.toNat))=(AC y3)))))))) (Z4/\(∃ y4:Nat,(y4<=l.length)/\(l.length-y4<l.length-x1)/\((rf Z6)/\(vI Z14=vI (nI y4))/\(rf (AC l))/\(Z5=(AC (chT l y4)))))))))))) (Z4/\(∃ y5:Nat,(y5<=l.length)/\(l.length-y5<l.length-x1)/\((rf Z6)/\(vI Z14=vI (nI y5))/\(rf (AC l))/\(Z5=(AC (chT l y5)))))))))) (((AC Z11)=AC (chT l l.length))))) (by kernel_rfl) ?_
 conv=>zeta
 delta ifB vI wR nI
 have hvl:=AI l
 refine ⟨⟨0,by
  omega,?_⟩,?_⟩
 ·refine ⟨rfl,?_,rfl,?_⟩
  ·rfl
  rfl
 intro (k:Nat) hki1
 have hki1:k<=l.length:=hki1
 refine And.symm ⟨λ c7=>?_,λ c7=>?_⟩
 ·try simp only [nrm] at c7
  rw [show l.length=k by omega]
 try simp only [nrm] at c7
 have hkl:k<l.length:=by omega
 have hV:=Bx hpre.1 hkl
 have hcb:=RD hpre.1 k (by omega)
 refine ao (by omega) λ o8=>?_
 refine ao (by omega) λ o9=>?_
 refine ⟨⟨chT l k,by
  exact ⟨rfl,hcb.1,hcb.2⟩,?_⟩,?_⟩
 ·exact ⟨rfl,rfl,rfl,rfl,rfl,rfl⟩
 intro (o:List V2) hki10
 have hki10:Es o (l.getD k (0,0))=Es (chT l k) (l.getD k (0,0))/\o.length<=k/\o.all AQ=true:=hki10
 have hvo:=AI o
 refine And.symm ⟨λ c18=>?_,λ c18=>?_⟩
 ·try simp only [nrm] at c18
  have hn:Es o (l.getD k (0,0))=o:=Kq (λ h=>by omega)
  refine ao (by simp only [AI,List.length_cons,List.length_nil];omega) λ o48=>?_
  refine ⟨k+1,by
   trivial,by
   omega,?_⟩
  refine ⟨rfl,?_,rfl,?_⟩
  ·exact Am (AB (by omega) (by omega))
  rw [CX hkl,CY hkl,← Pj hki10.1 hn];simp [AC,Nb]
 try simp only [nrm] at c18
 have ho:1<o.length:=by omega
 have hw2:IntKind.i64.wrap ((((AC o).length:Nat):Int)-(2:Int))=((o.length-2:Nat):Int):=by rw [hvo,AB (by omega) (by omega)];omega
 have hw1:IntKind.i64.wrap ((((AC o).length:Nat):Int)-(1:Int))=((o.length-1:Nat):Int):=by rw [hvo,AB (by omega) (by omega)];omega
 refine ao (by omega) λ o19=>?_
 refine ao (by omega) λ o20=>?_
 refine ao (by omega) λ o21=>?_
 refine ao (by omega) λ o22=>?_
 refine ⟨((o.getD (o.length-2) (0,0)).1,(o.getD (o.length-2) (0,0)).2,(o.getD (o.length-1) (0,0)).1,(o.getD (o.length-1) (0,0)).2,(l.getD k (0,0)).1,(l.getD k (0,0)).2),by
  rw [hw2,hw1,Int.toNat_natCast,Int.toNat_natCast,CX (show o.length-2<o.length by omega),CY (show o.length-2<o.length by omega),CX (show o.length-1<o.length by omega),CY (show o.length-1<o.length by omega),CX hkl,CY hkl];rfl,by
  try dsimp only [F1]
  exact ⟨Bx hki10.2.2 (show o.length-2<o.length by omega),Bx hki10.2.2 (show o.length-1<o.length by omega),hV⟩,?_⟩
 refine And.symm ⟨λ c26=>?_,λ c26=>?_⟩
 ·try dsimp only at c26
  try simp only [nrm] at c26
  have hn:Es o (l.getD k (0,0))=o:=Kq (λ h=>Int.not_le.2 c26 h.2)
  refine ao (by simp only [AI,List.length_cons,List.length_nil];omega) λ o40=>?_
  refine ⟨k+1,by
   trivial,by
   omega,?_⟩
  refine ⟨rfl,?_,rfl,?_⟩
  ·exact Am (AB (by omega) (by omega))
  rw [CX hkl,CY hkl,← Pj hki10.1 hn];simp [AC,Nb]
 try dsimp only at c26
 try simp only [nrm] at c26
 refine ao (by rfl) λ o27=>?_
 refine ao (by rfl) λ o28=>?_
 refine ao (by omega) λ o29=>?_
 refine ao (by omega) λ o30=>?_
 refine ⟨o.take (o.length-1),by
  exact ⟨(Pi ho c26).trans hki10.1,by simp only [List.length_take];omega,by rw [List.all_eq_true];exact λ x hx=>List.all_eq_true.1 hki10.2.2 x (List.mem_of_mem_take hx)⟩,by
  simp only [List.length_take];omega,?_⟩
 refine ⟨rfl,rfl,rfl,rfl,rfl,?_⟩
 rw [hw1,Int.toNat_natCast];simp [AC,List.map_take]
def Hr:Con:={ ι:=(List V2),pre:=λ i=>i.length<=1048576,args:=λ i=>[.one (DC.sl 44 [.int,.int] (AC i))],res:=λ i=>⟨false,[none],[.own 44 [.int,.int] (AC (C2 i))]⟩ }
set_option maxHeartbeats 1600000 in
theorem Vq:Hr.Ok Tryz.prog 70:=by
 refine fok (X:=⟨tt,[(109,GT),(110,FG),(111,Ds)],[],104,[]⟩) AG AH (CTok.cons Tc (CTok.cons RL (CTok.cons Tq (CTok.nil _)))) Tryz.func70 (λ (i:(List V2))=>let Z1:=As i i.length;[(21,.mk 3 (Nat) (λ x10=>{ tm:=[(9,tI ((nI (Z1.length))-1-(nI x10))),(3,tX 1),(8,tX 2)],en:=[(1,.own 44 [.int,.int] (AC Z1)),(2,.own 44 [.int,.int] (AC (Z1.reverse.take x10)))] }) (λ x10=>x10<=Z1.length) (λ x10=>Z1.length-x10) (λ _=>[])),(5,.mk 3 (Nat) (λ x1=>{ tm:=[(17,tX 1),(18,tI (nI ((AC i).length))),(19,tI (nI x1)),(3,tX 2)],en:=[(1,.view 44 [.int,.int] (AC i) []),(2,.own 44 [.int,.int] (AC (As i x1)))] }) (λ x1=>x1<=i.length/\(i.take x1).all AQ=true) (λ x1=>i.length-x1) (λ x1=>let Z2:=As i x1;[(10,.mk 4 (Nat) (λ x2=>{ tm:=[(17,tX 1),(18,tI (nI ((AC i).length))),(19,tI (nI x1)),(5,tP 2 0),(6,tI (nI x2)),(3,tX 3)],en:=[(2,.box [kI (((((AC i).getD x1 []).getD 0 (.int 0))).n),kI (((((AC i).getD x1 []).getD 1 (.int 0))).n)]),(1,.view 44 [.int,.int] (AC i) []),(3,.own 44 [.int,.int] (AC Z2))] }) (λ x2=>x2<=Z2.length/\∀ j,j<x2->Cv (Z2.getD j (0,0)) (i.getD x1 (0,0))=true) (λ x2=>Z2.length-x2) (λ _=>[]))]))]) ?_
 intro (l:List V2) hpre
 have hpre:l.length<=1048576:=hpre
 refine AF (q:=let Z28:=nI ((AC l).length);let Z18:=List Dat;let Z30:=(([]:List Z18)=AC (C2 l));let Z12:=Nat.beq 2 2=true;let Z10:=vI Z28;let Z4:=As l l.length;let Z36:=nI (Z4.length);let Z32:=AC Z4;ifB ((decide (Z28>(64:Int)))) Z30 ((∃ x1:Nat,(x1<=l.length/\(l.take x1).all AQ=true)/\((rf Z10)/\(vI (0:Int)=vI (nI x1))/\(rf (AC l))/\(([]:List Z18)=(AC (As l x1)))))/\∀ x1:Nat,let Z33:=l.getD x1 (0,0);let Z24:=As l x1;let Z14:=wR ((nI x1)+(1:Int));let Z6:=(AC l).getD x1 [];let Z16:=(Z6.getD 1 (.int 0));let Z15:=(Z6.getD 0 (.int 0));let Z2:=AC Z24;let Z34:=nI (Z2.length);let Z5:=(Z2.length:Int);(x1<=l.length/\(l.take x1).all AQ=true)->(ifB ((decide ((nI x1)<Z28))) ((0<=(nI x1)/\(nI x1)<((AC l).length:Int))/\((x1<(AC l).length)/\(∃ i1:Int×Int,[DA.agg [cI (Z15.n),cI (Z16.n)]]=GT.args i1/\GT.pre i1/\(ifB ((!(AQ (i1.1,i1.2)))) Z30 ((∃ x2:Nat,(x2<=Z24.length/\∀ j,j<x2->Cv (Z24.getD j (0,0)) Z33=true)/\((rf Z10)/\(rf (vI (nI x1)))/\(vI (0:Int)=vI (nI x2))/\(rf (vI Z15.n))/\(rf (vI Z16.n))/\(rf (AC l))/\(rf Z2)))/\∀ x2:Nat,let Z35:=x2<Z2.length;let Z31:=Z2.getD x2 [];let Z27:=Z2.take x2;let Z25:=(0:Int)<=(nI x2);let Z22:=(decide ((nI x2)<Z34));let Z20:=(nI x2)<=Z5;let Z17:=(Z2.take (Z5.toNat)).drop x2;let Z13:=([((Z31.getD 0 (.int 0))).n,((Z31.getD 1 (.int 0))).n] == [Z15.n,Z16.n]);let Z3:=(([]:List Z18)++Z27).length+([[Dat.int (Z15.n),Dat.int (Z16.n)]]:List Z18).length<=2199023255552;let Z1:=(([]:List Z18)++Z27)++([[Dat.int (Z15.n),Dat.int (Z16.n)]]:List Z18);let Z9:=Z1.length+Z17.length<=2199023255552;(x2<=Z24.length/\∀ j,j<x2->Cv (Z24.getD j (0,0)) Z33=true)->(ifB Z22 ((0<=(nI x2)/\(nI x2)<Z5)/\(Z35/\(∃ i2:Int×Int×Int×Int,[DA.agg [cI (((Z31.getD 0 (.int 0))).n),cI (((Z31.getD 1 (.int 0))).n)],DA.agg [cI (Z15.n),cI (Z16.n)]]=FG.args i2/\FG.pre i2/\(ifB ((Cv (i2.1,i2.2.1) (i2.2.2.1,i2.2.2.2))) (∃ y3:Nat,(y3<=Z24.length/\∀ j,j<y3->Cv (Z24.getD j (0,0)) Z33=true)/\(Z24.length-y3<Z24.length-x2)/\((rf Z10)/\(rf (vI (nI x1)))/\(vI (wR ((nI x2)+(1:Int)))=vI (nI y3))/\(rf (vI Z15.n))/\(rf (vI Z16.n))/\(rf (AC l))/\(rf Z2))) (ifB Z22 ((0<=(nI x2)/\(nI x2)<Z5)/\(Z35/\(ifB Z13 (∃ y4:Nat,(y4<=l.length/\(l.take y4).all AQ=true)/\(l.length-y4<l.length-x1)/\((rf Z10)/\(vI Z14=vI (nI y4))/\(rf (AC l))/\(Z2=(AC (As l y4))))) (Z12/\((0<=(0:Int))/\(Z25/\(Z20/\((([]:List Z18).length+Z27.length<=2199023255552)/\(Z3/\(Z12/\((0<=(nI x2))/\(Z20/\((Z5<=Z5)/\(Z9/\(∃ y5:Nat,(y5<=l.length/\(l.take y5).all AQ=true)/\(l.length-y5<l.length-x1)/\((rf Z10)/\(vI Z14=vI (nI y5))/\(rf (AC l))/\((Z1++Z17)=(AC (As l y5))))))))))))))))))) (Z12/\((0<=(0:Int))/\(Z25/\(Z20/\((([]:List Z18).length+Z27.length<=2199023255552)/\(Z3/\(Z12/\((0<=(nI x2))/\(Z20/\((Z5<=Z5)/\(Z9/\(∃ y6:Nat,(y6<=l.length/\(l.take y6).all AQ=true)/\(l.length-y6<l.length-x1)/\((rf Z10)/\(vI Z14=vI (nI y6))/\(rf (AC l))/\((Z1++Z17)=(AC (As l y6))))))))))))))))))))) (ifB Z22 ((0<=(nI x2)/\(nI x2)<Z5)/\(Z35/\(ifB Z13 (∃ y7:Nat,(y7<=l.length/\(l.take y7).all AQ=true)/\(l.length-y7<l.length-x1)/\((rf Z10)/\(vI Z14=vI (nI y7))/\(rf (AC l))/\(Z2=(AC (As l y7))))) (Z12/\((0<=(0:Int))/\(Z25/\(Z20/\((([]:List Z18).length+Z27.length<=2199023255552)/\(Z3/\(Z12/\((0<=(nI x2))/\(Z20/\((Z5<=Z5)/\(Z9/\(∃ y8:Nat,(y8<=l.length/\(l.take y8).all AQ=true)/\(l.length-y8<l.length-x1)/\((rf Z10)/\(vI Z14=vI (nI y8))/\(rf (AC l))/\((Z1++Z17)=(AC (As l y8))))))))))))))))))) (Z12/\((0<=(0:Int))/\(Z25/\(Z20/\((([]:List Z18).length+Z27.length<=2199023255552)/\(Z3/\(Z12/\((0<=(nI x2))/\(Z20/\((Z5<=Z5)/\(Z9/\(∃ y9:Nat,(y9<=l.length/\(l.take y9).all AQ=true)/\(l.length-y9<l.length-x1)/\((rf Z10)/\(vI Z14=vI (nI y9))/\(rf (AC l))/\((Z1++Z17)=(AC (As l y9))))))))))))))))))))))) (ifB ((decide (Z34<(3:Int)))) ((Z2=AC (C2 l))) ((∃ x10:Nat,(x10<=Z4.length)/\((vI (wR (Z34-(1:Int)))=vI (Z36-1-(nI x10)))/\(Z2=Z32)/\(([]:List Z18)=(AC (Z4.reverse.take x10)))))/\∀ x10:Nat,let Z26:=AC (Z4.reverse.take x10);let Z7:=Z36-1-(nI x10);let Z21:=Z32.getD (Z7.toNat) [];let Z38:=((Z21.getD 1 (.int 0))).n;let Z37:=((Z21.getD 0 (.int 0))).n;(x10<=Z4.length)->(ifB ((decide (Z7≥(0:Int)))) ((0<=Z7/\Z7<(Z32.length:Int))/\((Z7.toNat<Z32.length)/\((Z26.length+([[Dat.int Z37,Dat.int Z38]]:List Z18).length<=2199023255552)/\(∃ y11:Nat,(y11<=Z4.length)/\(Z4.length-y11<Z4.length-x10)/\((vI (wR (Z7-(1:Int)))=vI (Z36-1-(nI y11)))/\(rf Z32)/\((Z26++([[Dat.int Z37,Dat.int Z38]]:List Z18))=(AC (Z4.reverse.take y11)))))))) (∃ i3:(List V2),let Z19:=AC (chT i3 i3.length);let Z8:=wR ((nI (Z19.length))-(1:Int));let Z29:=Z19.take (Z8.toNat);[DA.one (DC.sl 44 [.int,.int] Z32)]=Ds.args i3/\Ds.pre i3/\(∃ i4:(List V2),let Z23:=AC (chT i4 i4.length);let Z11:=wR ((nI (Z23.length))-(1:Int));[DA.one (DC.sl 44 [.int,.int] Z26)]=Ds.args i4/\Ds.pre i4/\(Z12/\((0<=(0:Int))/\(((0:Int)<=Z8)/\((Z8<=(Z19.length:Int))/\((([]:List Z18).length+Z29.length<=2199023255552)/\(Z12/\((0<=(0:Int))/\(((0:Int)<=Z11)/\((Z11<=(Z23.length:Int))/\(((([]:List Z18)++Z29).length+(Z23.take (Z11.toNat)).length<=2199023255552)/\((((([]:List Z18)++Z29)++(Z23.take (Z11.toNat)))=AC (C2 l))))))))))))))))))))) (by kernel_rfl) ?_
 conv=>zeta
 delta ifB vI wR nI
 have hvl:=AI l
 refine ⟨λ c1=>?_,λ c1=>?_⟩
 ·try simp only [nrm] at c1
  have hE:C2 l=[]:=RF (by omega)
  rw [hE];rfl
 try simp only [nrm] at c1
 refine ⟨⟨0,by
  exact ⟨Nat.zero_le _,rfl⟩,?_⟩,?_⟩
 ·refine ⟨rfl,?_,rfl,?_⟩
  ·rfl
  rfl
 intro (k:Nat) hki3
 have hki3:k<=l.length/\(l.take k).all AQ=true:=hki3
 refine And.symm ⟨λ c9=>?_,λ c9=>?_⟩
 ·try simp only [nrm] at c9
  have hk:l.length=k:=by omega
  have hall:l.all AQ=true:=by have:=hki3.2;rwa [← hk,List.take_length] at this
  have hE:=Tg (by omega) hall
  have hsl:=L3 l l.length
  have hvs:=AI (As l k)
  have hvs2:=AI (As l l.length)
  refine ⟨λ c137=>?_,λ c137=>?_⟩
  ·try simp only [nrm] at c137
   rw [hE,hk,Vg (by omega)]
  try simp only [nrm] at c137
  have h3:¬ (As l l.length).length<3:=by rw [hk];omega
  have hE2:=Ti h3
  have hsv:=Vc hall (Nat.le_refl _)
  refine ⟨⟨0,by
   omega,?_⟩,?_⟩
  ·refine ⟨?_,?_,?_⟩
   ·exact Am (by rw [hvs,← hk,AB (by omega) (by omega)];omega)
   ·rw [hk]
   rfl
  intro (j:Nat) hki139
  have hki139:j<=(As l l.length).length:=hki139
  refine ⟨λ c144=>?_,λ c144=>?_⟩
  ·try simp only [nrm] at c144
   have hj:j<(As l l.length).length:=by omega
   have hi:(((((As l l.length).length:Nat):Int)-1-((j:Nat):Int))).toNat=(As l l.length).length-1-j:=by omega
   refine ao (by omega) λ o145=>?_
   refine ao (by omega) λ o146=>?_
   refine ao (by simp only [AI,List.length_append,List.length_take,List.length_drop,List.length_cons,List.length_nil,List.nil_append];omega) λ o147=>?_
   refine ⟨j+1,by
    trivial,by
    omega,?_⟩
   refine ⟨?_,rfl,?_⟩
   ·exact Am (by rw [AB (by omega) (by omega)];omega)
   rw [hi,CX (show (As l l.length).length-1-j<(As l l.length).length by omega),CY (show (As l l.length).length-1-j<(As l l.length).length by omega)];exact Vh hj
  try simp only [nrm] at c144
  have hj:(As l l.length).reverse.take j=(As l l.length).reverse:=List.take_of_length_le (by rw [List.length_reverse];omega)
  have hrl:(As l l.length).reverse.length=(As l l.length).length:=List.length_reverse
  refine ⟨(As l l.length),by
   rfl,by
   exact ⟨hsv,by omega,by omega⟩,?_⟩
  refine ⟨(As l l.length).reverse,by
   rw [hj];rfl,by
   exact ⟨SN hsv,by omega,by omega⟩,?_⟩
  have hA:=SO hsv (by omega)
  have hB:=SO (SN hsv) (by omega)
  have hvA:=AI (chT (As l l.length) (As l l.length).length)
  have hvB:=AI (chT (As l l.length).reverse (As l l.length).reverse.length)
  have hwA:IntKind.i64.wrap ((((AC (chT (As l l.length) (As l l.length).length)).length:Nat):Int)-(1:Int))=(((chT (As l l.length) (As l l.length).length).length-1:Nat):Int):=by rw [hvA,AB (by omega) (by omega)];omega
  have hwB:IntKind.i64.wrap ((((AC (chT (As l l.length).reverse (As l l.length).reverse.length)).length:Nat):Int)-(1:Int))=(((chT (As l l.length).reverse (As l l.length).reverse.length).length-1:Nat):Int):=by rw [hvB,AB (by omega) (by omega)];omega
  refine ao (by rfl) λ o160=>?_
  refine ao (by omega) λ o161=>?_
  refine ao (by omega) λ o162=>?_
  refine ao (by omega) λ o163=>?_
  refine ao (by simp only [AI,List.length_append,List.length_take,List.length_drop,List.length_cons,List.length_nil,List.nil_append];omega) λ o164=>?_
  refine ao (by rfl) λ o165=>?_
  refine ao (by omega) λ o166=>?_
  refine ao (by omega) λ o167=>?_
  refine ao (by omega) λ o168=>?_
  refine ao (by simp only [AI,List.length_append,List.length_take,List.length_drop,List.length_cons,List.length_nil,List.nil_append];omega) λ o169=>?_
  rw [hE,hE2,hwA,hwB,Int.toNat_natCast,Int.toNat_natCast,List.nil_append,Pk,Pk,NM]
 try simp only [nrm] at c9
 have hkl:k<l.length:=by omega
 have hsl:=L3 l k
 have hvs:=AI (As l k)
 refine ao (by omega) λ o10=>?_
 refine ao (by omega) λ o11=>?_
 refine ⟨((l.getD k (0,0)).1,(l.getD k (0,0)).2),by
  rw [CX hkl,CY hkl];rfl,by
  trivial,?_⟩
 refine ⟨λ c15=>?_,λ c15=>?_⟩
 ·try simp only [nrm] at c15
  have hE:C2 l=[]:=Ve hkl c15
  rw [hE];rfl
 try simp only [nrm] at c15
 refine ⟨⟨0,by
  exact ⟨Nat.zero_le _,λ j hj=>absurd hj (Nat.not_lt_zero j)⟩,?_⟩,?_⟩
 ·refine ⟨rfl,rfl,?_,rfl,rfl,rfl,rfl⟩
  rfl
 intro (n:Nat) hki17
 have hki17:n<=(As l k).length/\∀ j,j<n->Cv ((As l k).getD j (0,0)) (l.getD k (0,0))=true:=hki17
 refine And.symm ⟨λ c26=>?_,λ c26=>?_⟩
 ·try simp only [nrm] at c26
  refine ⟨λ c90=>?_,λ c90=>?_⟩
  ·try simp only [nrm] at c90
   exfalso;omega -- done
  try simp only [nrm] at c90
  refine ao (by rfl) λ o119=>?_
  refine ao (by omega) λ o120=>?_
  refine ao (by omega) λ o121=>?_
  refine ao (by omega) λ o122=>?_
  refine ao (by simp only [AI,List.length_append,List.length_take,List.length_drop,List.length_cons,List.length_nil,List.nil_append];omega) λ o123=>?_
  refine ao (by simp only [AI,List.length_append,List.length_take,List.length_drop,List.length_cons,List.length_nil,List.nil_append];omega) λ o124=>?_
  refine ao (by rfl) λ o125=>?_
  refine ao (by omega) λ o126=>?_
  refine ao (by omega) λ o127=>?_
  refine ao (by omega) λ o128=>?_
  refine ao (by simp only [AI,List.length_append,List.length_take,List.length_drop,List.length_cons,List.length_nil,List.nil_append];omega) λ o129=>?_
  refine ⟨k+1,by
   exact ⟨by omega,N6 hkl hki3.2 c15⟩,by
   omega,?_⟩
  refine ⟨rfl,?_,rfl,?_⟩
  ·exact Am (AB (by omega) (by omega))
  rw [CX hkl,CY hkl,Pm,SM (by omega) hki17.2 (λ h=>absurd h (by omega)) (λ h=>absurd h (by omega))]
 try simp only [nrm] at c26
 have hn:n<(As l k).length:=by omega
 refine ao (by omega) λ o27=>?_
 refine ao (by omega) λ o28=>?_
 refine ⟨(((As l k).getD n (0,0)).1,((As l k).getD n (0,0)).2,(l.getD k (0,0)).1,(l.getD k (0,0)).2),by
  rw [CX hn,CY hn,CX hkl,CY hkl];rfl,by
  trivial,?_⟩
 refine ⟨λ c32=>?_,λ c32=>?_⟩
 ·try simp only [nrm] at c32
  refine ⟨n+1,by
   exact ⟨by omega,Vd hki17.2 c32⟩,by
   omega,?_⟩
  refine ⟨rfl,rfl,?_,rfl,rfl,rfl,rfl⟩
  exact Am (AB (by omega) (by omega))
 try simp only [nrm] at c32
 refine And.symm ⟨λ c43=>?_,λ c43=>?_⟩
 ·try simp only [nrm] at c43
  exfalso;omega -- done
 try simp only [nrm] at c43
 refine ao (by omega) λ o44=>?_
 refine ao (by omega) λ o45=>?_
 refine ⟨λ c46=>?_,λ c46=>?_⟩
 ·try dsimp only at c46
  try simp only [nrm] at c46
  rw [CX hn,CY hn,CX hkl,CY hkl] at c46
  have hq:=Wl c46
  refine ⟨k+1,by
   exact ⟨by omega,N6 hkl hki3.2 c15⟩,by
   omega,?_⟩
  refine ⟨rfl,?_,rfl,?_⟩
  ·exact Am (AB (by omega) (by omega))
  rw [Vf hn hki17.2 c32 hq]
 try dsimp only at c46
 try simp only [nrm] at c46
 rw [CX hn,CY hn,CX hkl,CY hkl] at c46
 refine ao (by rfl) λ o54=>?_
 refine ao (by omega) λ o55=>?_
 refine ao (by omega) λ o56=>?_
 refine ao (by omega) λ o57=>?_
 refine ao (by simp only [AI,List.length_append,List.length_take,List.length_drop,List.length_cons,List.length_nil,List.nil_append];omega) λ o58=>?_
 refine ao (by simp only [AI,List.length_append,List.length_take,List.length_drop,List.length_cons,List.length_nil,List.nil_append];omega) λ o59=>?_
 refine ao (by rfl) λ o60=>?_
 refine ao (by omega) λ o61=>?_
 refine ao (by omega) λ o62=>?_
 refine ao (by omega) λ o63=>?_
 refine ao (by simp only [AI,List.length_append,List.length_take,List.length_drop,List.length_cons,List.length_nil,List.nil_append];omega) λ o64=>?_
 refine ⟨k+1,by
  exact ⟨by omega,N6 hkl hki3.2 c15⟩,by
  omega,?_⟩
 refine ⟨rfl,?_,rfl,?_⟩
 ·exact Am (AB (by omega) (by omega))
 rw [CX hkl,CY hkl,Pm,SM (by omega) hki17.2 (λ _=>c32) (λ _ e=>c46 (by rw [e]))]
end Go.Proofs.YtndnhlhnjiopfaaGreat
