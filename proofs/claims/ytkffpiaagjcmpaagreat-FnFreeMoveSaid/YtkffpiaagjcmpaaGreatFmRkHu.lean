import Derived.Test.YtkffpiaagjcmpaaGreatProg
import Derived.Shelf.SlGeneric
import Derived.Shelf.SlLaysE0
import Derived.Shelf.SlLaysF0
import Derived.Test.YtkffpiaagjcmpaaGreatFmHuv
namespace Go.Proofs.YtkffpiaagjcmpaaGreat
set_option linter.unusedVariables false
open Go.Shelf
def Zm:Go.Shelf.Ren:=⟨fun|6=>176|15=>155|14=>203|28=>191|29=>192|20=>214|21=>215|22=>216|23=>217|24=>218|25=>219|26=>220|27=>221|46=>223|47=>206|48=>207|49=>224|50=>225|57=>226|n=>n,fun|22=>25|24=>24|25=>160|3=>3|39=>100|0=>0|53=>172|55=>174|4=>4|46=>165|45=>164|50=>169|5=>5|9=>9|66=>180|70=>184|76=>191|77=>192|n=>n,fun|n=>n⟩
theorem ADa:Go.Proofs.SlLaysF0.n6 Tryz.prog Zm:={
 mixed:=by kernel_rfl,
 f6:=⟨ "slices.SortFunc[[]loop.example/g00811/impl.Vec,loop.example/g00811/impl.Vec]",by decide,Tryz.func176.trans (congrArg some (by kernel_rfl))⟩,
 f14:=⟨ "slices.pdqsortCmpFunc[loop.example/g00811/impl.Vec]",by decide,Tryz.func203.trans (congrArg some (by kernel_rfl))⟩,
 f15:=Tryz.func155.trans (congrArg some (by kernel_rfl)),
 f20:=⟨ "slices.insertionSortCmpFunc[loop.example/g00811/impl.Vec]",by decide,Tryz.func214.trans (congrArg some (by kernel_rfl))⟩,
 f21:=⟨ "slices.heapSortCmpFunc[loop.example/g00811/impl.Vec]",by decide,Tryz.func215.trans (congrArg some (by kernel_rfl))⟩,
 f22:=⟨ "slices.breakPatternsCmpFunc[loop.example/g00811/impl.Vec]",by decide,Tryz.func216.trans (congrArg some (by kernel_rfl))⟩,
 f23:=⟨ "slices.choosePivotCmpFunc[loop.example/g00811/impl.Vec]",by decide,Tryz.func217.trans (congrArg some (by kernel_rfl))⟩,
 f24:=⟨ "slices.reverseRangeCmpFunc[loop.example/g00811/impl.Vec]",by decide,Tryz.func218.trans (congrArg some (by kernel_rfl))⟩,
 f25:=⟨ "slices.partialInsertionSortCmpFunc[loop.example/g00811/impl.Vec]",by decide,Tryz.func219.trans (congrArg some (by kernel_rfl))⟩,
 f26:=⟨ "slices.partitionEqualCmpFunc[loop.example/g00811/impl.Vec]",by decide,Tryz.func220.trans (congrArg some (by kernel_rfl))⟩,
 f27:=⟨ "slices.partitionCmpFunc[loop.example/g00811/impl.Vec]",by decide,Tryz.func221.trans (congrArg some (by kernel_rfl))⟩,
 f28:=Tryz.func191.trans (congrArg some (by kernel_rfl)),
 f29:=Tryz.func192.trans (congrArg some (by kernel_rfl)),
 f46:=⟨ "slices.siftDownCmpFunc[loop.example/g00811/impl.Vec]",by decide,Tryz.func223.trans (congrArg some (by kernel_rfl))⟩,
 f47:=Tryz.func206.trans (congrArg some (by kernel_rfl)),
 f48:=Tryz.func207.trans (congrArg some (by kernel_rfl)),
 f49:=⟨ "slices.medianAdjacentCmpFunc[loop.example/g00811/impl.Vec]",by decide,Tryz.func224.trans (congrArg some (by kernel_rfl))⟩,
 f50:=⟨ "slices.medianCmpFunc[loop.example/g00811/impl.Vec]",by decide,Tryz.func225.trans (congrArg some (by kernel_rfl))⟩,
 f57:=⟨ "slices.order2CmpFunc[loop.example/g00811/impl.Vec]",by decide,Tryz.func226.trans (congrArg some (by kernel_rfl))⟩,
 t0:=Tryz.underlying0,
 a0:=Tryz.isAgg0,
 z0:=Tryz.sizeOf0,
 v0:=Tryz.zeroValue0,
 t3:=Tryz.underlying3,
 a3:=Tryz.isAgg3,
 z3:=Tryz.sizeOf3,
 v3:=Tryz.zeroValue3,
 t4:=Tryz.underlying4,
 a4:=Tryz.isAgg4,
 z4:=Tryz.sizeOf4,
 v4:=Tryz.zeroValue4,
 t5:=Tryz.underlying5,
 a5:=Tryz.isAgg5,
 z5:=Tryz.sizeOf5,
 v5:=Tryz.zeroValue5,
 t9:=Tryz.underlying9,
 a9:=Tryz.isAgg9,
 z9:=Tryz.sizeOf9,
 v9:=Tryz.zeroValue9,
 t22:=Tryz.underlying25,
 a22:=Tryz.isAgg25,
 z22:=Tryz.sizeOf25,
 v22:=Tryz.zeroValue25,
 t25:=Tryz.underlying160,
 a25:=Tryz.isAgg160,
 z25:=Tryz.sizeOf160,
 v25:=Tryz.zeroValue160,
 t39:=Tryz.underlying100,
 a39:=Tryz.isAgg100,
 z39:=Tryz.sizeOf100,
 v39:=Tryz.zeroValue100,
 t45:=Tryz.underlying164,
 a45:=Tryz.isAgg164,
 z45:=Tryz.sizeOf164,
 v45:=Tryz.zeroValue164,
 t46:=Tryz.underlying165,
 a46:=Tryz.isAgg165,
 z46:=Tryz.sizeOf165,
 v46:=Tryz.zeroValue165,
 t50:=Tryz.underlying169,
 a50:=Tryz.isAgg169,
 z50:=Tryz.sizeOf169,
 v50:=Tryz.zeroValue169,
 t53:=Tryz.underlying172,
 a53:=Tryz.isAgg172,
 z53:=Tryz.sizeOf172,
 v53:=Tryz.zeroValue172,
 t55:=Tryz.underlying174,
 a55:=Tryz.isAgg174,
 z55:=Tryz.sizeOf174,
 v55:=Tryz.zeroValue174,
 t66:=Tryz.underlying180,
 a66:=Tryz.isAgg180,
 z66:=Tryz.sizeOf180,
 v66:=Tryz.zeroValue180,
 t70:=Tryz.underlying184,
 a70:=Tryz.isAgg184,
 z70:=Tryz.sizeOf184,
 v70:=Tryz.zeroValue184,
 t76:=Tryz.underlying191,
 a76:=Tryz.isAgg191,
 z76:=Tryz.sizeOf191,
 v76:=Tryz.zeroValue191,
 t77:=Tryz.underlying192,
 a77:=Tryz.isAgg192,
 z77:=Tryz.sizeOf192,
 v77:=Tryz.zeroValue192 }
def Zn:Go.Shelf.Ren:=⟨fun|35=>180|n=>n,fun|22=>25|23=>24|3=>3|4=>4|0=>0|n=>n,fun|n=>n⟩
theorem ADb:Go.Proofs.SlLaysE0.n35 Tryz.prog Zn:={
 mixed:=by kernel_rfl,
 f35:=⟨ "slices.Reverse[[]loop.example/g00811/impl.Vec,loop.example/g00811/impl.Vec]",by decide,Tryz.func180.trans (congrArg some (by kernel_rfl))⟩,
 t0:=Tryz.underlying0,
 a0:=Tryz.isAgg0,
 z0:=Tryz.sizeOf0,
 v0:=Tryz.zeroValue0,
 t3:=Tryz.underlying3,
 a3:=Tryz.isAgg3,
 z3:=Tryz.sizeOf3,
 v3:=Tryz.zeroValue3,
 t4:=Tryz.underlying4,
 a4:=Tryz.isAgg4,
 z4:=Tryz.sizeOf4,
 v4:=Tryz.zeroValue4,
 t22:=Tryz.underlying25,
 a22:=Tryz.isAgg25,
 z22:=Tryz.sizeOf25,
 v22:=Tryz.zeroValue25 }
end Go.Proofs.YtkffpiaagjcmpaaGreat
namespace Go.Proofs.YtkffpiaagjcmpaaGreat
set_option maxRecDepth 100000
set_option linter.unusedVariables false
set_option linter.unusedSimpArgs false
open Go.RowKit Go.Sort Go.Shelf
def GU:Con:={ ι:=Int×Int×Int×Int×Int×Int,pre:=λ i=>AF (i.1,i.2.1)=true/\AF (i.2.2.1,i.2.2.2.1)=true/\AF (i.2.2.2.2.1,i.2.2.2.2.2)=true,args:=λ i=>[DA.agg [cI i.1,cI i.2.1],DA.agg [cI i.2.2.1,cI i.2.2.2.1],DA.agg [cI i.2.2.2.2.1,cI i.2.2.2.2.2]],res:=λ i=>⟨false,[none],[rcI (AG (i.1,i.2.1) (i.2.2.1,i.2.2.2.1) (i.2.2.2.2.1,i.2.2.2.2.2))]⟩ }
theorem Zo:GU.Ok Tryz.prog 41:=C3 rfl ⟨_,Tryz.func41,by decide,rfl⟩ (λ _=>Nat.le_of_ble_eq_true rfl) (λ _=>rfl) (λ i=>[.im (.int .i64 (AG (i.1,i.2.1) (i.2.2.1,i.2.2.2.1) (i.2.2.2.2.1,i.2.2.2.2.2)))]) (λ _=>rfl) (λ _=>rfl) (λ i hp w us h=>by
 obtain ⟨a1,a2,b1,b2,c1,c2⟩:=i
 have h:RdRow w [.int,.int,.int,.int,.int,.int] [.int a1,.int a2,.int b1,.int b2,.int c1,.int c2] us:=h
 obtain ⟨x1,_,rfl,q1,h⟩:=RdRow.cons2 h
 obtain ⟨x2,_,rfl,q2,h⟩:=RdRow.cons2 h
 obtain ⟨x3,_,rfl,q3,h⟩:=RdRow.cons2 h
 obtain ⟨x4,_,rfl,q4,h⟩:=RdRow.cons2 h
 obtain ⟨x5,_,rfl,q5,h⟩:=RdRow.cons2 h
 obtain ⟨x6,_,rfl,q6,h⟩:=RdRow.cons2 h
 obtain ⟨-,rfl⟩:=RdRow.nil_inv h
 obtain rfl:=Rd.int2 q1
 obtain rfl:=Rd.int2 q2
 obtain rfl:=Rd.int2 q3
 obtain rfl:=Rd.int2 q4
 obtain rfl:=Rd.int2 q5
 obtain rfl:=Rd.int2 q6
 refine (Y9 a1 a2 b1 b2 c1 c2 hp.1 hp.2.1 hp.2.2 w).mono ?_
 rintro e w' ⟨rfl,hb⟩
 exact ⟨[Value.int .i64 (AG (a1,a2) (b1,b2) (c1,c2))],rfl,Own.leaf (Fp.mk_int _),hb⟩)
def GV:Con:={ ι:=Int×Int×Int×Int×Int×Int,pre:=λ i=>AF (i.1,i.2.1)=true/\AF (i.2.2.1,i.2.2.2.1)=true/\AF (i.2.2.2.2.1,i.2.2.2.2.2)=true,args:=λ i=>[DA.agg [cI i.1,cI i.2.1],DA.agg [cI i.2.2.1,cI i.2.2.2.1],DA.agg [cI i.2.2.2.2.1,cI i.2.2.2.2.2]],res:=λ i=>⟨false,[none],[rcI (AG (i.1,i.2.1) (i.2.2.1,i.2.2.2.1) (i.2.2.2.2.1,i.2.2.2.2.2))]⟩ }
theorem Zp:GV.Ok Tryz.prog 162:=C3 rfl ⟨_,Tryz.func162,by decide,rfl⟩ (λ _=>Nat.le_of_ble_eq_true rfl) (λ _=>rfl) (λ i=>[.im (.int .i64 (AG (i.1,i.2.1) (i.2.2.1,i.2.2.2.1) (i.2.2.2.2.1,i.2.2.2.2.2)))]) (λ _=>rfl) (λ _=>rfl) (λ i hp w us h=>by
 obtain ⟨a1,a2,b1,b2,c1,c2⟩:=i
 have h:RdRow w [.int,.int,.int,.int,.int,.int] [.int a1,.int a2,.int b1,.int b2,.int c1,.int c2] us:=h
 obtain ⟨x1,_,rfl,q1,h⟩:=RdRow.cons2 h
 obtain ⟨x2,_,rfl,q2,h⟩:=RdRow.cons2 h
 obtain ⟨x3,_,rfl,q3,h⟩:=RdRow.cons2 h
 obtain ⟨x4,_,rfl,q4,h⟩:=RdRow.cons2 h
 obtain ⟨x5,_,rfl,q5,h⟩:=RdRow.cons2 h
 obtain ⟨x6,_,rfl,q6,h⟩:=RdRow.cons2 h
 obtain ⟨-,rfl⟩:=RdRow.nil_inv h
 obtain rfl:=Rd.int2 q1
 obtain rfl:=Rd.int2 q2
 obtain rfl:=Rd.int2 q3
 obtain rfl:=Rd.int2 q4
 obtain rfl:=Rd.int2 q5
 obtain rfl:=Rd.int2 q6
 refine (ZA a1 a2 b1 b2 c1 c2 hp.1 hp.2.1 hp.2.2 w).mono ?_
 rintro e w' ⟨rfl,hb⟩
 exact ⟨[Value.int .i64 (AG (a1,a2) (b1,b2) (c1,c2))],rfl,Own.leaf (Fp.mk_int _),hb⟩)
def Fl:Con:={ ι:=Int×Int×Int×Int,pre:=λ i=>True,args:=λ i=>[DA.agg [cI i.1,cI i.2.1],DA.agg [cI i.2.2.1,cI i.2.2.2]],res:=λ i=>⟨false,[none],[rcB (Af (i.1,i.2.1) (i.2.2.1,i.2.2.2))]⟩ }
theorem Uo:Fl.Ok Tryz.prog 159:=by
 refine fok (X:=⟨tt,[],[],24,[]⟩) mixed AI (CTok.nil _) Tryz.func159 (λ _=>[]) ?_
 rintro ⟨a1,a2,b1,b2⟩ hpre
 have hpre:True:=hpre
 refine AH (q:=let Z1:=Af (a1,a2) (b1,b2);ifB ((!(decide (a1<b1)))) (ifB ((a1 == b1)) ((vB (decide (a2<b2))=vB Z1)) ((vB false=vB Z1))) ((vB true=vB Z1))) (by kernel_rfl) ?_
 conv=>zeta
 delta ifB vB
 refine And.symm ⟨λ c1=>?_,λ c1=>?_⟩
 ·try simp only [nrm] at c1
  exact congrArg Value.bool (by unfold Af;simp_all)
 try simp only [nrm] at c1
 refine ⟨λ c2=>?_,λ c2=>?_⟩
 ·try simp only [nrm] at c2
  exact congrArg Value.bool (by unfold Af;simp_all)
 try simp only [nrm] at c2
 exact congrArg Value.bool (by unfold Af;simp_all)
def EE:Con:={ ι:=(List V2),pre:=λ i=>i.all AF=true/\0<i.length/\i.length<=64,args:=λ i=>[.one (DC.sl 24 [.int,.int] (AA i))],res:=λ i=>⟨false,[none],[.own 24 [.int,.int] (AA (A9 i))]⟩ }
theorem XS:EE.Ok Tryz.prog 179:=by
 refine fok (X:=⟨tt,[(41,GU)],[37,47],48,[]⟩) mixed AI (CTok.cons Zo (CTok.nil _)) Tryz.func179 (λ (i:(List V2))=>[(3,.mk 3 (Nat) (λ x1=>{ tm:=[(7,tX 1),(8,tI (nI ((AA i).length))),(9,tI (nI x1)),(3,tX 2)],en:=[(1,.view 24 [.int,.int] (AA i) []),(2,.own 24 [.int,.int] (AA (chT i x1)))] }) (λ x1=>x1<=i.length) (λ x1=>i.length-x1) (λ x1=>[(5,.mk 4 ((List V2)) (λ x2=>{ tm:=[(7,tX 1),(8,tI (nI ((AA i).length))),(9,tI (nI x1)),(5,tP 2 0),(3,tX 3)],en:=[(2,.box [kI (((((AA i).getD x1 []).getD 0 (.int 0))).n),kI (((((AA i).getD x1 []).getD 1 (.int 0))).n)]),(1,.view 24 [.int,.int] (AA i) []),(3,.own 24 [.int,.int] (AA x2))] }) (λ x2=>CV x2 (i.getD x1 (0,0))=CV (chT i x1) (i.getD x1 (0,0))/\x2.length<=x1/\x2.all AF=true) (λ x2=>x2.length) (λ _=>[]))]))]) ?_
 intro (l:List V2) hpre
 have hpre:l.all AF=true/\0<l.length/\l.length<=64:=hpre
 refine AH (q:=let Z6:=vI (nI ((AA l).length));(∃ x1:Nat,(x1<=l.length)/\((rf Z6)/\(vI (0:Int)=vI (nI x1))/\(rf (AA l))/\(([]:List (List Dat))=(AA (chT l x1)))))/\∀ x1:Nat,let Z16:=wR ((nI x1)+(1:Int));let Z15:=chT l x1;let Z12:=AA Z15;let Z11:=l.getD x1 (0,0);let Z7:=wR ((nI (Z12.length))-(1:Int));let Z2:=(AA l).getD x1 [];let Z10:=(Z2.getD 1 (.int 0));let Z9:=(Z2.getD 0 (.int 0));(x1<=l.length)->(ifB ((decide ((nI x1)<(nI ((AA l).length))))) ((0<=(nI x1)/\(nI x1)<((AA l).length:Int))/\((x1<(AA l).length)/\((∃ x2:(List V2),(CV x2 Z11=CV Z15 Z11/\x2.length<=x1/\x2.all AF=true)/\((rf Z6)/\(rf (vI (nI x1)))/\(rf (vI Z9.n))/\(rf (vI Z10.n))/\(rf (AA l))/\(Z12=(AA x2))))/\∀ x2:(List V2),let Z8:=AA x2;let Z14:=nI (Z8.length);let Z13:=(Z8.length:Int);let Z5:=Z8++([[Dat.int (Z9.n),Dat.int (Z10.n)]]:List (List Dat));let Z4:=Z8.length+([[Dat.int (Z9.n),Dat.int (Z10.n)]]:List (List Dat)).length<=2199023255552;let Z3:=wR (Z14-(2:Int));let Z1:=wR (Z14-(1:Int));(CV x2 Z11=CV Z15 Z11/\x2.length<=x1/\x2.all AF=true)->(ifB ((decide (Z14>(1:Int)))) ((0<=Z3/\Z3<Z13)/\((Z3.toNat<Z8.length)/\((0<=Z1/\Z1<Z13)/\((Z1.toNat<Z8.length)/\(∃ i1:Int×Int×Int×Int×Int×Int,[DA.agg [cI ((((Z8.getD (Z3.toNat) []).getD 0 (.int 0))).n),cI ((((Z8.getD (Z3.toNat) []).getD 1 (.int 0))).n)],DA.agg [cI ((((Z8.getD (Z1.toNat) []).getD 0 (.int 0))).n),cI ((((Z8.getD (Z1.toNat) []).getD 1 (.int 0))).n)],DA.agg [cI (Z9.n),cI (Z10.n)]]=GU.args i1/\GU.pre i1/\(ifB ((decide ((AG (i1.1,i1.2.1) (i1.2.2.1,i1.2.2.2.1) (i1.2.2.2.2.1,i1.2.2.2.2.2))<=(0:Int)))) ((Nat.beq 2 2=true)/\(((0:Int)=0)/\((0<=Z1)/\((Z1<=Z13)/\(∃ y3:(List V2),(CV y3 Z11=CV Z15 Z11/\y3.length<=x1/\y3.all AF=true)/\(y3.length<x2.length)/\((rf Z6)/\(rf (vI (nI x1)))/\(rf (vI Z9.n))/\(rf (vI Z10.n))/\(rf (AA l))/\((Z8.take (Z1.toNat))=(AA y3)))))))) (Z4/\(∃ y4:Nat,(y4<=l.length)/\(l.length-y4<l.length-x1)/\((rf Z6)/\(vI Z16=vI (nI y4))/\(rf (AA l))/\(Z5=(AA (chT l y4)))))))))))) (Z4/\(∃ y5:Nat,(y5<=l.length)/\(l.length-y5<l.length-x1)/\((rf Z6)/\(vI Z16=vI (nI y5))/\(rf (AA l))/\(Z5=(AA (chT l y5)))))))))) ((Nat.beq 2 2=true)/\(((0:Int)=0)/\((0<=Z7)/\((Z7<=(Z12.length:Int))/\(((Z12.take (Z7.toNat))=AA (A9 l))))))))) (by kernel_rfl) ?_
 conv=>zeta
 delta ifB vI wR nI
 have hvl:=AC l
 refine ⟨⟨0,by
  omega,?_⟩,?_⟩
 ·refine ⟨rfl,?_,rfl,?_⟩
  ·rfl
  rfl
 intro (k:Nat) hki1
 have hki1:k<=l.length:=hki1
 refine And.symm ⟨λ c7=>?_,λ c7=>?_⟩
 ·try simp only [nrm] at c7
  have hk:l.length=k:=by omega
  have hcb:=LG hpre.1 k (by omega)
  have hp:0<(chT l k).length:=by obtain ⟨m,rfl⟩:∃ m,k=m+1:=⟨k-1,by omega⟩;exact Vk l m
  have hvc:=AC (chT l k)
  have hw3:IntKind.i64.wrap ((((AA (chT l k)).length:Nat):Int)-(1:Int))=(((chT l k).length-1:Nat):Int):=by rw [hvc,AB (by omega) (by omega)];omega
  refine ao (by rfl) λ o56=>?_
  refine ao (by rfl) λ o57=>?_
  refine ao (by omega) λ o58=>?_
  refine ao (by omega) λ o59=>?_
  rw [hw3,Int.toNat_natCast];show _=AA (MC (chT l l.length));rw [hk];simp [AA,MC,List.map_take]
 try simp only [nrm] at c7
 have hkl:k<l.length:=by omega
 have hV:=A3 hpre.1 hkl
 have hcb:=LG hpre.1 k (by omega)
 refine ao (by omega) λ o8=>?_
 refine ao (by omega) λ o9=>?_
 refine ⟨⟨chT l k,by
  exact ⟨rfl,hcb.1,hcb.2⟩,?_⟩,?_⟩
 ·exact ⟨rfl,rfl,rfl,rfl,rfl,rfl⟩
 intro (o:List V2) hki10
 have hki10:CV o (l.getD k (0,0))=CV (chT l k) (l.getD k (0,0))/\o.length<=k/\o.all AF=true:=hki10
 have hvo:=AC o
 refine And.symm ⟨λ c18=>?_,λ c18=>?_⟩
 ·try simp only [nrm] at c18
  have hn:CV o (l.getD k (0,0))=o:=DQ (λ h=>by omega)
  refine ao (by simp only [AC,List.length_cons,List.length_nil];omega) λ o48=>?_
  refine ⟨k+1,by
   trivial,by
   omega,?_⟩
  refine ⟨rfl,?_,rfl,?_⟩
  ·exact Aa (AB (by omega) (by omega))
  rw [BD hkl,BE hkl,← J2 hki10.1 hn];simp [AA,Iu]
 try simp only [nrm] at c18
 have ho:1<o.length:=by omega
 have hw2:IntKind.i64.wrap ((((AA o).length:Nat):Int)-(2:Int))=((o.length-2:Nat):Int):=by rw [hvo,AB (by omega) (by omega)];omega
 have hw1:IntKind.i64.wrap ((((AA o).length:Nat):Int)-(1:Int))=((o.length-1:Nat):Int):=by rw [hvo,AB (by omega) (by omega)];omega
 refine ao (by omega) λ o19=>?_
 refine ao (by omega) λ o20=>?_
 refine ao (by omega) λ o21=>?_
 refine ao (by omega) λ o22=>?_
 refine ⟨((o.getD (o.length-2) (0,0)).1,(o.getD (o.length-2) (0,0)).2,(o.getD (o.length-1) (0,0)).1,(o.getD (o.length-1) (0,0)).2,(l.getD k (0,0)).1,(l.getD k (0,0)).2),by
  rw [hw2,hw1,Int.toNat_natCast,Int.toNat_natCast,BD (show o.length-2<o.length by omega),BE (show o.length-2<o.length by omega),BD (show o.length-1<o.length by omega),BE (show o.length-1<o.length by omega),BD hkl,BE hkl];rfl,by
  try dsimp only [GU]
  exact ⟨A3 hki10.2.2 (show o.length-2<o.length by omega),A3 hki10.2.2 (show o.length-1<o.length by omega),hV⟩,?_⟩
 refine And.symm ⟨λ c26=>?_,λ c26=>?_⟩
 ·try dsimp only at c26
  try simp only [nrm] at c26
  have hn:CV o (l.getD k (0,0))=o:=DQ (λ h=>Int.not_le.2 c26 h.2)
  refine ao (by simp only [AC,List.length_cons,List.length_nil];omega) λ o40=>?_
  refine ⟨k+1,by
   trivial,by
   omega,?_⟩
  refine ⟨rfl,?_,rfl,?_⟩
  ·exact Aa (AB (by omega) (by omega))
  rw [BD hkl,BE hkl,← J2 hki10.1 hn];simp [AA,Iu]
 try dsimp only at c26
 try simp only [nrm] at c26
 refine ao (by rfl) λ o27=>?_
 refine ao (by rfl) λ o28=>?_
 refine ao (by omega) λ o29=>?_
 refine ao (by omega) λ o30=>?_
 refine ⟨o.take (o.length-1),by
  exact ⟨(J1 ho c26).trans hki10.1,by simp only [List.length_take];omega,by rw [List.all_eq_true];exact λ x hx=>List.all_eq_true.1 hki10.2.2 x (List.mem_of_mem_take hx)⟩,by
  simp only [List.length_take];omega,?_⟩
 refine ⟨rfl,rfl,rfl,rfl,rfl,?_⟩
 rw [hw1,Int.toNat_natCast];simp [AA,List.map_take]
def EF:Con:={ ι:=(List V2),pre:=λ i=>i.all AF=true/\0<i.length/\i.length<=64,args:=λ i=>[.one (DC.sl 24 [.int,.int] (AA i))],res:=λ i=>⟨false,[none],[.own 24 [.int,.int] (AA (chT i i.length))]⟩ }
theorem XT:EF.Ok Tryz.prog 160:=by
 refine fok (X:=⟨tt,[(162,GV)],[37],44,[]⟩) mixed AI (CTok.cons Zp (CTok.nil _)) Tryz.func160 (λ (i:(List V2))=>[(3,.mk 3 (Nat) (λ x1=>{ tm:=[(7,tX 1),(8,tI (nI ((AA i).length))),(9,tI (nI x1)),(3,tX 2)],en:=[(1,.view 24 [.int,.int] (AA i) []),(2,.own 24 [.int,.int] (AA (chT i x1)))] }) (λ x1=>x1<=i.length) (λ x1=>i.length-x1) (λ x1=>[(5,.mk 4 ((List V2)) (λ x2=>{ tm:=[(7,tX 1),(8,tI (nI ((AA i).length))),(9,tI (nI x1)),(5,tP 2 0),(3,tX 3)],en:=[(2,.box [kI (((((AA i).getD x1 []).getD 0 (.int 0))).n),kI (((((AA i).getD x1 []).getD 1 (.int 0))).n)]),(1,.view 24 [.int,.int] (AA i) []),(3,.own 24 [.int,.int] (AA x2))] }) (λ x2=>CV x2 (i.getD x1 (0,0))=CV (chT i x1) (i.getD x1 (0,0))/\x2.length<=x1/\x2.all AF=true) (λ x2=>x2.length) (λ _=>[]))]))]) ?_
 intro (l:List V2) hpre
 have hpre:l.all AF=true/\0<l.length/\l.length<=64:=hpre
 refine AH (q:=let Z6:=vI (nI ((AA l).length));(∃ x1:Nat,(x1<=l.length)/\((rf Z6)/\(vI (0:Int)=vI (nI x1))/\(rf (AA l))/\(([]:List (List Dat))=(AA (chT l x1)))))/\∀ x1:Nat,let Z14:=wR ((nI x1)+(1:Int));let Z11:=chT l x1;let Z10:=l.getD x1 (0,0);let Z2:=(AA l).getD x1 [];let Z9:=(Z2.getD 1 (.int 0));let Z8:=(Z2.getD 0 (.int 0));(x1<=l.length)->(ifB ((decide ((nI x1)<(nI ((AA l).length))))) ((0<=(nI x1)/\(nI x1)<((AA l).length:Int))/\((x1<(AA l).length)/\((∃ x2:(List V2),(CV x2 Z10=CV Z11 Z10/\x2.length<=x1/\x2.all AF=true)/\((rf Z6)/\(rf (vI (nI x1)))/\(rf (vI Z8.n))/\(rf (vI Z9.n))/\(rf (AA l))/\((AA Z11)=(AA x2))))/\∀ x2:(List V2),let Z7:=AA x2;let Z13:=nI (Z7.length);let Z12:=(Z7.length:Int);let Z5:=Z7++([[Dat.int (Z8.n),Dat.int (Z9.n)]]:List (List Dat));let Z4:=Z7.length+([[Dat.int (Z8.n),Dat.int (Z9.n)]]:List (List Dat)).length<=2199023255552;let Z3:=wR (Z13-(2:Int));let Z1:=wR (Z13-(1:Int));(CV x2 Z10=CV Z11 Z10/\x2.length<=x1/\x2.all AF=true)->(ifB ((decide (Z13>(1:Int)))) ((0<=Z3/\Z3<Z12)/\((Z3.toNat<Z7.length)/\((0<=Z1/\Z1<Z12)/\((Z1.toNat<Z7.length)/\(∃ i1:Int×Int×Int×Int×Int×Int,[DA.agg [cI ((((Z7.getD (Z3.toNat) []).getD 0 (.int 0))).n),cI ((((Z7.getD (Z3.toNat) []).getD 1 (.int 0))).n)],DA.agg [cI ((((Z7.getD (Z1.toNat) []).getD 0 (.int 0))).n),cI ((((Z7.getD (Z1.toNat) []).getD 1 (.int 0))).n)],DA.agg [cI (Z8.n),cI (Z9.n)]]=GV.args i1/\GV.pre i1/\(ifB ((decide ((AG (i1.1,i1.2.1) (i1.2.2.1,i1.2.2.2.1) (i1.2.2.2.2.1,i1.2.2.2.2.2))<=(0:Int)))) ((Nat.beq 2 2=true)/\(((0:Int)=0)/\((0<=Z1)/\((Z1<=Z12)/\(∃ y3:(List V2),(CV y3 Z10=CV Z11 Z10/\y3.length<=x1/\y3.all AF=true)/\(y3.length<x2.length)/\((rf Z6)/\(rf (vI (nI x1)))/\(rf (vI Z8.n))/\(rf (vI Z9.n))/\(rf (AA l))/\((Z7.take (Z1.toNat))=(AA y3)))))))) (Z4/\(∃ y4:Nat,(y4<=l.length)/\(l.length-y4<l.length-x1)/\((rf Z6)/\(vI Z14=vI (nI y4))/\(rf (AA l))/\(Z5=(AA (chT l y4)))))))))))) (Z4/\(∃ y5:Nat,(y5<=l.length)/\(l.length-y5<l.length-x1)/\((rf Z6)/\(vI Z14=vI (nI y5))/\(rf (AA l))/\(Z5=(AA (chT l y5)))))))))) (((AA Z11)=AA (chT l l.length))))) (by kernel_rfl) ?_
 conv=>zeta
 delta ifB vI wR nI
 have hvl:=AC l
 refine ⟨⟨0,by
  omega,?_⟩,?_⟩
 ·refine ⟨rfl,?_,rfl,?_⟩
  ·rfl
  rfl
 intro (k:Nat) hki1
 have hki1:k<=l.length:=hki1
 refine And.symm ⟨λ c7=>?_,λ c7=>?_⟩
 ·try simp only [nrm] at c7
  rw [show l.length=k by omega]
 try simp only [nrm] at c7
 have hkl:k<l.length:=by omega
 have hV:=A3 hpre.1 hkl
 have hcb:=LG hpre.1 k (by omega)
 refine ao (by omega) λ o8=>?_
 refine ao (by omega) λ o9=>?_
 refine ⟨⟨chT l k,by
  exact ⟨rfl,hcb.1,hcb.2⟩,?_⟩,?_⟩
 ·exact ⟨rfl,rfl,rfl,rfl,rfl,rfl⟩
 intro (o:List V2) hki10
 have hki10:CV o (l.getD k (0,0))=CV (chT l k) (l.getD k (0,0))/\o.length<=k/\o.all AF=true:=hki10
 have hvo:=AC o
 refine And.symm ⟨λ c18=>?_,λ c18=>?_⟩
 ·try simp only [nrm] at c18
  have hn:CV o (l.getD k (0,0))=o:=DQ (λ h=>by omega)
  refine ao (by simp only [AC,List.length_cons,List.length_nil];omega) λ o48=>?_
  refine ⟨k+1,by
   trivial,by
   omega,?_⟩
  refine ⟨rfl,?_,rfl,?_⟩
  ·exact Aa (AB (by omega) (by omega))
  rw [BD hkl,BE hkl,← J2 hki10.1 hn];simp [AA,Iu]
 try simp only [nrm] at c18
 have ho:1<o.length:=by omega
 have hw2:IntKind.i64.wrap ((((AA o).length:Nat):Int)-(2:Int))=((o.length-2:Nat):Int):=by rw [hvo,AB (by omega) (by omega)];omega
 have hw1:IntKind.i64.wrap ((((AA o).length:Nat):Int)-(1:Int))=((o.length-1:Nat):Int):=by rw [hvo,AB (by omega) (by omega)];omega
 refine ao (by omega) λ o19=>?_
 refine ao (by omega) λ o20=>?_
 refine ao (by omega) λ o21=>?_
 refine ao (by omega) λ o22=>?_
 refine ⟨((o.getD (o.length-2) (0,0)).1,(o.getD (o.length-2) (0,0)).2,(o.getD (o.length-1) (0,0)).1,(o.getD (o.length-1) (0,0)).2,(l.getD k (0,0)).1,(l.getD k (0,0)).2),by
  rw [hw2,hw1,Int.toNat_natCast,Int.toNat_natCast,BD (show o.length-2<o.length by omega),BE (show o.length-2<o.length by omega),BD (show o.length-1<o.length by omega),BE (show o.length-1<o.length by omega),BD hkl,BE hkl];rfl,by
  try dsimp only [GV]
  exact ⟨A3 hki10.2.2 (show o.length-2<o.length by omega),A3 hki10.2.2 (show o.length-1<o.length by omega),hV⟩,?_⟩
 refine And.symm ⟨λ c26=>?_,λ c26=>?_⟩
 ·try dsimp only at c26
  try simp only [nrm] at c26
  have hn:CV o (l.getD k (0,0))=o:=DQ (λ h=>Int.not_le.2 c26 h.2)
  refine ao (by simp only [AC,List.length_cons,List.length_nil];omega) λ o40=>?_
  refine ⟨k+1,by
   trivial,by
   omega,?_⟩
  refine ⟨rfl,?_,rfl,?_⟩
  ·exact Aa (AB (by omega) (by omega))
  rw [BD hkl,BE hkl,← J2 hki10.1 hn];simp [AA,Iu]
 try dsimp only at c26
 try simp only [nrm] at c26
 refine ao (by rfl) λ o27=>?_
 refine ao (by rfl) λ o28=>?_
 refine ao (by omega) λ o29=>?_
 refine ao (by omega) λ o30=>?_
 refine ⟨o.take (o.length-1),by
  exact ⟨(J1 ho c26).trans hki10.1,by simp only [List.length_take];omega,by rw [List.all_eq_true];exact λ x hx=>List.all_eq_true.1 hki10.2.2 x (List.mem_of_mem_take hx)⟩,by
  simp only [List.length_take];omega,?_⟩
 refine ⟨rfl,rfl,rfl,rfl,rfl,?_⟩
 rw [hw1,Int.toNat_natCast];simp [AA,List.map_take]
def G7:Con:={ ι:=(List (List Dat)),pre:=λ i=>i.length<=1073741824,args:=λ i=>[.one (DC.sl 24 [.int,.int] i)],res:=λ i=>⟨false,[none],[.own 24 [.int,.int] i]⟩ }
theorem XU:G7.Ok Tryz.prog 175:=by
 refine fok (X:=⟨tt,[],[],8,[]⟩) mixed AI (CTok.nil _) Tryz.func175 (λ _=>[]) ?_
 intro (ls:List (List Dat)) hpre
 have hpre:ls.length<=1073741824:=hpre
 refine AH (q:=∀ b1:Bool,(b1=true->ls=[])->(ifB (b1) ((([]:List (List Dat))=ls)) ((([]:List (List Dat)).length+ls.length<=2199023255552)/\(((([]:List (List Dat))++ls)=ls))))) (by kernel_rfl) ?_
 delta ifB
 intro b1 q1
 refine ⟨λ c2=>?_,λ c2=>?_⟩
 ·try simp only [nrm] at c2
  rw [q1 c2]
 try simp only [nrm] at c2
 refine ao (by simp;omega) λ o4=>?_
 rfl
def Ij:Con:={ ι:=(List V2),pre:=λ i=>i.length<=1048576,args:=λ i=>[.one (DC.sl 24 [.int,.int] (AA i))],res:=λ i=>⟨false,[none],[.own 24 [.int,.int] (AA (Bw i))]⟩ }
set_option maxHeartbeats 1600000 in
theorem Zq:Ij.Ok Tryz.prog 124:=by
 refine fok (X:=⟨tt,[(126,Bv),(159,Fl),(160,EF)],[],104,[]⟩) mixed AI (CTok.cons PX (CTok.cons Uo (CTok.cons XT (CTok.nil _)))) Tryz.func124 (λ (i:(List V2))=>let Z1:=Au i i.length;[(21,.mk 3 (Nat) (λ x10=>{ tm:=[(9,tI ((nI (Z1.length))-1-(nI x10))),(3,tX 1),(8,tX 2)],en:=[(1,.own 24 [.int,.int] (AA Z1)),(2,.own 24 [.int,.int] (AA (Z1.reverse.take x10)))] }) (λ x10=>x10<=Z1.length) (λ x10=>Z1.length-x10) (λ _=>[])),(5,.mk 3 (Nat) (λ x1=>{ tm:=[(17,tX 1),(18,tI (nI ((AA i).length))),(19,tI (nI x1)),(3,tX 2)],en:=[(1,.view 24 [.int,.int] (AA i) []),(2,.own 24 [.int,.int] (AA (Au i x1)))] }) (λ x1=>x1<=i.length/\(i.take x1).all AF=true) (λ x1=>i.length-x1) (λ x1=>let Z2:=Au i x1;[(10,.mk 4 (Nat) (λ x2=>{ tm:=[(17,tX 1),(18,tI (nI ((AA i).length))),(19,tI (nI x1)),(5,tP 2 0),(6,tI (nI x2)),(3,tX 3)],en:=[(2,.box [kI (((((AA i).getD x1 []).getD 0 (.int 0))).n),kI (((((AA i).getD x1 []).getD 1 (.int 0))).n)]),(1,.view 24 [.int,.int] (AA i) []),(3,.own 24 [.int,.int] (AA Z2))] }) (λ x2=>x2<=Z2.length/\∀ j,j<x2->Af (Z2.getD j (0,0)) (i.getD x1 (0,0))=true) (λ x2=>Z2.length-x2) (λ _=>[]))]))]) ?_
 intro (l:List V2) hpre
 have hpre:l.length<=1048576:=hpre
 refine AH (q:=let Z28:=nI ((AA l).length);let Z18:=List Dat;let Z30:=(([]:List Z18)=AA (Bw l));let Z12:=Nat.beq 2 2=true;let Z10:=vI Z28;let Z4:=Au l l.length;let Z36:=nI (Z4.length);let Z32:=AA Z4;ifB ((decide (Z28>(64:Int)))) Z30 ((∃ x1:Nat,(x1<=l.length/\(l.take x1).all AF=true)/\((rf Z10)/\(vI (0:Int)=vI (nI x1))/\(rf (AA l))/\(([]:List Z18)=(AA (Au l x1)))))/\∀ x1:Nat,let Z33:=l.getD x1 (0,0);let Z24:=Au l x1;let Z14:=wR ((nI x1)+(1:Int));let Z6:=(AA l).getD x1 [];let Z16:=(Z6.getD 1 (.int 0));let Z15:=(Z6.getD 0 (.int 0));let Z2:=AA Z24;let Z34:=nI (Z2.length);let Z5:=(Z2.length:Int);(x1<=l.length/\(l.take x1).all AF=true)->(ifB ((decide ((nI x1)<Z28))) ((0<=(nI x1)/\(nI x1)<((AA l).length:Int))/\((x1<(AA l).length)/\(∃ i1:Int×Int,[DA.agg [cI (Z15.n),cI (Z16.n)]]=Bv.args i1/\Bv.pre i1/\(ifB ((!(AF (i1.1,i1.2)))) Z30 ((∃ x2:Nat,(x2<=Z24.length/\∀ j,j<x2->Af (Z24.getD j (0,0)) Z33=true)/\((rf Z10)/\(rf (vI (nI x1)))/\(vI (0:Int)=vI (nI x2))/\(rf (vI Z15.n))/\(rf (vI Z16.n))/\(rf (AA l))/\(rf Z2)))/\∀ x2:Nat,let Z35:=x2<Z2.length;let Z31:=Z2.getD x2 [];let Z27:=Z2.take x2;let Z25:=(0:Int)<=(nI x2);let Z22:=(decide ((nI x2)<Z34));let Z20:=(nI x2)<=Z5;let Z17:=(Z2.take (Z5.toNat)).drop x2;let Z13:=([((Z31.getD 0 (.int 0))).n,((Z31.getD 1 (.int 0))).n] == [Z15.n,Z16.n]);let Z3:=(([]:List Z18)++Z27).length+([[Dat.int (Z15.n),Dat.int (Z16.n)]]:List Z18).length<=2199023255552;let Z1:=(([]:List Z18)++Z27)++([[Dat.int (Z15.n),Dat.int (Z16.n)]]:List Z18);let Z9:=Z1.length+Z17.length<=2199023255552;(x2<=Z24.length/\∀ j,j<x2->Af (Z24.getD j (0,0)) Z33=true)->(ifB Z22 ((0<=(nI x2)/\(nI x2)<Z5)/\(Z35/\(∃ i2:Int×Int×Int×Int,[DA.agg [cI (((Z31.getD 0 (.int 0))).n),cI (((Z31.getD 1 (.int 0))).n)],DA.agg [cI (Z15.n),cI (Z16.n)]]=Fl.args i2/\Fl.pre i2/\(ifB ((Af (i2.1,i2.2.1) (i2.2.2.1,i2.2.2.2))) (∃ y3:Nat,(y3<=Z24.length/\∀ j,j<y3->Af (Z24.getD j (0,0)) Z33=true)/\(Z24.length-y3<Z24.length-x2)/\((rf Z10)/\(rf (vI (nI x1)))/\(vI (wR ((nI x2)+(1:Int)))=vI (nI y3))/\(rf (vI Z15.n))/\(rf (vI Z16.n))/\(rf (AA l))/\(rf Z2))) (ifB Z22 ((0<=(nI x2)/\(nI x2)<Z5)/\(Z35/\(ifB Z13 (∃ y4:Nat,(y4<=l.length/\(l.take y4).all AF=true)/\(l.length-y4<l.length-x1)/\((rf Z10)/\(vI Z14=vI (nI y4))/\(rf (AA l))/\(Z2=(AA (Au l y4))))) (Z12/\((0<=(0:Int))/\(Z25/\(Z20/\((([]:List Z18).length+Z27.length<=2199023255552)/\(Z3/\(Z12/\((0<=(nI x2))/\(Z20/\((Z5<=Z5)/\(Z9/\(∃ y5:Nat,(y5<=l.length/\(l.take y5).all AF=true)/\(l.length-y5<l.length-x1)/\((rf Z10)/\(vI Z14=vI (nI y5))/\(rf (AA l))/\((Z1++Z17)=(AA (Au l y5))))))))))))))))))) (Z12/\((0<=(0:Int))/\(Z25/\(Z20/\((([]:List Z18).length+Z27.length<=2199023255552)/\(Z3/\(Z12/\((0<=(nI x2))/\(Z20/\((Z5<=Z5)/\(Z9/\(∃ y6:Nat,(y6<=l.length/\(l.take y6).all AF=true)/\(l.length-y6<l.length-x1)/\((rf Z10)/\(vI Z14=vI (nI y6))/\(rf (AA l))/\((Z1++Z17)=(AA (Au l y6))))))))))))))))))))) (ifB Z22 ((0<=(nI x2)/\(nI x2)<Z5)/\(Z35/\(ifB Z13 (∃ y7:Nat,(y7<=l.length/\(l.take y7).all AF=true)/\(l.length-y7<l.length-x1)/\((rf Z10)/\(vI Z14=vI (nI y7))/\(rf (AA l))/\(Z2=(AA (Au l y7))))) (Z12/\((0<=(0:Int))/\(Z25/\(Z20/\((([]:List Z18).length+Z27.length<=2199023255552)/\(Z3/\(Z12/\((0<=(nI x2))/\(Z20/\((Z5<=Z5)/\(Z9/\(∃ y8:Nat,(y8<=l.length/\(l.take y8).all AF=true)/\(l.length-y8<l.length-x1)/\((rf Z10)/\(vI Z14=vI (nI y8))/\(rf (AA l))/\((Z1++Z17)=(AA (Au l y8))))))))))))))))))) (Z12/\((0<=(0:Int))/\(Z25/\(Z20/\((([]:List Z18).length+Z27.length<=2199023255552)/\(Z3/\(Z12/\((0<=(nI x2))/\(Z20/\((Z5<=Z5)/\(Z9/\(∃ y9:Nat,(y9<=l.length/\(l.take y9).all AF=true)/\(l.length-y9<l.length-x1)/\((rf Z10)/\(vI Z14=vI (nI y9))/\(rf (AA l))/\((Z1++Z17)=(AA (Au l y9))))))))))))))))))))))) (ifB ((decide (Z34<(3:Int)))) ((Z2=AA (Bw l))) ((∃ x10:Nat,(x10<=Z4.length)/\((vI (wR (Z34-(1:Int)))=vI (Z36-1-(nI x10)))/\(Z2=Z32)/\(([]:List Z18)=(AA (Z4.reverse.take x10)))))/\∀ x10:Nat,let Z26:=AA (Z4.reverse.take x10);let Z7:=Z36-1-(nI x10);let Z21:=Z32.getD (Z7.toNat) [];let Z38:=((Z21.getD 1 (.int 0))).n;let Z37:=((Z21.getD 0 (.int 0))).n;(x10<=Z4.length)->(ifB ((decide (Z7≥(0:Int)))) ((0<=Z7/\Z7<(Z32.length:Int))/\((Z7.toNat<Z32.length)/\((Z26.length+([[Dat.int Z37,Dat.int Z38]]:List Z18).length<=2199023255552)/\(∃ y11:Nat,(y11<=Z4.length)/\(Z4.length-y11<Z4.length-x10)/\((vI (wR (Z7-(1:Int)))=vI (Z36-1-(nI y11)))/\(rf Z32)/\((Z26++([[Dat.int Z37,Dat.int Z38]]:List Z18))=(AA (Z4.reverse.take y11)))))))) (∃ i3:(List V2),let Z19:=AA (chT i3 i3.length);let Z8:=wR ((nI (Z19.length))-(1:Int));let Z29:=Z19.take (Z8.toNat);[DA.one (DC.sl 24 [.int,.int] Z32)]=EF.args i3/\EF.pre i3/\(∃ i4:(List V2),let Z23:=AA (chT i4 i4.length);let Z11:=wR ((nI (Z23.length))-(1:Int));[DA.one (DC.sl 24 [.int,.int] Z26)]=EF.args i4/\EF.pre i4/\(Z12/\((0<=(0:Int))/\(((0:Int)<=Z8)/\((Z8<=(Z19.length:Int))/\((([]:List Z18).length+Z29.length<=2199023255552)/\(Z12/\((0<=(0:Int))/\(((0:Int)<=Z11)/\((Z11<=(Z23.length:Int))/\(((([]:List Z18)++Z29).length+(Z23.take (Z11.toNat)).length<=2199023255552)/\((((([]:List Z18)++Z29)++(Z23.take (Z11.toNat)))=AA (Bw l))))))))))))))))))))) (by kernel_rfl) ?_
 conv=>zeta
 delta ifB vI wR nI
 have hvl:=AC l
 refine ⟨λ c1=>?_,λ c1=>?_⟩
 ·try simp only [nrm] at c1
  have hE:Bw l=[]:=Ns (by omega)
  rw [hE];rfl
 try simp only [nrm] at c1
 refine ⟨⟨0,by
  exact ⟨Nat.zero_le _,rfl⟩,?_⟩,?_⟩
 ·refine ⟨rfl,?_,rfl,?_⟩
  ·rfl
  rfl
 intro (k:Nat) hki3
 have hki3:k<=l.length/\(l.take k).all AF=true:=hki3
 refine And.symm ⟨λ c9=>?_,λ c9=>?_⟩
 ·try simp only [nrm] at c9
  have hk:l.length=k:=by omega
  have hall:l.all AF=true:=by have:=hki3.2;rwa [← hk,List.take_length] at this
  have hE:=LH (by omega) hall
  have hsl:=J0 l l.length
  have hvs:=AC (Au l k)
  have hvs2:=AC (Au l l.length)
  refine ⟨λ c137=>?_,λ c137=>?_⟩
  ·try simp only [nrm] at c137
   rw [hE,hk,SQ (by omega)]
  try simp only [nrm] at c137
  have h3:¬ (Au l l.length).length<3:=by rw [hk];omega
  have hE2:=LI h3
  have hsv:=SP hall (Nat.le_refl _)
  refine ⟨⟨0,by
   omega,?_⟩,?_⟩
  ·refine ⟨?_,?_,?_⟩
   ·exact Aa (by rw [hvs,← hk,AB (by omega) (by omega)];omega)
   ·rw [hk]
   rfl
  intro (j:Nat) hki139
  have hki139:j<=(Au l l.length).length:=hki139
  refine ⟨λ c144=>?_,λ c144=>?_⟩
  ·try simp only [nrm] at c144
   have hj:j<(Au l l.length).length:=by omega
   have hi:(((((Au l l.length).length:Nat):Int)-1-((j:Nat):Int))).toNat=(Au l l.length).length-1-j:=by omega
   refine ao (by omega) λ o145=>?_
   refine ao (by omega) λ o146=>?_
   refine ao (by simp only [AC,List.length_append,List.length_take,List.length_drop,List.length_cons,List.length_nil,List.nil_append];omega) λ o147=>?_
   refine ⟨j+1,by
    trivial,by
    omega,?_⟩
   refine ⟨?_,rfl,?_⟩
   ·exact Aa (by rw [AB (by omega) (by omega)];omega)
   rw [hi,BD (show (Au l l.length).length-1-j<(Au l l.length).length by omega),BE (show (Au l l.length).length-1-j<(Au l l.length).length by omega)];exact ZP hj
  try simp only [nrm] at c144
  have hj:(Au l l.length).reverse.take j=(Au l l.length).reverse:=List.take_of_length_le (by rw [List.length_reverse];omega)
  have hrl:(Au l l.length).reverse.length=(Au l l.length).length:=List.length_reverse
  refine ⟨(Au l l.length),by
   rfl,by
   exact ⟨hsv,by omega,by omega⟩,?_⟩
  refine ⟨(Au l l.length).reverse,by
   rw [hj];rfl,by
   exact ⟨MX hsv,by omega,by omega⟩,?_⟩
  have hA:=Vn hsv (by omega)
  have hB:=Vn (MX hsv) (by omega)
  have hvA:=AC (chT (Au l l.length) (Au l l.length).length)
  have hvB:=AC (chT (Au l l.length).reverse (Au l l.length).reverse.length)
  have hwA:IntKind.i64.wrap ((((AA (chT (Au l l.length) (Au l l.length).length)).length:Nat):Int)-(1:Int))=(((chT (Au l l.length) (Au l l.length).length).length-1:Nat):Int):=by rw [hvA,AB (by omega) (by omega)];omega
  have hwB:IntKind.i64.wrap ((((AA (chT (Au l l.length).reverse (Au l l.length).reverse.length)).length:Nat):Int)-(1:Int))=(((chT (Au l l.length).reverse (Au l l.length).reverse.length).length-1:Nat):Int):=by rw [hvB,AB (by omega) (by omega)];omega
  refine ao (by rfl) λ o160=>?_
  refine ao (by omega) λ o161=>?_
  refine ao (by omega) λ o162=>?_
  refine ao (by omega) λ o163=>?_
  refine ao (by simp only [AC,List.length_append,List.length_take,List.length_drop,List.length_cons,List.length_nil,List.nil_append];omega) λ o164=>?_
  refine ao (by rfl) λ o165=>?_
  refine ao (by omega) λ o166=>?_
  refine ao (by omega) λ o167=>?_
  refine ao (by omega) λ o168=>?_
  refine ao (by simp only [AC,List.length_append,List.length_take,List.length_drop,List.length_cons,List.length_nil,List.nil_append];omega) λ o169=>?_
  rw [hE,hE2,hwA,hwB,Int.toNat_natCast,Int.toNat_natCast,List.nil_append,SR,SR,If]
 try simp only [nrm] at c9
 have hkl:k<l.length:=by omega
 have hsl:=J0 l k
 have hvs:=AC (Au l k)
 refine ao (by omega) λ o10=>?_
 refine ao (by omega) λ o11=>?_
 refine ⟨((l.getD k (0,0)).1,(l.getD k (0,0)).2),by
  rw [BD hkl,BE hkl];rfl,by
  trivial,?_⟩
 refine ⟨λ c15=>?_,λ c15=>?_⟩
 ·try simp only [nrm] at c15
  have hE:Bw l=[]:=ZN hkl c15
  rw [hE];rfl
 try simp only [nrm] at c15
 refine ⟨⟨0,by
  exact ⟨Nat.zero_le _,λ j hj=>absurd hj (Nat.not_lt_zero j)⟩,?_⟩,?_⟩
 ·refine ⟨rfl,rfl,?_,rfl,rfl,rfl,rfl⟩
  rfl
 intro (n:Nat) hki17
 have hki17:n<=(Au l k).length/\∀ j,j<n->Af ((Au l k).getD j (0,0)) (l.getD k (0,0))=true:=hki17
 refine And.symm ⟨λ c26=>?_,λ c26=>?_⟩
 ·try simp only [nrm] at c26
  refine ⟨λ c90=>?_,λ c90=>?_⟩
  ·try simp only [nrm] at c90
   exfalso;omega -- done
  try simp only [nrm] at c90
  refine ao (by rfl) λ o119=>?_
  refine ao (by omega) λ o120=>?_
  refine ao (by omega) λ o121=>?_
  refine ao (by omega) λ o122=>?_
  refine ao (by simp only [AC,List.length_append,List.length_take,List.length_drop,List.length_cons,List.length_nil,List.nil_append];omega) λ o123=>?_
  refine ao (by simp only [AC,List.length_append,List.length_take,List.length_drop,List.length_cons,List.length_nil,List.nil_append];omega) λ o124=>?_
  refine ao (by rfl) λ o125=>?_
  refine ao (by omega) λ o126=>?_
  refine ao (by omega) λ o127=>?_
  refine ao (by omega) λ o128=>?_
  refine ao (by simp only [AC,List.length_append,List.length_take,List.length_drop,List.length_cons,List.length_nil,List.nil_append];omega) λ o129=>?_
  refine ⟨k+1,by
   exact ⟨by omega,Qa hkl hki3.2 c15⟩,by
   omega,?_⟩
  refine ⟨rfl,?_,rfl,?_⟩
  ·exact Aa (AB (by omega) (by omega))
  rw [BD hkl,BE hkl,ST,Vm (by omega) hki17.2 (λ h=>absurd h (by omega)) (λ h=>absurd h (by omega))]
 try simp only [nrm] at c26
 have hn:n<(Au l k).length:=by omega
 refine ao (by omega) λ o27=>?_
 refine ao (by omega) λ o28=>?_
 refine ⟨(((Au l k).getD n (0,0)).1,((Au l k).getD n (0,0)).2,(l.getD k (0,0)).1,(l.getD k (0,0)).2),by
  rw [BD hn,BE hn,BD hkl,BE hkl];rfl,by
  trivial,?_⟩
 refine ⟨λ c32=>?_,λ c32=>?_⟩
 ·try simp only [nrm] at c32
  refine ⟨n+1,by
   exact ⟨by omega,ZM hki17.2 c32⟩,by
   omega,?_⟩
  refine ⟨rfl,rfl,?_,rfl,rfl,rfl,rfl⟩
  exact Aa (AB (by omega) (by omega))
 try simp only [nrm] at c32
 refine And.symm ⟨λ c43=>?_,λ c43=>?_⟩
 ·try simp only [nrm] at c43
  exfalso;omega -- done
 try simp only [nrm] at c43
 refine ao (by omega) λ o44=>?_
 refine ao (by omega) λ o45=>?_
 refine ⟨λ c46=>?_,λ c46=>?_⟩
 ·try dsimp only at c46
  try simp only [nrm] at c46
  rw [BD hn,BE hn,BD hkl,BE hkl] at c46
  have hq:=ABH c46
  refine ⟨k+1,by
   exact ⟨by omega,Qa hkl hki3.2 c15⟩,by
   omega,?_⟩
  refine ⟨rfl,?_,rfl,?_⟩
  ·exact Aa (AB (by omega) (by omega))
  rw [ZO hn hki17.2 c32 hq]
 try dsimp only at c46
 try simp only [nrm] at c46
 rw [BD hn,BE hn,BD hkl,BE hkl] at c46
 refine ao (by rfl) λ o54=>?_
 refine ao (by omega) λ o55=>?_
 refine ao (by omega) λ o56=>?_
 refine ao (by omega) λ o57=>?_
 refine ao (by simp only [AC,List.length_append,List.length_take,List.length_drop,List.length_cons,List.length_nil,List.nil_append];omega) λ o58=>?_
 refine ao (by simp only [AC,List.length_append,List.length_take,List.length_drop,List.length_cons,List.length_nil,List.nil_append];omega) λ o59=>?_
 refine ao (by rfl) λ o60=>?_
 refine ao (by omega) λ o61=>?_
 refine ao (by omega) λ o62=>?_
 refine ao (by omega) λ o63=>?_
 refine ao (by simp only [AC,List.length_append,List.length_take,List.length_drop,List.length_cons,List.length_nil,List.nil_append];omega) λ o64=>?_
 refine ⟨k+1,by
  exact ⟨by omega,Qa hkl hki3.2 c15⟩,by
  omega,?_⟩
 refine ⟨rfl,?_,rfl,?_⟩
 ·exact Aa (AB (by omega) (by omega))
 rw [BD hkl,BE hkl,ST,Vm (by omega) hki17.2 (λ _=>c32) (λ _ e=>c46 (by rw [e]))]
def Da:Con:={ ι:=(List V2),pre:=λ i=>i.all AF=true/\i.length<=1048576,args:=λ i=>[.one (DC.sl 24 [.int,.int] (AA i)),.one (.ro (.fn 177 []))],mu:=[0],new:=λ i=>[AA (Ci i)],tag:=178,res:=λ i=>⟨true,[],[]⟩ }
def FP:Con:={ ι:=(List V2),pre:=λ i=>i.length<=1048576,args:=λ i=>[.one (DC.sl 24 [.int,.int] (AA i))],mu:=[0],new:=λ i=>[AA i.reverse],res:=λ i=>⟨true,[],[]⟩ }
def BH:Con:={ ι:=(List V2),pre:=λ i=>i.length<=1048576,args:=λ i=>[.one (DC.sl 24 [.int,.int] (AA i))],mu:=[0],gone:=[0],new:=λ i=>[],res:=λ i=>⟨false,[none],[.own 24 [.int,.int] (AA (BT i))]⟩ }
theorem ADc {us:List Value} (h:us.length=1):∃ u,us=[u]:=
 match us,h with
 | [_],_=>⟨_,rfl⟩
theorem AEK {us:List Value} (h:us.length=2):∃ u v,us=[u,v]:=
 match us,h with
 | [_,_],_=>⟨_,_,rfl⟩
theorem XV:Da.Ok Tryz.prog 176 where
 enter:=⟨_,Tryz.func176,by decide,rfl⟩
 small:=λ _=>Nat.le_of_ble_eq_true rfl
 calls:=by
  intro (l:List V2) (hp:l.all AF=true/\l.length<=1048576) F w us mb h
  obtain ⟨u0,u1,rfl⟩:=AEK h.len
  obtain ⟨_,_,_,_,e1,e2,f1,m1⟩:=h.own 0 0 rfl
  cases e1;cases e2
  obtain ⟨ps,hu1,hpl,-⟩:ROAt F w (.fn 177 []) u1:=h.rd 1 _ _ rfl rfl (by decide)
  obtain rfl:ps=[]:=List.eq_nil_of_length_eq_zero hpl
  subst hu1
  have hv:BN (Da.args l) [u0,.func (.func 177) #[] #[]]=[u0,.func (.func 177) #[] #[]]:=rfl
  rw [hv]
  rcases Ql f1 with ⟨rfl,rfl,hbs⟩|⟨g,cap,cur,rfl,q1,q2,q3,q4,q5,hbs⟩
  ·have hcon:=AnyF.slices_SortFunc_none ADa none 0 (.func (.func 177) #[] #[]) w
   refine Calls.mono (P:=Tryz.prog) hcon ?_
   rintro e w' ⟨rfl,rfl⟩
   refine ⟨[],[],rfl,⟨rfl,List.nodup_nil,λ b hb=>by simp at hb,λ j q e ts rows u hj hq hd hu=>?_,rfl,rfl,rfl,Nat.le_refl _,λ b _ _=>rfl⟩⟩
   obtain rfl:j=0:=by have:=(List.getElem?_eq_some_iff.1 hq).1;have hl:Da.mu.length=1:=rfl;omega
   cases hq
   cases hd
   cases hu
   have es:Ci []=[]:=List.eq_nil_of_length_eq_zero (GP [])
   show Fp w' _ (.sl (AA (Ci []))) _ _
   rw [es]
   exact f1
  ·have hsz:(Hc l hp.1).length=l.length:=by have:=congrArg List.length (Ii l hp.1);simpa using this
   have hH:HoldsK L3 2 w g 0 (Hc l hp.1).toArray:=by
    have:=Sm q1 q2 q4 q5
    unfold HoldsK at this ⊢
    rw [Sn,Ii];exact this
   have hg:g<w.heap.size:=(Array.getElem?_eq_some_iff.1 q1).1
   have eg:∀ args w,(callFunc 177 args).run Tryz.prog w=.ok (.enter 177 args) w:=enters_of Tryz.func177 (by kernel_rfl) rfl
   have hlp:=hp.2
   have hcon:=AnyQ.slices_SortFunc_total ADa 2 Tryz.isAgg24 Tryz.sizeOf24 L3 (λ _=>rfl) (λ x v hv=>by simp [L3,Ai] at hv;rcases hv with rfl|rfl <;> rfl) cfV AEI 177 #[] g 0 cap (Hc l hp.1).toArray w eg
    (λ _ _ _ _ x y=>OX x.1 y.1 x.2 y.2 _) hH hg (by simp only [List.size_toArray,hsz];omega) AEJ
   have hs2:(Hc l hp.1).toArray.size=l.length:=by rw [List.size_toArray,hsz]
   rw [hs2] at hcon
   refine Calls.mono (P:=Tryz.prog) hcon ?_
   rintro e w' ⟨rfl,n,os,rfl⟩
   obtain ⟨⟨cur',p1,p2⟩,p3,p4⟩:=Pt L3 w g n ((Hc l hp.1).toArray.toList.mergeSort λ x y=>!(ltOf cfV) y x).toArray os q1
   have hHK:=holdsK_sortWorldK_c L3 2 w g 0 (Hc l hp.1).toArray ((Hc l hp.1).toArray.toList.mergeSort λ x y=>!(ltOf cfV) y x).toArray n os hH hg (by simp)
   have hHK:HoldsK Ai 2 (sortWorldK L3 2 w g 0 n ((Hc l hp.1).toArray.toList.mergeSort λ x y=>!(ltOf cfV) y x).toArray os) g 0 (Ci l).toArray:=by
    unfold HoldsK at hHK ⊢
    rw [Sn] at hHK
    rw [← Zl l hp.1];exact hHK
   have hrow:=Zk p1 (by rw [GP];exact q2) (by rw [p2];exact q4) hHK
   have hfp:=Zj p1 (by rw [GP];exact q2) q3 (by rw [p2];exact q4) hrow
   rw [GP] at hfp
   refine ⟨[],[],rfl,⟨rfl,List.nodup_nil,λ b hb=>by simp at hb,λ j q e ts rows u hj hq hd hu=>?_,rfl,rfl,rfl,p4,λ b hb hm=>p3 b hb λ e=>hm 0 (by decide) (by rw [hbs];simp [e])⟩⟩
   obtain rfl:j=0:=by have:=(List.getElem?_eq_some_iff.1 hq).1;have hl:Da.mu.length=1:=rfl;omega
   cases hq
   cases hd
   cases hu
   rw [hbs]
   exact hfp
theorem ABX:FP.Ok Tryz.prog 180 where
 enter:=⟨_,Tryz.func180,by decide,rfl⟩
 small:=λ _=>Nat.le_of_ble_eq_true rfl
 calls:=by
  intro (l:List V2) (hp:l.length<=1048576) F w us mb h
  obtain ⟨u0,rfl⟩:=ADc h.len
  obtain ⟨_,_,_,_,e1,e2,f1,m1⟩:=h.own 0 0 rfl
  cases e1;cases e2
  have hv:BN (FP.args l) [u0]=[u0]:=rfl
  rw [hv]
  rcases Ql f1 with ⟨rfl,rfl,hbs⟩|⟨g,cap,cur,rfl,q1,q2,q3,q4,q5,hbs⟩
  ·refine Calls.mono (P:=Tryz.prog) (AnyQ.slices_Reverse_empty ADb none 0 w) ?_
   rintro e w' ⟨rfl,rfl⟩
   refine ⟨[],[],rfl,⟨rfl,List.nodup_nil,λ b hb=>by simp at hb,λ j q e ts rows u hj hq hd hu=>?_,rfl,rfl,rfl,Nat.le_refl _,λ b _ _=>rfl⟩⟩
   obtain rfl:j=0:=by have:=(List.getElem?_eq_some_iff.1 hq).1;have hl:FP.mu.length=1:=rfl;omega
   cases hq
   cases hd
   cases hu
   exact f1
  ·have hH:=Sm q1 q2 q4 q5
   refine Calls.mono (P:=Tryz.prog) (AnyQ.slices_Reverse ADb 2 Tryz.isAgg24 Tryz.sizeOf24 Ai (λ _=>rfl) (λ x v hv=>by simp [Ai] at hv;rcases hv with rfl|rfl <;> rfl) g 0 cap l.toArray w hH (by simp only [List.size_toArray];omega)) ?_
   rintro e w' ⟨rfl,n,rfl⟩
   have hgr:putRowK Ai 2 (Sort.ahead w n) g 0 l.toArray.reverse=grow (putRowK Ai 2 (Sort.ahead w n) g 0 l.toArray.reverse) #[]:=by simp [grow]
   have hHK:=holdsK_putRowK Ai 2 (Sort.ahead w n) g 0 l.toArray l.toArray.reverse (holdsK_ahead Ai 2 w n g 0 l.toArray hH) (by simp)
   rw [hgr] at hHK ⊢
   obtain ⟨⟨cur',p1,p2⟩,p3,p4⟩:=Pt Ai w g n l.toArray.reverse #[] q1
   have hHK2:HoldsK Ai 2 (grow (putRowK Ai 2 (Sort.ahead w n) g 0 l.toArray.reverse) #[]) g 0 l.reverse.toArray:=by
    have e:l.reverse.toArray=l.toArray.reverse:=by simp
    rw [e];exact hHK
   have hrow:=Zk p1 (by rw [List.length_reverse];exact q2) (by rw [p2];exact q4) hHK2
   have hfp:=Zj p1 (by rw [List.length_reverse];exact q2) q3 (by rw [p2];exact q4) hrow
   rw [List.length_reverse] at hfp
   refine ⟨[],[],rfl,⟨rfl,List.nodup_nil,λ b hb=>by simp at hb,λ j q e ts rows u hj hq hd hu=>?_,rfl,rfl,rfl,p4,λ b hb hm=>p3 b hb λ e=>hm 0 (by decide) (by rw [hbs];simp [e])⟩⟩
   obtain rfl:j=0:=by have:=(List.getElem?_eq_some_iff.1 hq).1;have hl:FP.mu.length=1:=rfl;omega
   cases hq
   cases hd
   cases hu
   rw [hbs]
   exact hfp
theorem ABY {w:World} {e:Nat} {l:List V2} {g cap:Nat} {cur:Array Value} (h1:w.heap[g]?=some (.cells cur e (0,0))) (h2:l.length<=cap) (h4:cur.size=cap*2) (h5:cur.toList.take (l.length*2)=(l.map Ai).flatten):RowA w g 0 l.toArray:=λ j hj=>by
 have hj:j<l.length:=by simpa using hj
 have key:∀ t,t<l.length*2->cur[t]?=some ((Ai (l.getD (t/2) (0,0)))[t%2]!):=λ t ht=>by
  have:=H8 l t ht
  rw [← h5,List.getElem?_take,if_pos ht,Array.getElem?_toList] at this
  exact this
 have a0:=key (j*2) (by omega)
 have a1:=key (j*2+1) (by omega)
 rw [show j*2/2=j by omega,show j*2%2=0 by omega] at a0
 rw [show (j*2+1)/2=j by omega,show (j*2+1)%2=1 by omega] at a1
 have hd:(l.toArray)[j]! = l.getD j (0,0):=by simp [List.getD,hj]
 rw [hd]
 refine ⟨?_,?_,by simp [World.frozen?,h1],by simp [World.frozen?,h1]⟩
 ·rw [GT h1,Nat.zero_add,a0];rfl
 ·rw [GT h1,Nat.zero_add,a1];rfl
theorem ABZ {l:List V2} {cur:Array Value} (hc:∀ j,j<l.length->cur[j*2]?=some (.int .i64 (l.getD j (0,0)).1)/\cur[j*2+1]?=some (.int .i64 (l.getD j (0,0)).2)):cur.toList.take (l.length*2)=(l.map Ai).flatten:=by
 apply List.ext_getElem?
 intro j
 by_cases hj:j<l.length*2
 ·rw [H8 l j hj,List.getElem?_take,if_pos hj,Array.getElem?_toList]
  obtain ⟨c0,c1⟩:=hc (j/2) (by omega)
  have:j%2=0∨j%2=1:=by omega
  rcases this with e|e
  ·rw [e,show j=j/2*2 by omega,c0,show j/2*2/2=j/2 by omega];rfl
  ·rw [e];conv=>lhs;rw [show j=j/2*2+1 by omega,c1]
   rfl
 ·rw [List.getElem?_eq_none (by simp only [List.length_take];omega),List.getElem?_eq_none (by rw [N5];omega)]
theorem Sp:∀ l:List V2,(BT l).length<=l.length
 | []=>by simp [BT]
 | [a]=>by simp [BT]
 | a::b::t=>by
  have:=Sp (b::t)
  unfold BT
  split
  ·simp only [List.length_cons] at *;omega
  ·simp only [List.length_cons] at *;omega
theorem Sq:BH.Ok Tryz.prog 178 where
 enter:=⟨_,Tryz.func178,by decide,rfl⟩
 small:=λ _=>Nat.le_of_ble_eq_true rfl
 calls:=by
  intro (l:List V2) (hp:l.length<=1048576) F w us mb h
  obtain ⟨u0,rfl⟩:=ADc h.len
  obtain ⟨_,_,_,_,e1,e2,f1,m1⟩:=h.own 0 0 rfl
  cases e1;cases e2
  have hv:BN (BH.args l) [u0]=[u0]:=rfl
  rw [hv]
  have hfresh:∀ b ∈ mb 0,w.heap.size<=b∨∃ j,j ∈ BH.gone/\j<BH.mu.length/\b ∈ mb j:=λ b hb=>.inr ⟨0,by decide,by decide,hb⟩
  have hgone:∀ (w' : World) j p e ts rows u,j ∉ BH.gone->BH.mu[j]?=some p->((BH.args l).flatMap DA.cells)[p]?=some (.sl e ts rows)->[u0][p]?=some u->Fp w' (.sl e ts) (.sl ((BH.new l).getD j [])) u (mb j):=λ w' j p e ts rows u hj hq=>by
   exfalso
   have:=(List.getElem?_eq_some_iff.1 hq).1
   have hl:BH.mu.length=1:=rfl
   obtain rfl:j=0:=by omega
   exact hj (by decide)
  rcases Ql f1 with ⟨rfl,rfl,hbs⟩|⟨g,cap,cur,rfl,q1,q2,q3,q4,q5,hbs⟩
  ·refine Calls.mono (P:=Tryz.prog) (Qm w) ?_
   rintro e w' ⟨rfl,rfl⟩
   exact ⟨[.slice none 0 0],mb 0,rfl,⟨⟨mb 0,[],by simp,f1,rfl⟩,m1,hfresh,hgone _,rfl,rfl,rfl,Nat.le_refl _,λ b _ _=>rfl⟩⟩
  ·have hg:g<w.heap.size:=(Array.getElem?_eq_some_iff.1 q1).1
   have hsz:l.toArray.size=l.length:=by simp
   have hcc:=Un g 0 cap l.toArray w (ABY q1 q2 q4 q5) hg (by rw [hsz];exact hp) (by rw [hsz];exact q2) (by unfold maxLen at q3;omega)
   have hcu:Lib.compactUpTo l.toArray l.length=BT l:=by rw [KA l _ (Nat.le_refl _),List.take_length]
   rw [hsz,hcu] at hcc
   refine Calls.mono (P:=Tryz.prog) hcc ?_
   rintro e w' ⟨rfl,ho,hs,d',hd1,hd2,hd3⟩
   obtain ⟨cur',p1,p2⟩:=hs cur _ _ q1
   have hlen:=Sp l
   have htk:cur'.toList.take ((BT l).length*2)=((BT l).map Ai).flatten:=ABZ λ j hj=>by
    obtain ⟨c0,c1⟩:=hd3 j hj
    have e:=hd2 j hj
    have e2:(BT l).getD j (0,0)=d'[j]! := by rw [List.getD,e];rfl
    rw [GT p1,Nat.zero_add] at c0 c1
    rw [e2];exact ⟨c0,c1⟩
   have hfp:=Zj p1 (by omega) q3 (by rw [p2];exact q4) htk
   exact ⟨[.slice (some ⟨g,0,none⟩) (BT l).length cap],mb 0,rfl,⟨⟨mb 0,[],by simp,by rw [hbs];exact hfp,rfl⟩,m1,hfresh,hgone _,ho.os,ho.tape,ho.output,ho.size,λ b hb hm=>ho.block b hb λ e=>hm 0 (by decide) (by rw [hbs];simp [e])⟩⟩
def Ik:Con:={ ι:=(List V2),pre:=λ i=>i.length<=1048576,args:=λ i=>[.one (DC.sl 24 [.int,.int] (AA i))],res:=λ i=>⟨false,[none],[.own 24 [.int,.int] (AA (Bw i))]⟩ }
theorem Zr:Ik.Ok Tryz.prog 147:=by
 refine fok (X:=⟨tt,[(36,Bq),(175,G7),(176,Da),(178,BH),(179,EE),(180,FP)],[],31,[]⟩) mixed AI (CTok.cons JM (CTok.cons XU (CTok.cons XV (CTok.cons Sq (CTok.cons XS (CTok.cons ABX (CTok.nil _))))))) Tryz.func147 (λ _=>[]) ?_
 intro (l:List V2) hpre
 have hpre:l.length<=1048576:=hpre
 refine AH (q:=let Z3:=DC.sl 24 [.int,.int] (AA l);let Z1:=(([]:List (List Dat))=AA (Bw l));ifB ((!(decide ((nI ((AA l).length))>(64:Int))))) (∃ i1:(List V2),[DA.one Z3]=Bq.args i1/\Bq.pre i1/\(ifB ((!(i1.all AF))) Z1 (∃ i2:(List (List Dat)),[DA.one Z3]=G7.args i2/\G7.pre i2/\(∃ i3:(List V2),[DA.one (DC.sl 24 [.int,.int] i2),DA.one (DC.ro (.fn 177 []))]=Da.args i3/\Da.pre i3/\(∃ i4:(List V2),let Z2:=DC.sl 24 [.int,.int] (AA (BT i4));[DA.one (DC.sl 24 [.int,.int] (AA (Ci i3)))]=BH.args i4/\BH.pre i4/\(ifB ((decide ((nI ((AA (BT i4)).length))<(2:Int)))) ((AA (BT i4)=AA (Bw l))) (∃ i5:(List V2),[DA.one Z2]=EE.args i5/\EE.pre i5/\(∃ i6:(List V2),[DA.one Z2]=FP.args i6/\FP.pre i6/\(∃ i7:(List V2),[DA.one (DC.sl 24 [.int,.int] (AA i6.reverse))]=EE.args i7/\EE.pre i7/\(((AA (A9 i5)).length+(AA (A9 i7)).length<=2199023255552)/\(((AA (A9 i5)++AA (A9 i7))=AA (Bw l))))))))))))) Z1) (by kernel_rfl) ?_
 conv=>zeta
 delta ifB nI
 have hvl:=AC l
 refine And.symm ⟨λ c1=>?_,λ c1=>?_⟩
 ·try simp only [nrm] at c1
  have hE:Bw l=[]:=Ns (by omega)
  rw [hE];rfl
 try simp only [nrm] at c1
 refine ⟨l,by
  rfl,by
  trivial,?_⟩
 refine ⟨λ c5=>?_,λ c5=>?_⟩
 ·try simp only [nrm] at c5
  have hE:=Pb c5
  rw [hE];rfl
 try simp only [nrm] at c5
 have hE:=LH (by omega) c5
 have hU:=XC l
 have hlen:(BT (Ci l)).length<=l.length:=by rw [hU];exact J0 l l.length
 have hvec:(BT (Ci l)).all AF=true:=by rw [hU];exact SP c5 (Nat.le_refl _)
 have hvu:=AC (BT (Ci l))
 refine ⟨(AA l),by
  rfl,by
  show (AA l).length<=1073741824
  omega,?_⟩
 refine ⟨l,by
  rfl,by
  exact ⟨c5,hpre⟩,?_⟩
 refine ⟨(Ci l),by
  rfl,by
  show (Ci l).length<=1048576
  rw [GP];exact hpre,?_⟩
 refine ⟨λ c16=>?_,λ c16=>?_⟩
 ·try simp only [nrm] at c16
  rw [hE,hU,SQ (by rw [← hU];omega)]
 try simp only [nrm] at c16
 have hc1:=(PZ hvec).2
 have hc2:=(PZ (MX hvec)).2
 have hrl:(BT (Ci l)).reverse.length=(BT (Ci l)).length:=List.length_reverse
 have hH:A9 (BT (Ci l))++A9 (BT (Ci l)).reverse=OW (BT (Ci l)):=by
  by_cases h2:(BT (Ci l)).length=2
  ·exact ZK h2
  ·exact (LI (by omega)).symm
 refine ⟨(BT (Ci l)),by
  rfl,by
  exact ⟨hvec,by omega,by omega⟩,?_⟩
 refine ⟨(BT (Ci l)),by
  rfl,by
  show (BT (Ci l)).length<=1048576
  omega,?_⟩
 refine ⟨(BT (Ci l)).reverse,by
  rfl,by
  exact ⟨MX hvec,by omega,by omega⟩,?_⟩
 refine ao (by rw [AC,AC];omega) λ o27=>?_
 rw [hE,← hU,← If,hH]
end Go.Proofs.YtkffpiaagjcmpaaGreat
