import Derived.Test.YtdgmbbjoifneiaaGreatDoorPyRkS3
import Derived.Test.YtdgmbbjoifneiaaGreatDoorPyHul
namespace Go.Proofs.YtdgmbbjoifneiaaGreatDoor
set_option maxRecDepth 100000
set_option linter.unusedVariables false
set_option linter.unusedSimpArgs false
open Go.RowKit
def A0:Con:={ ι:=(List V2),pre:=λ i=>True,args:=λ i=>[.one (.sl 26 [.int,.int] (AA i))],res:=λ i=>⟨false,[none],[.im (Value.bool (i.all AE))]⟩ }
theorem Gf:A0.Ok Tryz.prog 21:=CF rfl ⟨_,Tryz.func21,by decide,rfl⟩ (λ _=>Nat.le_of_ble_eq_true rfl) (λ _=>rfl) (λ l=>[.im (.bool (l.all AE))]) (λ _=>rfl) (λ _=>rfl) (λ i hp w us h=>by
 have h:RdRow w [.sl 26 [.int,.int]] [.sl (AA i)] us:=h
 obtain ⟨v,vs,rfl,h1,h2⟩:=RdRow.cons2 h
 obtain ⟨-,rfl⟩:=RdRow.nil_inv h2
 refine (H3 i v w (Rd.vecs h1)).mono ?_
 rintro e w' ⟨rfl,hb⟩
 exact ⟨[Value.bool (i.all AE)],rfl,Own.leaf (Fp.mk_bool _),hb⟩)
def EZ:Con:={ ι:=Int×Int×Int×Int×Int×Int,pre:=λ i=>AE (i.1,i.2.1)=true/\AE (i.2.2.1,i.2.2.2.1)=true/\AE (i.2.2.2.2.1,i.2.2.2.2.2)=true,args:=λ i=>[.agg [.im (.int .i64 i.1),.im (.int .i64 i.2.1)],.agg [.im (.int .i64 i.2.2.1),.im (.int .i64 i.2.2.2.1)],.agg [.im (.int .i64 i.2.2.2.2.1),.im (.int .i64 i.2.2.2.2.2)]],res:=λ i=>⟨false,[none],[.im (Value.int .i64 (AM (i.1,i.2.1) (i.2.2.1,i.2.2.2.1) (i.2.2.2.2.1,i.2.2.2.2.2)))]⟩ }
theorem UK:EZ.Ok Tryz.prog 29:=CF rfl ⟨_,Tryz.func29,by decide,rfl⟩ (λ _=>Nat.le_of_ble_eq_true rfl) (λ _=>rfl) (λ i=>[.im (.int .i64 (AM (i.1,i.2.1) (i.2.2.1,i.2.2.2.1) (i.2.2.2.2.1,i.2.2.2.2.2)))]) (λ _=>rfl) (λ _=>rfl) (λ i hp w us h=>by
 obtain ⟨a1,a2,b1,b2,c1,c2⟩:=i
 have h:RdRow w [.int,.int,.int,.int,.int,.int] [.int a1,.int a2,.int b1,.int b2,.int c1,.int c2] us:=h
 obtain ⟨x1,_,rfl,q1,h⟩:=RdRow.cons2 h
 obtain ⟨x2,_,rfl,q2,h⟩:=RdRow.cons2 h
 obtain ⟨x3,_,rfl,q3,h⟩:=RdRow.cons2 h
 obtain ⟨x4,_,rfl,q4,h⟩:=RdRow.cons2 h
 obtain ⟨x5,_,rfl,q5,h⟩:=RdRow.cons2 h
 obtain ⟨x6,_,rfl,q6,h⟩:=RdRow.cons2 h
 obtain ⟨-,rfl⟩:=RdRow.nil_inv h
 obtain rfl:=Rd.int2 q1
 obtain rfl:=Rd.int2 q2
 obtain rfl:=Rd.int2 q3
 obtain rfl:=Rd.int2 q4
 obtain rfl:=Rd.int2 q5
 obtain rfl:=Rd.int2 q6
 refine (TF a1 a2 b1 b2 c1 c2 hp.1 hp.2.1 hp.2.2 w).mono ?_
 rintro e w' ⟨rfl,hb⟩
 exact ⟨[Value.int .i64 (AM (a1,a2) (b1,b2) (c1,c2))],rfl,Own.leaf (Fp.mk_int _),hb⟩)
def Ea:Con:={ ι:=Int×Int×Int×Int×Int×Int,pre:=λ i=>AE (i.1,i.2.1)=true/\AE (i.2.2.1,i.2.2.2.1)=true/\AE (i.2.2.2.2.1,i.2.2.2.2.2)=true,args:=λ i=>[.agg [.im (.int .i64 i.1),.im (.int .i64 i.2.1)],.agg [.im (.int .i64 i.2.2.1),.im (.int .i64 i.2.2.2.1)],.agg [.im (.int .i64 i.2.2.2.2.1),.im (.int .i64 i.2.2.2.2.2)]],res:=λ i=>⟨false,[none],[.im (Value.int .i64 (AM (i.1,i.2.1) (i.2.2.1,i.2.2.2.1) (i.2.2.2.2.1,i.2.2.2.2.2)))]⟩ }
theorem UL:Ea.Ok Tryz.prog 57:=CF rfl ⟨_,Tryz.func57,by decide,rfl⟩ (λ _=>Nat.le_of_ble_eq_true rfl) (λ _=>rfl) (λ i=>[.im (.int .i64 (AM (i.1,i.2.1) (i.2.2.1,i.2.2.2.1) (i.2.2.2.2.1,i.2.2.2.2.2)))]) (λ _=>rfl) (λ _=>rfl) (λ i hp w us h=>by
 obtain ⟨a1,a2,b1,b2,c1,c2⟩:=i
 have h:RdRow w [.int,.int,.int,.int,.int,.int] [.int a1,.int a2,.int b1,.int b2,.int c1,.int c2] us:=h
 obtain ⟨x1,_,rfl,q1,h⟩:=RdRow.cons2 h
 obtain ⟨x2,_,rfl,q2,h⟩:=RdRow.cons2 h
 obtain ⟨x3,_,rfl,q3,h⟩:=RdRow.cons2 h
 obtain ⟨x4,_,rfl,q4,h⟩:=RdRow.cons2 h
 obtain ⟨x5,_,rfl,q5,h⟩:=RdRow.cons2 h
 obtain ⟨x6,_,rfl,q6,h⟩:=RdRow.cons2 h
 obtain ⟨-,rfl⟩:=RdRow.nil_inv h
 obtain rfl:=Rd.int2 q1
 obtain rfl:=Rd.int2 q2
 obtain rfl:=Rd.int2 q3
 obtain rfl:=Rd.int2 q4
 obtain rfl:=Rd.int2 q5
 obtain rfl:=Rd.int2 q6
 refine (TG a1 a2 b1 b2 c1 c2 hp.1 hp.2.1 hp.2.2 w).mono ?_
 rintro e w' ⟨rfl,hb⟩
 exact ⟨[Value.int .i64 (AM (a1,a2) (b1,b2) (c1,c2))],rfl,Own.leaf (Fp.mk_int _),hb⟩)
def D5:Con:={ ι:=Int×Int×Int×Int,pre:=λ i=>True,args:=λ i=>[.agg [.im (.int .i64 i.1),.im (.int .i64 i.2.1)],.agg [.im (.int .i64 i.2.2.1),.im (.int .i64 i.2.2.2)]],res:=λ i=>⟨false,[none],[.im (Value.bool (Au (i.1,i.2.1) (i.2.2.1,i.2.2.2)))]⟩ }
theorem Pf:D5.Ok Tryz.prog 54:=by
 refine fok (X:=⟨tt,[],[],24,[]⟩) mixed AP (CTok.nil _) Tryz.func54 (λ _=>[]) ?_
 rintro ⟨a1,a2,b1,b2⟩ hpre
 have hpre:True:=hpre
 refine AO (q:=((!(decide (a1<b1)))=true->(((a1 == b1)=true->((Value.bool (decide (a2<b2))=Value.bool (Au (a1,a2) (b1,b2)))))/\((a1 == b1)=false->((Value.bool false=Value.bool (Au (a1,a2) (b1,b2)))))))/\((!(decide (a1<b1)))=false->((Value.bool true=Value.bool (Au (a1,a2) (b1,b2)))))) (by kernel_rfl) ?_
 refine And.symm ⟨λ c1=>?_,λ c1=>?_⟩
 ·-- c1f: (!(decide (a1 < b1))) = false
  replace c1:(!(decide (a1<b1)))=false:=c1
  try simp only [nrm] at c1
  -- l5: Value.bool true = Value.bool (Au (a1, a2) (b1, b2))
  show Value.bool true=Value.bool (Au (a1,a2) (b1,b2))
  exact congrArg Value.bool (by unfold Au;simp_all)
 -- c1t: (!(decide (a1 < b1))) = true
 replace c1:(!(decide (a1<b1)))=true:=c1
 try simp only [nrm] at c1
 refine ⟨λ c2=>?_,λ c2=>?_⟩
 ·-- c2t: (a1 == b1) = true
  replace c2:(a1 == b1)=true:=c2
  try simp only [nrm] at c2
  -- l3: Value.bool (decide (a2 < b2)) = Value.bool (Au (a1, a2) (b1, b2))
  show Value.bool (decide (a2<b2))=Value.bool (Au (a1,a2) (b1,b2))
  exact congrArg Value.bool (by unfold Au;simp_all)
 -- c2f: (a1 == b1) = false
 replace c2:(a1 == b1)=false:=c2
 try simp only [nrm] at c2
 -- l4: Value.bool false = Value.bool (Au (a1, a2) (b1, b2))
 show Value.bool false=Value.bool (Au (a1,a2) (b1,b2))
 exact congrArg Value.bool (by unfold Au;simp_all)
def Cb:Con:={ ι:=(List V2),pre:=λ i=>i.all AE=true/\0<i.length/\i.length<=64,args:=λ i=>[.one (.sl 26 [.int,.int] (AA i))],res:=λ i=>⟨false,[none],[.own 26 [.int,.int] (AA (chT i i.length))]⟩ }
theorem R2:Cb.Ok Tryz.prog 55:=by
 refine fok (X:=⟨tt,[(57,Ea)],[37],44,[]⟩) mixed AP (CTok.cons UL (CTok.nil _)) Tryz.func55 (λ (i:(List V2))=>[(3,.mk 3 (Nat) (λ x1=>{ tm:=[(7,.one (.one (.ext 1))),(8,.one (.one (.im (Value.int .i64 (((AA i).length:Nat):Int))))),(9,.one (.one (.im (Value.int .i64 ((x1:Nat):Int))))),(3,.one (.one (.ext 2)))],en:=[(1,.view 26 [.int,.int] (AA i) []),(2,.own 26 [.int,.int] (AA (chT i x1)))] }) (λ x1=>x1<=i.length) (λ x1=>i.length-x1) (λ x1=>[(5,.mk 4 ((List V2)) (λ x2=>{ tm:=[(7,.one (.one (.ext 1))),(8,.one (.one (.im (Value.int .i64 (((AA i).length:Nat):Int))))),(9,.one (.one (.im (Value.int .i64 ((x1:Nat):Int))))),(5,.one (.one (.bp 2 0))),(3,.one (.one (.ext 3)))],en:=[(2,.box [.im (Value.int .i64 ((((AA i).getD x1 []).getD 0 (.int 0))).n),.im (Value.int .i64 ((((AA i).getD x1 []).getD 1 (.int 0))).n)]),(1,.view 26 [.int,.int] (AA i) []),(3,.own 26 [.int,.int] (AA x2))] }) (λ x2=>DZ x2 (i.getD x1 (0,0))=DZ (chT i x1) (i.getD x1 (0,0))/\x2.length<=x1/\x2.all AE=true) (λ x2=>x2.length) (λ _=>[]))]))]) ?_
 intro (l:List V2) hpre
 have hpre:l.all AE=true/\0<l.length/\l.length<=64:=hpre
 refine AO (q:=(∃ x1:Nat,(x1<=l.length)/\((rf (Value.int .i64 (((AA l).length:Nat):Int)))/\(Value.int .i64 (0:Int)=Value.int .i64 ((x1:Nat):Int))/\(rf (AA l))/\(([]:List (List Dat))=(AA (chT l x1)))))/\∀ x1:Nat,(x1<=l.length)->(((decide (((x1:Nat):Int)<(((AA l).length:Nat):Int)))=true->((0<=((x1:Nat):Int)/\((x1:Nat):Int)<((AA l).length:Int))/\((x1<(AA l).length)/\((∃ x2:(List V2),(DZ x2 (l.getD x1 (0,0))=DZ (chT l x1) (l.getD x1 (0,0))/\x2.length<=x1/\x2.all AE=true)/\((rf (Value.int .i64 (((AA l).length:Nat):Int)))/\(rf (Value.int .i64 ((x1:Nat):Int)))/\(rf (Value.int .i64 ((((AA l).getD x1 []).getD 0 (.int 0))).n))/\(rf (Value.int .i64 ((((AA l).getD x1 []).getD 1 (.int 0))).n))/\(rf (AA l))/\((AA (chT l x1))=(AA x2))))/\∀ x2:(List V2),(DZ x2 (l.getD x1 (0,0))=DZ (chT l x1) (l.getD x1 (0,0))/\x2.length<=x1/\x2.all AE=true)->(((decide ((((AA x2).length:Nat):Int)>(1:Int)))=true->((0<=(IntKind.i64.wrap ((((AA x2).length:Nat):Int)-(2:Int)))/\(IntKind.i64.wrap ((((AA x2).length:Nat):Int)-(2:Int)))<((AA x2).length:Int))/\(((IntKind.i64.wrap ((((AA x2).length:Nat):Int)-(2:Int))).toNat<(AA x2).length)/\((0<=(IntKind.i64.wrap ((((AA x2).length:Nat):Int)-(1:Int)))/\(IntKind.i64.wrap ((((AA x2).length:Nat):Int)-(1:Int)))<((AA x2).length:Int))/\(((IntKind.i64.wrap ((((AA x2).length:Nat):Int)-(1:Int))).toNat<(AA x2).length)/\(∃ i1:Int×Int×Int×Int×Int×Int,[DA.agg [cI (((((AA x2).getD ((IntKind.i64.wrap ((((AA x2).length:Nat):Int)-(2:Int))).toNat) []).getD 0 (.int 0))).n),cI (((((AA x2).getD ((IntKind.i64.wrap ((((AA x2).length:Nat):Int)-(2:Int))).toNat) []).getD 1 (.int 0))).n)],DA.agg [cI (((((AA x2).getD ((IntKind.i64.wrap ((((AA x2).length:Nat):Int)-(1:Int))).toNat) []).getD 0 (.int 0))).n),cI (((((AA x2).getD ((IntKind.i64.wrap ((((AA x2).length:Nat):Int)-(1:Int))).toNat) []).getD 1 (.int 0))).n)],DA.agg [cI (((((AA l).getD x1 []).getD 0 (.int 0))).n),cI (((((AA l).getD x1 []).getD 1 (.int 0))).n)]]=Ea.args i1/\Ea.pre i1/\(((decide ((AM (i1.1,i1.2.1) (i1.2.2.1,i1.2.2.2.1) (i1.2.2.2.2.1,i1.2.2.2.2.2))<=(0:Int)))=true->((Nat.beq 2 2=true)/\(((0:Int)=0)/\((0<=(IntKind.i64.wrap ((((AA x2).length:Nat):Int)-(1:Int))))/\(((IntKind.i64.wrap ((((AA x2).length:Nat):Int)-(1:Int)))<=((AA x2).length:Int))/\(∃ y3:(List V2),(DZ y3 (l.getD x1 (0,0))=DZ (chT l x1) (l.getD x1 (0,0))/\y3.length<=x1/\y3.all AE=true)/\(y3.length<x2.length)/\((rf (Value.int .i64 (((AA l).length:Nat):Int)))/\(rf (Value.int .i64 ((x1:Nat):Int)))/\(rf (Value.int .i64 ((((AA l).getD x1 []).getD 0 (.int 0))).n))/\(rf (Value.int .i64 ((((AA l).getD x1 []).getD 1 (.int 0))).n))/\(rf (AA l))/\(((AA x2).take ((IntKind.i64.wrap ((((AA x2).length:Nat):Int)-(1:Int))).toNat))=(AA y3)))))))))/\((decide ((AM (i1.1,i1.2.1) (i1.2.2.1,i1.2.2.2.1) (i1.2.2.2.2.1,i1.2.2.2.2.2))<=(0:Int)))=false->(((AA x2).length+([[Dat.int (((((AA l).getD x1 []).getD 0 (.int 0))).n),Dat.int (((((AA l).getD x1 []).getD 1 (.int 0))).n)]]:List (List Dat)).length<=2199023255552)/\(∃ y4:Nat,(y4<=l.length)/\(l.length-y4<l.length-x1)/\((rf (Value.int .i64 (((AA l).length:Nat):Int)))/\(Value.int .i64 (IntKind.i64.wrap (((x1:Nat):Int)+(1:Int)))=Value.int .i64 ((y4:Nat):Int))/\(rf (AA l))/\(((AA x2)++([[Dat.int (((((AA l).getD x1 []).getD 0 (.int 0))).n),Dat.int (((((AA l).getD x1 []).getD 1 (.int 0))).n)]]:List (List Dat)))=(AA (chT l y4))))))))))))))/\((decide ((((AA x2).length:Nat):Int)>(1:Int)))=false->(((AA x2).length+([[Dat.int (((((AA l).getD x1 []).getD 0 (.int 0))).n),Dat.int (((((AA l).getD x1 []).getD 1 (.int 0))).n)]]:List (List Dat)).length<=2199023255552)/\(∃ y5:Nat,(y5<=l.length)/\(l.length-y5<l.length-x1)/\((rf (Value.int .i64 (((AA l).length:Nat):Int)))/\(Value.int .i64 (IntKind.i64.wrap (((x1:Nat):Int)+(1:Int)))=Value.int .i64 ((y5:Nat):Int))/\(rf (AA l))/\(((AA x2)++([[Dat.int (((((AA l).getD x1 []).getD 0 (.int 0))).n),Dat.int (((((AA l).getD x1 []).getD 1 (.int 0))).n)]]:List (List Dat)))=(AA (chT l y5))))))))))))/\((decide (((x1:Nat):Int)<(((AA l).length:Nat):Int)))=false->(((AA (chT l x1))=AA (chT l l.length)))))) (by kernel_rfl) ?_
 have hvl:=AB l
 -- i1
 refine ⟨⟨0,by
  first|trivial|omega|(simp;omega),?_⟩,?_⟩
 ·-- the beginning
  refine ⟨rfl,?_,rfl,?_⟩
  ·-- b4: Value.int .i64 (0 : Int) = Value.int .i64 ((0 : Nat) : Int)
   show Value.int .i64 (0:Int)=Value.int .i64 ((0:Nat):Int)
   first|rfl|(simp;done)
  -- b6: ([] : List (List Dat)) = (AA (chT l 0))
  show ([]:List (List Dat))=(AA (chT l 0))
  first|rfl|(simp;done)
 intro (k:Nat) hki1
 have hki1:k<=l.length:=hki1
 refine And.symm ⟨λ c7=>?_,λ c7=>?_⟩
 ·-- c7f: (decide (((k : Nat) : Int) < (((AA l).length : Nat) : Int))) = false
  replace c7:(decide (((k:Nat):Int)<(((AA l).length:Nat):Int)))=false:=c7
  try simp only [nrm] at c7
  -- l56: (AA (chT l k)) = AA (chT l l.length)
  show (AA (chT l k))=AA (chT l l.length)
  rw [show l.length=k by omega]
 -- c7t: (decide (((k : Nat) : Int) < (((AA l).length : Nat) : Int))) = true
 replace c7:(decide (((k:Nat):Int)<(((AA l).length:Nat):Int)))=true:=c7
 try simp only [nrm] at c7
 have hkl:k<l.length:=by omega
 have hV:=AW hpre.1 hkl
 have hcb:=PE hpre.1 k (by omega)
 refine ao (a:=0<=((k:Nat):Int)/\((k:Nat):Int)<((AA l).length:Int)) (by first|rfl|omega|(rw [hw2];omega)|(rw [hw2,Int.toNat_natCast];omega)|(rw [hw1];omega)|(rw [hw1,Int.toNat_natCast];omega)|(rw [hw3];omega)|(simp only [AB,List.length_cons,List.length_nil];omega)) λ o8=>?_
 refine ao (a:=k<(AA l).length) (by first|rfl|omega|(rw [hw2];omega)|(rw [hw2,Int.toNat_natCast];omega)|(rw [hw1];omega)|(rw [hw1,Int.toNat_natCast];omega)|(rw [hw3];omega)|(simp only [AB,List.length_cons,List.length_nil];omega)) λ o9=>?_
 -- i10
 refine ⟨⟨chT l k,by
  exact ⟨rfl,hcb.1,hcb.2⟩,?_⟩,?_⟩
 ·-- the beginning
  exact ⟨rfl,rfl,rfl,rfl,rfl,rfl⟩
 intro (o:List V2) hki10
 have hki10:DZ o (l.getD k (0,0))=DZ (chT l k) (l.getD k (0,0))/\o.length<=k/\o.all AE=true:=hki10
 have hvo:=AB o
 refine And.symm ⟨λ c18=>?_,λ c18=>?_⟩
 ·-- c18f: (decide ((((AA o).length : Nat) : Int) > (1 : Int))) = false
  replace c18:(decide ((((AA o).length:Nat):Int)>(1:Int)))=false:=c18
  try simp only [nrm] at c18
  have hn:DZ o (l.getD k (0,0))=o:=Iz (λ h=>by omega)
  refine ao (a:=(AA o).length+([[Dat.int (((((AA l).getD k []).getD 0 (.int 0))).n),Dat.int (((((AA l).getD k []).getD 1 (.int 0))).n)]]:List (List Dat)).length<=2199023255552) (by first|rfl|omega|(rw [hw2];omega)|(rw [hw2,Int.toNat_natCast];omega)|(rw [hw1];omega)|(rw [hw1,Int.toNat_natCast];omega)|(rw [hw3];omega)|(simp only [AB,List.length_cons,List.length_nil];omega)) λ o48=>?_
  -- n49
  refine ⟨k+1,by
   first|trivial|omega|(simp;omega),by
   first|omega|(simp;omega),?_⟩
  refine ⟨rfl,?_,rfl,?_⟩
  ·-- e53: Value.int .i64 (IntKind.i64.wrap (((k : Nat) : Int) + (1 : Int))) = Value.int .i64 (((k + 1) : Nat) : Int)
   show Value.int .i64 (IntKind.i64.wrap (((k:Nat):Int)+(1:Int)))=Value.int .i64 (((k+1):Nat):Int)
   first|rfl|exact AQ (AF (by omega) (by omega))
  -- e55: ((AA o) ++ ([[Dat.int (((((AA l).getD k []).getD 0 (.int 0))).n), Dat.int (((((AA l).getD k []).getD 1 (.int 0))).n)]] : List (List Dat))) = (AA (chT l (k + 1)))
  show ((AA o)++([[Dat.int (((((AA l).getD k []).getD 0 (.int 0))).n),Dat.int (((((AA l).getD k []).getD 1 (.int 0))).n)]]:List (List Dat)))=(AA (chT l (k+1)))
  rw [AT hkl,AU hkl,← Nd hki10.1 hn];simp [AA,Ih]
 -- c18t: (decide ((((AA o).length : Nat) : Int) > (1 : Int))) = true
 replace c18:(decide ((((AA o).length:Nat):Int)>(1:Int)))=true:=c18
 try simp only [nrm] at c18
 have ho:1<o.length:=by omega
 have hw2:IntKind.i64.wrap ((((AA o).length:Nat):Int)-(2:Int))=((o.length-2:Nat):Int):=by rw [hvo,AF (by omega) (by omega)];omega
 have hw1:IntKind.i64.wrap ((((AA o).length:Nat):Int)-(1:Int))=((o.length-1:Nat):Int):=by rw [hvo,AF (by omega) (by omega)];omega
 refine ao (a:=0<=(IntKind.i64.wrap ((((AA o).length:Nat):Int)-(2:Int)))/\(IntKind.i64.wrap ((((AA o).length:Nat):Int)-(2:Int)))<((AA o).length:Int)) (by first|rfl|omega|(rw [hw2];omega)|(rw [hw2,Int.toNat_natCast];omega)|(rw [hw1];omega)|(rw [hw1,Int.toNat_natCast];omega)|(rw [hw3];omega)|(simp only [AB,List.length_cons,List.length_nil];omega)) λ o19=>?_
 refine ao (a:=(IntKind.i64.wrap ((((AA o).length:Nat):Int)-(2:Int))).toNat<(AA o).length) (by first|rfl|omega|(rw [hw2];omega)|(rw [hw2,Int.toNat_natCast];omega)|(rw [hw1];omega)|(rw [hw1,Int.toNat_natCast];omega)|(rw [hw3];omega)|(simp only [AB,List.length_cons,List.length_nil];omega)) λ o20=>?_
 refine ao (a:=0<=(IntKind.i64.wrap ((((AA o).length:Nat):Int)-(1:Int)))/\(IntKind.i64.wrap ((((AA o).length:Nat):Int)-(1:Int)))<((AA o).length:Int)) (by first|rfl|omega|(rw [hw2];omega)|(rw [hw2,Int.toNat_natCast];omega)|(rw [hw1];omega)|(rw [hw1,Int.toNat_natCast];omega)|(rw [hw3];omega)|(simp only [AB,List.length_cons,List.length_nil];omega)) λ o21=>?_
 refine ao (a:=(IntKind.i64.wrap ((((AA o).length:Nat):Int)-(1:Int))).toNat<(AA o).length) (by first|rfl|omega|(rw [hw2];omega)|(rw [hw2,Int.toNat_natCast];omega)|(rw [hw1];omega)|(rw [hw1,Int.toNat_natCast];omega)|(rw [hw3];omega)|(simp only [AB,List.length_cons,List.length_nil];omega)) λ o22=>?_
 -- w23: sTurn [DA.agg [DC.im (Value.int .i64 ((((AA o).getD ((IntKind.i64.wrap ((((AA o).length : Nat) : Int) - (2 : Int))).toNat) []).getD 0 (.int 0))).n), DC.im (Value.int .i64 ((((AA o).getD ((IntKind.i64.wrap ((((AA o).length : Nat) : Int) - (2 : Int))).toNat) []).getD 1 (.int 0))).n)], DA.agg [DC
 refine ⟨((o.getD (o.length-2) (0,0)).1,(o.getD (o.length-2) (0,0)).2,(o.getD (o.length-1) (0,0)).1,(o.getD (o.length-1) (0,0)).2,(l.getD k (0,0)).1,(l.getD k (0,0)).2),by
  rw [hw2,hw1,Int.toNat_natCast,Int.toNat_natCast,AT (show o.length-2<o.length by omega),AU (show o.length-2<o.length by omega),AT (show o.length-1<o.length by omega),AU (show o.length-1<o.length by omega),AT hkl,AU hkl];rfl,by
  try dsimp only [Ea]
  exact ⟨AW hki10.2.2 (show o.length-2<o.length by omega),AW hki10.2.2 (show o.length-1<o.length by omega),hV⟩,?_⟩
 refine ⟨λ c26=>?_,λ c26=>?_⟩
 ·-- c26t: (decide ((AM (((o.getD (o.length - 2) (0, 0)).1), ((o.getD (o.length - 2) (0, 0)).2)) (((o.getD (o.length - 1) (0, 0)).1), ((o.getD (o.length - 1) (0, 0)).2)) (((l.getD k (0, 0)).1), ((l.getD k (0, 0)).2))) ≤ (0 : Int))) = true
  try dsimp only at c26
  try simp only [nrm] at c26
  refine ao (a:=Nat.beq 2 2=true) (by first|rfl|omega|(rw [hw2];omega)|(rw [hw2,Int.toNat_natCast];omega)|(rw [hw1];omega)|(rw [hw1,Int.toNat_natCast];omega)|(rw [hw3];omega)|(simp only [AB,List.length_cons,List.length_nil];omega)) λ o27=>?_
  refine ao (a:=(0:Int)=0) (by first|rfl|omega|(rw [hw2];omega)|(rw [hw2,Int.toNat_natCast];omega)|(rw [hw1];omega)|(rw [hw1,Int.toNat_natCast];omega)|(rw [hw3];omega)|(simp only [AB,List.length_cons,List.length_nil];omega)) λ o28=>?_
  refine ao (a:=0<=(IntKind.i64.wrap ((((AA o).length:Nat):Int)-(1:Int)))) (by first|rfl|omega|(rw [hw2];omega)|(rw [hw2,Int.toNat_natCast];omega)|(rw [hw1];omega)|(rw [hw1,Int.toNat_natCast];omega)|(rw [hw3];omega)|(simp only [AB,List.length_cons,List.length_nil];omega)) λ o29=>?_
  refine ao (a:=(IntKind.i64.wrap ((((AA o).length:Nat):Int)-(1:Int)))<=((AA o).length:Int)) (by first|rfl|omega|(rw [hw2];omega)|(rw [hw2,Int.toNat_natCast];omega)|(rw [hw1];omega)|(rw [hw1,Int.toNat_natCast];omega)|(rw [hw3];omega)|(simp only [AB,List.length_cons,List.length_nil];omega)) λ o30=>?_
  -- n31
  refine ⟨o.take (o.length-1),by
   exact ⟨(Nc ho c26).trans hki10.1,by simp only [List.length_take];omega,by rw [List.all_eq_true];exact λ x hx=>List.all_eq_true.1 hki10.2.2 x (List.mem_of_mem_take hx)⟩,by
   simp only [List.length_take];omega,?_⟩
  refine ⟨rfl,rfl,rfl,rfl,rfl,?_⟩
  -- e39: ((AA o).take ((IntKind.i64.wrap ((((AA o).length : Nat) : Int) - (1 : Int))).toNat)) = (AA (o.take (o.length - 1)))
  show ((AA o).take ((IntKind.i64.wrap ((((AA o).length:Nat):Int)-(1:Int))).toNat))=(AA (o.take (o.length-1)))
  rw [hw1,Int.toNat_natCast];simp [AA,List.map_take]
 -- c26f: (decide ((AM (((o.getD (o.length - 2) (0, 0)).1), ((o.getD (o.length - 2) (0, 0)).2)) (((o.getD (o.length - 1) (0, 0)).1), ((o.getD (o.length - 1) (0, 0)).2)) (((l.getD k (0, 0)).1), ((l.getD k (0, 0)).2))) ≤ (0 : Int))) = false
 try dsimp only at c26
 try simp only [nrm] at c26
 have hn:DZ o (l.getD k (0,0))=o:=Iz (λ h=>Int.not_le.2 c26 h.2)
 refine ao (a:=(AA o).length+([[Dat.int (((((AA l).getD k []).getD 0 (.int 0))).n),Dat.int (((((AA l).getD k []).getD 1 (.int 0))).n)]]:List (List Dat)).length<=2199023255552) (by first|rfl|omega|(rw [hw2];omega)|(rw [hw2,Int.toNat_natCast];omega)|(rw [hw1];omega)|(rw [hw1,Int.toNat_natCast];omega)|(rw [hw3];omega)|(simp only [AB,List.length_cons,List.length_nil];omega)) λ o40=>?_
 -- n41
 refine ⟨k+1,by
  first|trivial|omega|(simp;omega),by
  first|omega|(simp;omega),?_⟩
 refine ⟨rfl,?_,rfl,?_⟩
 ·-- e45: Value.int .i64 (IntKind.i64.wrap (((k : Nat) : Int) + (1 : Int))) = Value.int .i64 (((k + 1) : Nat) : Int)
  show Value.int .i64 (IntKind.i64.wrap (((k:Nat):Int)+(1:Int)))=Value.int .i64 (((k+1):Nat):Int)
  first|rfl|exact AQ (AF (by omega) (by omega))
 -- e47: ((AA o) ++ ([[Dat.int (((((AA l).getD k []).getD 0 (.int 0))).n), Dat.int (((((AA l).getD k []).getD 1 (.int 0))).n)]] : List (List Dat))) = (AA (chT l (k + 1)))
 show ((AA o)++([[Dat.int (((((AA l).getD k []).getD 0 (.int 0))).n),Dat.int (((((AA l).getD k []).getD 1 (.int 0))).n)]]:List (List Dat)))=(AA (chT l (k+1)))
 rw [AT hkl,AU hkl,← Nd hki10.1 hn];simp [AA,Ih]
def GA:Con:={ ι:=(List V2),pre:=λ i=>i.length<=1048576,args:=λ i=>[.one (.sl 26 [.int,.int] (AA i))],res:=λ i=>⟨false,[none],[.own 26 [.int,.int] (AA (Ar i))]⟩ }
set_option maxHeartbeats 1600000 in
theorem UM:GA.Ok Tryz.prog 34:=by
 refine fok (X:=⟨tt,[(53,Ex),(54,D5),(55,Cb)],[],104,[]⟩) mixed AP (CTok.cons Rv (CTok.cons Pf (CTok.cons R2 (CTok.nil _)))) Tryz.func34 (λ (i:(List V2))=>[(21,.mk 3 (Nat) (λ x10=>{ tm:=[(9,.one (.one (.im (Value.int .i64 ((((AC i i.length).length:Nat):Int)-1-((x10:Nat):Int)))))),(3,.one (.one (.ext 1))),(8,.one (.one (.ext 2)))],en:=[(1,.own 26 [.int,.int] (AA (AC i i.length))),(2,.own 26 [.int,.int] (AA ((AC i i.length).reverse.take x10)))] }) (λ x10=>x10<=(AC i i.length).length) (λ x10=>(AC i i.length).length-x10) (λ _=>[])),(5,.mk 3 (Nat) (λ x1=>{ tm:=[(17,.one (.one (.ext 1))),(18,.one (.one (.im (Value.int .i64 (((AA i).length:Nat):Int))))),(19,.one (.one (.im (Value.int .i64 ((x1:Nat):Int))))),(3,.one (.one (.ext 2)))],en:=[(1,.view 26 [.int,.int] (AA i) []),(2,.own 26 [.int,.int] (AA (AC i x1)))] }) (λ x1=>x1<=i.length/\(i.take x1).all AE=true) (λ x1=>i.length-x1) (λ x1=>[(10,.mk 4 (Nat) (λ x2=>{ tm:=[(17,.one (.one (.ext 1))),(18,.one (.one (.im (Value.int .i64 (((AA i).length:Nat):Int))))),(19,.one (.one (.im (Value.int .i64 ((x1:Nat):Int))))),(5,.one (.one (.bp 2 0))),(6,.one (.one (.im (Value.int .i64 ((x2:Nat):Int))))),(3,.one (.one (.ext 3)))],en:=[(2,.box [.im (Value.int .i64 ((((AA i).getD x1 []).getD 0 (.int 0))).n),.im (Value.int .i64 ((((AA i).getD x1 []).getD 1 (.int 0))).n)]),(1,.view 26 [.int,.int] (AA i) []),(3,.own 26 [.int,.int] (AA (AC i x1)))] }) (λ x2=>x2<=(AC i x1).length/\∀ j,j<x2->Au ((AC i x1).getD j (0,0)) (i.getD x1 (0,0))=true) (λ x2=>(AC i x1).length-x2) (λ _=>[]))]))]) ?_
 intro (l:List V2) hpre
 have hpre:l.length<=1048576:=hpre
 refine AO (q:=((decide ((((AA l).length:Nat):Int)>(64:Int)))=true->((([]:List (List Dat))=AA (Ar l))))/\((decide ((((AA l).length:Nat):Int)>(64:Int)))=false->((∃ x1:Nat,(x1<=l.length/\(l.take x1).all AE=true)/\((rf (Value.int .i64 (((AA l).length:Nat):Int)))/\(Value.int .i64 (0:Int)=Value.int .i64 ((x1:Nat):Int))/\(rf (AA l))/\(([]:List (List Dat))=(AA (AC l x1)))))/\∀ x1:Nat,(x1<=l.length/\(l.take x1).all AE=true)->(((decide (((x1:Nat):Int)<(((AA l).length:Nat):Int)))=true->((0<=((x1:Nat):Int)/\((x1:Nat):Int)<((AA l).length:Int))/\((x1<(AA l).length)/\(∃ i1:Int×Int,[DA.agg [cI (((((AA l).getD x1 []).getD 0 (.int 0))).n),cI (((((AA l).getD x1 []).getD 1 (.int 0))).n)]]=Ex.args i1/\Ex.pre i1/\(((!(AE (i1.1,i1.2)))=true->((([]:List (List Dat))=AA (Ar l))))/\((!(AE (i1.1,i1.2)))=false->((∃ x2:Nat,(x2<=(AC l x1).length/\∀ j,j<x2->Au ((AC l x1).getD j (0,0)) (l.getD x1 (0,0))=true)/\((rf (Value.int .i64 (((AA l).length:Nat):Int)))/\(rf (Value.int .i64 ((x1:Nat):Int)))/\(Value.int .i64 (0:Int)=Value.int .i64 ((x2:Nat):Int))/\(rf (Value.int .i64 ((((AA l).getD x1 []).getD 0 (.int 0))).n))/\(rf (Value.int .i64 ((((AA l).getD x1 []).getD 1 (.int 0))).n))/\(rf (AA l))/\(rf (AA (AC l x1)))))/\∀ x2:Nat,(x2<=(AC l x1).length/\∀ j,j<x2->Au ((AC l x1).getD j (0,0)) (l.getD x1 (0,0))=true)->(((decide (((x2:Nat):Int)<(((AA (AC l x1)).length:Nat):Int)))=true->((0<=((x2:Nat):Int)/\((x2:Nat):Int)<((AA (AC l x1)).length:Int))/\((x2<(AA (AC l x1)).length)/\(∃ i2:Int×Int×Int×Int,[DA.agg [cI (((((AA (AC l x1)).getD x2 []).getD 0 (.int 0))).n),cI (((((AA (AC l x1)).getD x2 []).getD 1 (.int 0))).n)],DA.agg [cI (((((AA l).getD x1 []).getD 0 (.int 0))).n),cI (((((AA l).getD x1 []).getD 1 (.int 0))).n)]]=D5.args i2/\D5.pre i2/\(((Au (i2.1,i2.2.1) (i2.2.2.1,i2.2.2.2))=true->(∃ y3:Nat,(y3<=(AC l x1).length/\∀ j,j<y3->Au ((AC l x1).getD j (0,0)) (l.getD x1 (0,0))=true)/\((AC l x1).length-y3<(AC l x1).length-x2)/\((rf (Value.int .i64 (((AA l).length:Nat):Int)))/\(rf (Value.int .i64 ((x1:Nat):Int)))/\(Value.int .i64 (IntKind.i64.wrap (((x2:Nat):Int)+(1:Int)))=Value.int .i64 ((y3:Nat):Int))/\(rf (Value.int .i64 ((((AA l).getD x1 []).getD 0 (.int 0))).n))/\(rf (Value.int .i64 ((((AA l).getD x1 []).getD 1 (.int 0))).n))/\(rf (AA l))/\(rf (AA (AC l x1))))))/\((Au (i2.1,i2.2.1) (i2.2.2.1,i2.2.2.2))=false->(((decide (((x2:Nat):Int)<(((AA (AC l x1)).length:Nat):Int)))=true->((0<=((x2:Nat):Int)/\((x2:Nat):Int)<((AA (AC l x1)).length:Int))/\((x2<(AA (AC l x1)).length)/\((([((((AA (AC l x1)).getD x2 []).getD 0 (.int 0))).n,((((AA (AC l x1)).getD x2 []).getD 1 (.int 0))).n] == [((((AA l).getD x1 []).getD 0 (.int 0))).n,((((AA l).getD x1 []).getD 1 (.int 0))).n])=true->(∃ y4:Nat,(y4<=l.length/\(l.take y4).all AE=true)/\(l.length-y4<l.length-x1)/\((rf (Value.int .i64 (((AA l).length:Nat):Int)))/\(Value.int .i64 (IntKind.i64.wrap (((x1:Nat):Int)+(1:Int)))=Value.int .i64 ((y4:Nat):Int))/\(rf (AA l))/\((AA (AC l x1))=(AA (AC l y4))))))/\(([((((AA (AC l x1)).getD x2 []).getD 0 (.int 0))).n,((((AA (AC l x1)).getD x2 []).getD 1 (.int 0))).n] == [((((AA l).getD x1 []).getD 0 (.int 0))).n,((((AA l).getD x1 []).getD 1 (.int 0))).n])=false->((Nat.beq 2 2=true)/\((0<=(0:Int))/\(((0:Int)<=((x2:Nat):Int))/\((((x2:Nat):Int)<=((AA (AC l x1)).length:Int))/\((([]:List (List Dat)).length+((AA (AC l x1)).take x2).length<=2199023255552)/\(((([]:List (List Dat))++((AA (AC l x1)).take x2)).length+([[Dat.int (((((AA l).getD x1 []).getD 0 (.int 0))).n),Dat.int (((((AA l).getD x1 []).getD 1 (.int 0))).n)]]:List (List Dat)).length<=2199023255552)/\((Nat.beq 2 2=true)/\((0<=((x2:Nat):Int))/\((((x2:Nat):Int)<=((AA (AC l x1)).length:Int))/\((((AA (AC l x1)).length:Int)<=((AA (AC l x1)).length:Int))/\((((([]:List (List Dat))++((AA (AC l x1)).take x2))++([[Dat.int (((((AA l).getD x1 []).getD 0 (.int 0))).n),Dat.int (((((AA l).getD x1 []).getD 1 (.int 0))).n)]]:List (List Dat))).length+(((AA (AC l x1)).take (((AA (AC l x1)).length:Int).toNat)).drop x2).length<=2199023255552)/\(∃ y5:Nat,(y5<=l.length/\(l.take y5).all AE=true)/\(l.length-y5<l.length-x1)/\((rf (Value.int .i64 (((AA l).length:Nat):Int)))/\(Value.int .i64 (IntKind.i64.wrap (((x1:Nat):Int)+(1:Int)))=Value.int .i64 ((y5:Nat):Int))/\(rf (AA l))/\((((([]:List (List Dat))++((AA (AC l x1)).take x2))++([[Dat.int (((((AA l).getD x1 []).getD 0 (.int 0))).n),Dat.int (((((AA l).getD x1 []).getD 1 (.int 0))).n)]]:List (List Dat)))++(((AA (AC l x1)).take (((AA (AC l x1)).length:Int).toNat)).drop x2))=(AA (AC l y5)))))))))))))))))))))/\((decide (((x2:Nat):Int)<(((AA (AC l x1)).length:Nat):Int)))=false->((Nat.beq 2 2=true)/\((0<=(0:Int))/\(((0:Int)<=((x2:Nat):Int))/\((((x2:Nat):Int)<=((AA (AC l x1)).length:Int))/\((([]:List (List Dat)).length+((AA (AC l x1)).take x2).length<=2199023255552)/\(((([]:List (List Dat))++((AA (AC l x1)).take x2)).length+([[Dat.int (((((AA l).getD x1 []).getD 0 (.int 0))).n),Dat.int (((((AA l).getD x1 []).getD 1 (.int 0))).n)]]:List (List Dat)).length<=2199023255552)/\((Nat.beq 2 2=true)/\((0<=((x2:Nat):Int))/\((((x2:Nat):Int)<=((AA (AC l x1)).length:Int))/\((((AA (AC l x1)).length:Int)<=((AA (AC l x1)).length:Int))/\((((([]:List (List Dat))++((AA (AC l x1)).take x2))++([[Dat.int (((((AA l).getD x1 []).getD 0 (.int 0))).n),Dat.int (((((AA l).getD x1 []).getD 1 (.int 0))).n)]]:List (List Dat))).length+(((AA (AC l x1)).take (((AA (AC l x1)).length:Int).toNat)).drop x2).length<=2199023255552)/\(∃ y6:Nat,(y6<=l.length/\(l.take y6).all AE=true)/\(l.length-y6<l.length-x1)/\((rf (Value.int .i64 (((AA l).length:Nat):Int)))/\(Value.int .i64 (IntKind.i64.wrap (((x1:Nat):Int)+(1:Int)))=Value.int .i64 ((y6:Nat):Int))/\(rf (AA l))/\((((([]:List (List Dat))++((AA (AC l x1)).take x2))++([[Dat.int (((((AA l).getD x1 []).getD 0 (.int 0))).n),Dat.int (((((AA l).getD x1 []).getD 1 (.int 0))).n)]]:List (List Dat)))++(((AA (AC l x1)).take (((AA (AC l x1)).length:Int).toNat)).drop x2))=(AA (AC l y6))))))))))))))))))))))))/\((decide (((x2:Nat):Int)<(((AA (AC l x1)).length:Nat):Int)))=false->(((decide (((x2:Nat):Int)<(((AA (AC l x1)).length:Nat):Int)))=true->((0<=((x2:Nat):Int)/\((x2:Nat):Int)<((AA (AC l x1)).length:Int))/\((x2<(AA (AC l x1)).length)/\((([((((AA (AC l x1)).getD x2 []).getD 0 (.int 0))).n,((((AA (AC l x1)).getD x2 []).getD 1 (.int 0))).n] == [((((AA l).getD x1 []).getD 0 (.int 0))).n,((((AA l).getD x1 []).getD 1 (.int 0))).n])=true->(∃ y7:Nat,(y7<=l.length/\(l.take y7).all AE=true)/\(l.length-y7<l.length-x1)/\((rf (Value.int .i64 (((AA l).length:Nat):Int)))/\(Value.int .i64 (IntKind.i64.wrap (((x1:Nat):Int)+(1:Int)))=Value.int .i64 ((y7:Nat):Int))/\(rf (AA l))/\((AA (AC l x1))=(AA (AC l y7))))))/\(([((((AA (AC l x1)).getD x2 []).getD 0 (.int 0))).n,((((AA (AC l x1)).getD x2 []).getD 1 (.int 0))).n] == [((((AA l).getD x1 []).getD 0 (.int 0))).n,((((AA l).getD x1 []).getD 1 (.int 0))).n])=false->((Nat.beq 2 2=true)/\((0<=(0:Int))/\(((0:Int)<=((x2:Nat):Int))/\((((x2:Nat):Int)<=((AA (AC l x1)).length:Int))/\((([]:List (List Dat)).length+((AA (AC l x1)).take x2).length<=2199023255552)/\(((([]:List (List Dat))++((AA (AC l x1)).take x2)).length+([[Dat.int (((((AA l).getD x1 []).getD 0 (.int 0))).n),Dat.int (((((AA l).getD x1 []).getD 1 (.int 0))).n)]]:List (List Dat)).length<=2199023255552)/\((Nat.beq 2 2=true)/\((0<=((x2:Nat):Int))/\((((x2:Nat):Int)<=((AA (AC l x1)).length:Int))/\((((AA (AC l x1)).length:Int)<=((AA (AC l x1)).length:Int))/\((((([]:List (List Dat))++((AA (AC l x1)).take x2))++([[Dat.int (((((AA l).getD x1 []).getD 0 (.int 0))).n),Dat.int (((((AA l).getD x1 []).getD 1 (.int 0))).n)]]:List (List Dat))).length+(((AA (AC l x1)).take (((AA (AC l x1)).length:Int).toNat)).drop x2).length<=2199023255552)/\(∃ y8:Nat,(y8<=l.length/\(l.take y8).all AE=true)/\(l.length-y8<l.length-x1)/\((rf (Value.int .i64 (((AA l).length:Nat):Int)))/\(Value.int .i64 (IntKind.i64.wrap (((x1:Nat):Int)+(1:Int)))=Value.int .i64 ((y8:Nat):Int))/\(rf (AA l))/\((((([]:List (List Dat))++((AA (AC l x1)).take x2))++([[Dat.int (((((AA l).getD x1 []).getD 0 (.int 0))).n),Dat.int (((((AA l).getD x1 []).getD 1 (.int 0))).n)]]:List (List Dat)))++(((AA (AC l x1)).take (((AA (AC l x1)).length:Int).toNat)).drop x2))=(AA (AC l y8)))))))))))))))))))))/\((decide (((x2:Nat):Int)<(((AA (AC l x1)).length:Nat):Int)))=false->((Nat.beq 2 2=true)/\((0<=(0:Int))/\(((0:Int)<=((x2:Nat):Int))/\((((x2:Nat):Int)<=((AA (AC l x1)).length:Int))/\((([]:List (List Dat)).length+((AA (AC l x1)).take x2).length<=2199023255552)/\(((([]:List (List Dat))++((AA (AC l x1)).take x2)).length+([[Dat.int (((((AA l).getD x1 []).getD 0 (.int 0))).n),Dat.int (((((AA l).getD x1 []).getD 1 (.int 0))).n)]]:List (List Dat)).length<=2199023255552)/\((Nat.beq 2 2=true)/\((0<=((x2:Nat):Int))/\((((x2:Nat):Int)<=((AA (AC l x1)).length:Int))/\((((AA (AC l x1)).length:Int)<=((AA (AC l x1)).length:Int))/\((((([]:List (List Dat))++((AA (AC l x1)).take x2))++([[Dat.int (((((AA l).getD x1 []).getD 0 (.int 0))).n),Dat.int (((((AA l).getD x1 []).getD 1 (.int 0))).n)]]:List (List Dat))).length+(((AA (AC l x1)).take (((AA (AC l x1)).length:Int).toNat)).drop x2).length<=2199023255552)/\(∃ y9:Nat,(y9<=l.length/\(l.take y9).all AE=true)/\(l.length-y9<l.length-x1)/\((rf (Value.int .i64 (((AA l).length:Nat):Int)))/\(Value.int .i64 (IntKind.i64.wrap (((x1:Nat):Int)+(1:Int)))=Value.int .i64 ((y9:Nat):Int))/\(rf (AA l))/\((((([]:List (List Dat))++((AA (AC l x1)).take x2))++([[Dat.int (((((AA l).getD x1 []).getD 0 (.int 0))).n),Dat.int (((((AA l).getD x1 []).getD 1 (.int 0))).n)]]:List (List Dat)))++(((AA (AC l x1)).take (((AA (AC l x1)).length:Int).toNat)).drop x2))=(AA (AC l y9)))))))))))))))))))))))))))/\((decide (((x1:Nat):Int)<(((AA l).length:Nat):Int)))=false->(((decide ((((AA (AC l x1)).length:Nat):Int)<(3:Int)))=true->(((AA (AC l x1))=AA (Ar l))))/\((decide ((((AA (AC l x1)).length:Nat):Int)<(3:Int)))=false->((∃ x10:Nat,(x10<=(AC l l.length).length)/\((Value.int .i64 (IntKind.i64.wrap ((((AA (AC l x1)).length:Nat):Int)-(1:Int)))=Value.int .i64 ((((AC l l.length).length:Nat):Int)-1-((x10:Nat):Int)))/\((AA (AC l x1))=(AA (AC l l.length)))/\(([]:List (List Dat))=(AA ((AC l l.length).reverse.take x10)))))/\∀ x10:Nat,(x10<=(AC l l.length).length)->(((decide (((((AC l l.length).length:Nat):Int)-1-((x10:Nat):Int))≥(0:Int)))=true->((0<=((((AC l l.length).length:Nat):Int)-1-((x10:Nat):Int))/\((((AC l l.length).length:Nat):Int)-1-((x10:Nat):Int))<((AA (AC l l.length)).length:Int))/\((((((AC l l.length).length:Nat):Int)-1-((x10:Nat):Int)).toNat<(AA (AC l l.length)).length)/\(((AA ((AC l l.length).reverse.take x10)).length+([[Dat.int (((((AA (AC l l.length)).getD (((((AC l l.length).length:Nat):Int)-1-((x10:Nat):Int)).toNat) []).getD 0 (.int 0))).n),Dat.int (((((AA (AC l l.length)).getD (((((AC l l.length).length:Nat):Int)-1-((x10:Nat):Int)).toNat) []).getD 1 (.int 0))).n)]]:List (List Dat)).length<=2199023255552)/\(∃ y11:Nat,(y11<=(AC l l.length).length)/\((AC l l.length).length-y11<(AC l l.length).length-x10)/\((Value.int .i64 (IntKind.i64.wrap (((((AC l l.length).length:Nat):Int)-1-((x10:Nat):Int))-(1:Int)))=Value.int .i64 ((((AC l l.length).length:Nat):Int)-1-((y11:Nat):Int)))/\(rf (AA (AC l l.length)))/\(((AA ((AC l l.length).reverse.take x10))++([[Dat.int (((((AA (AC l l.length)).getD (((((AC l l.length).length:Nat):Int)-1-((x10:Nat):Int)).toNat) []).getD 0 (.int 0))).n),Dat.int (((((AA (AC l l.length)).getD (((((AC l l.length).length:Nat):Int)-1-((x10:Nat):Int)).toNat) []).getD 1 (.int 0))).n)]]:List (List Dat)))=(AA ((AC l l.length).reverse.take y11)))))))))/\((decide (((((AC l l.length).length:Nat):Int)-1-((x10:Nat):Int))≥(0:Int)))=false->(∃ i3:(List V2),[DA.one (DC.sl 26 [.int,.int] (AA (AC l l.length)))]=Cb.args i3/\Cb.pre i3/\(∃ i4:(List V2),[DA.one (DC.sl 26 [.int,.int] (AA ((AC l l.length).reverse.take x10)))]=Cb.args i4/\Cb.pre i4/\((Nat.beq 2 2=true)/\((0<=(0:Int))/\(((0:Int)<=(IntKind.i64.wrap ((((AA (chT i3 i3.length)).length:Nat):Int)-(1:Int))))/\(((IntKind.i64.wrap ((((AA (chT i3 i3.length)).length:Nat):Int)-(1:Int)))<=((AA (chT i3 i3.length)).length:Int))/\((([]:List (List Dat)).length+((AA (chT i3 i3.length)).take ((IntKind.i64.wrap ((((AA (chT i3 i3.length)).length:Nat):Int)-(1:Int))).toNat)).length<=2199023255552)/\((Nat.beq 2 2=true)/\((0<=(0:Int))/\(((0:Int)<=(IntKind.i64.wrap ((((AA (chT i4 i4.length)).length:Nat):Int)-(1:Int))))/\(((IntKind.i64.wrap ((((AA (chT i4 i4.length)).length:Nat):Int)-(1:Int)))<=((AA (chT i4 i4.length)).length:Int))/\(((([]:List (List Dat))++((AA (chT i3 i3.length)).take ((IntKind.i64.wrap ((((AA (chT i3 i3.length)).length:Nat):Int)-(1:Int))).toNat))).length+((AA (chT i4 i4.length)).take ((IntKind.i64.wrap ((((AA (chT i4 i4.length)).length:Nat):Int)-(1:Int))).toNat)).length<=2199023255552)/\((((([]:List (List Dat))++((AA (chT i3 i3.length)).take ((IntKind.i64.wrap ((((AA (chT i3 i3.length)).length:Nat):Int)-(1:Int))).toNat)))++((AA (chT i4 i4.length)).take ((IntKind.i64.wrap ((((AA (chT i4 i4.length)).length:Nat):Int)-(1:Int))).toNat)))=AA (Ar l))))))))))))))))))))))))) (by kernel_rfl) ?_
 have hvl:=AB l
 refine ⟨λ c1=>?_,λ c1=>?_⟩
 ·-- c1t: (decide ((((AA l).length : Nat) : Int) > (64 : Int))) = true
  replace c1:(decide ((((AA l).length:Nat):Int)>(64:Int)))=true:=c1
  try simp only [nrm] at c1
  have hE:Ar l=[]:=PG (by omega)
  -- l2: ([] : List (List Dat)) = AA (Ar l)
  show ([]:List (List Dat))=AA (Ar l)
  first|(rw [hE];done)|(rw [hE];rfl)
 -- c1f: (decide ((((AA l).length : Nat) : Int) > (64 : Int))) = false
 replace c1:(decide ((((AA l).length:Nat):Int)>(64:Int)))=false:=c1
 try simp only [nrm] at c1
 -- i3
 refine ⟨⟨0,by
  exact ⟨Nat.zero_le _,rfl⟩,?_⟩,?_⟩
 ·-- the beginning
  refine ⟨rfl,?_,rfl,?_⟩
  ·-- b6: Value.int .i64 (0 : Int) = Value.int .i64 ((0 : Nat) : Int)
   show Value.int .i64 (0:Int)=Value.int .i64 ((0:Nat):Int)
   first|rfl|(simp;done)
  -- b8: ([] : List (List Dat)) = (AA (AC l 0))
  show ([]:List (List Dat))=(AA (AC l 0))
  first|rfl|(simp;done)
 intro (k:Nat) hki3
 have hki3:k<=l.length/\(l.take k).all AE=true:=hki3
 refine And.symm ⟨λ c9=>?_,λ c9=>?_⟩
 ·-- c9f: (decide (((k : Nat) : Int) < (((AA l).length : Nat) : Int))) = false
  replace c9:(decide (((k:Nat):Int)<(((AA l).length:Nat):Int)))=false:=c9
  try simp only [nrm] at c9
  have hk:l.length=k:=by omega
  have hall:l.all AE=true:=by have:=hki3.2;rwa [← hk,List.take_length] at this
  have hE:=RS (by omega) hall
  have hsl:=Ju l l.length
  have hvs:=AB (AC l k)
  have hvs2:=AB (AC l l.length)
  refine ⟨λ c137=>?_,λ c137=>?_⟩
  ·-- c137t: (decide ((((AA (AC l k)).length : Nat) : Int) < (3 : Int))) = true
   replace c137:(decide ((((AA (AC l k)).length:Nat):Int)<(3:Int)))=true:=c137
   try simp only [nrm] at c137
   -- l138: (AA (AC l k)) = AA (Ar l)
   show (AA (AC l k))=AA (Ar l)
   rw [hE,hk,TN (by omega)]
  -- c137f: (decide ((((AA (AC l k)).length : Nat) : Int) < (3 : Int))) = false
  replace c137:(decide ((((AA (AC l k)).length:Nat):Int)<(3:Int)))=false:=c137
  try simp only [nrm] at c137
  have h3:¬ (AC l l.length).length<3:=by rw [hk];omega
  have hE2:=RV h3
  have hsv:=TJ hall (Nat.le_refl _)
  -- i139
  refine ⟨⟨0,by
   first|trivial|omega|(simp;omega),?_⟩,?_⟩
  ·-- the beginning
   refine ⟨?_,?_,?_⟩
   ·-- b141: Value.int .i64 (IntKind.i64.wrap ((((AA (AC l k)).length : Nat) : Int) - (1 : Int))) = Value.int .i64 ((((AC l l.length).length : Nat) : Int) - 1 - ((0 : Nat) : Int))
    show Value.int .i64 (IntKind.i64.wrap ((((AA (AC l k)).length:Nat):Int)-(1:Int)))=Value.int .i64 ((((AC l l.length).length:Nat):Int)-1-((0:Nat):Int))
    exact AQ (by rw [hvs,← hk,AF (by omega) (by omega)];omega)
   ·-- b142: (AA (AC l k)) = (AA (AC l l.length))
    show (AA (AC l k))=(AA (AC l l.length))
    rw [hk]
   -- b143: ([] : List (List Dat)) = (AA ((AC l l.length).reverse.take 0))
   show ([]:List (List Dat))=(AA ((AC l l.length).reverse.take 0))
   first|rfl|(simp;done)
  intro (j:Nat) hki139
  have hki139:j<=(AC l l.length).length:=hki139
  refine ⟨λ c144=>?_,λ c144=>?_⟩
  ·-- c144t: (decide (((((AC l l.length).length : Nat) : Int) - 1 - ((j : Nat) : Int)) ≥ (0 : Int))) = true
   replace c144:(decide (((((AC l l.length).length:Nat):Int)-1-((j:Nat):Int))≥(0:Int)))=true:=c144
   try simp only [nrm] at c144
   have hj:j<(AC l l.length).length:=by omega
   have hi:(((((AC l l.length).length:Nat):Int)-1-((j:Nat):Int))).toNat=(AC l l.length).length-1-j:=by omega
   refine ao (a:=0<=((((AC l l.length).length:Nat):Int)-1-((j:Nat):Int))/\((((AC l l.length).length:Nat):Int)-1-((j:Nat):Int))<((AA (AC l l.length)).length:Int)) (by first|rfl|omega|(rw [hwA];omega)|(rw [hwB];omega)|(simp only [AB,List.length_append,List.length_take,List.length_drop,List.length_cons,List.length_nil,List.nil_append];omega)|(rw [hwA,Int.toNat_natCast];simp only [AB,List.length_append,List.length_take,List.length_drop,List.length_cons,List.length_nil,List.nil_append];omega)|(rw [hwA,hwB,Int.toNat_natCast,Int.toNat_natCast];simp only [AB,List.length_append,List.length_take,List.length_drop,List.length_cons,List.length_nil,List.nil_append];omega)) λ o145=>?_
   refine ao (a:=((((AC l l.length).length:Nat):Int)-1-((j:Nat):Int)).toNat<(AA (AC l l.length)).length) (by first|rfl|omega|(rw [hwA];omega)|(rw [hwB];omega)|(simp only [AB,List.length_append,List.length_take,List.length_drop,List.length_cons,List.length_nil,List.nil_append];omega)|(rw [hwA,Int.toNat_natCast];simp only [AB,List.length_append,List.length_take,List.length_drop,List.length_cons,List.length_nil,List.nil_append];omega)|(rw [hwA,hwB,Int.toNat_natCast,Int.toNat_natCast];simp only [AB,List.length_append,List.length_take,List.length_drop,List.length_cons,List.length_nil,List.nil_append];omega)) λ o146=>?_
   refine ao (a:=(AA ((AC l l.length).reverse.take j)).length+([[Dat.int (((((AA (AC l l.length)).getD (((((AC l l.length).length:Nat):Int)-1-((j:Nat):Int)).toNat) []).getD 0 (.int 0))).n),Dat.int (((((AA (AC l l.length)).getD (((((AC l l.length).length:Nat):Int)-1-((j:Nat):Int)).toNat) []).getD 1 (.int 0))).n)]]:List (List Dat)).length<=2199023255552) (by first|rfl|omega|(rw [hwA];omega)|(rw [hwB];omega)|(simp only [AB,List.length_append,List.length_take,List.length_drop,List.length_cons,List.length_nil,List.nil_append];omega)|(rw [hwA,Int.toNat_natCast];simp only [AB,List.length_append,List.length_take,List.length_drop,List.length_cons,List.length_nil,List.nil_append];omega)|(rw [hwA,hwB,Int.toNat_natCast,Int.toNat_natCast];simp only [AB,List.length_append,List.length_take,List.length_drop,List.length_cons,List.length_nil,List.nil_append];omega)) λ o147=>?_
   -- n148
   refine ⟨j+1,by
    first|trivial|omega|(simp;omega),by
    first|omega|(simp;omega),?_⟩
   refine ⟨?_,rfl,?_⟩
   ·-- e151: Value.int .i64 (IntKind.i64.wrap (((((AC l l.length).length : Nat) : Int) - 1 - ((j : Nat) : Int)) - (1 : Int))) = Value.int .i64 ((((AC l l.length).length : Nat) : Int) - 1 - (((j + 1) : Nat) : Int))
    show Value.int .i64 (IntKind.i64.wrap (((((AC l l.length).length:Nat):Int)-1-((j:Nat):Int))-(1:Int)))=Value.int .i64 ((((AC l l.length).length:Nat):Int)-1-(((j+1):Nat):Int))
    exact AQ (by rw [AF (by omega) (by omega)];omega)
   -- e153: ((AA ((AC l l.length).reverse.take j)) ++ ([[Dat.int (((((AA (AC l l.length)).getD (((((AC l l.length).length : Nat) : Int) - 1 - ((j : Nat) : Int)).toNat) []).getD 0 (.int 0))).n), Dat.int (((((AA (AC l l.length)).getD (((((AC l l.length).length : Nat) : Int) - 1 - ((j : Nat) : Int)).toNat) []).getD 1 (.int 0))).n)]] : List (List Dat))) = (AA ((AC l l.length).reverse.take 
   show ((AA ((AC l l.length).reverse.take j))++([[Dat.int (((((AA (AC l l.length)).getD (((((AC l l.length).length:Nat):Int)-1-((j:Nat):Int)).toNat) []).getD 0 (.int 0))).n),Dat.int (((((AA (AC l l.length)).getD (((((AC l l.length).length:Nat):Int)-1-((j:Nat):Int)).toNat) []).getD 1 (.int 0))).n)]]:List (List Dat)))=(AA ((AC l l.length).reverse.take (j+1)))
   rw [hi,AT (show (AC l l.length).length-1-j<(AC l l.length).length by omega),AU (show (AC l l.length).length-1-j<(AC l l.length).length by omega)];exact TO hj
  -- c144f: (decide (((((AC l l.length).length : Nat) : Int) - 1 - ((j : Nat) : Int)) ≥ (0 : Int))) = false
  replace c144:(decide (((((AC l l.length).length:Nat):Int)-1-((j:Nat):Int))≥(0:Int)))=false:=c144
  try simp only [nrm] at c144
  have hj:(AC l l.length).reverse.take j=(AC l l.length).reverse:=List.take_of_length_le (by rw [List.length_reverse];omega)
  have hrl:(AC l l.length).reverse.length=(AC l l.length).length:=List.length_reverse
  -- w154: sChain [DA.one (DC.sl 26 [.int, .int] (AA (AC l l.length)))]
  refine ⟨(AC l l.length),by
   rfl,by
   show (AC l l.length).all AE=true/\0<(AC l l.length).length/\(AC l l.length).length<=64
   exact ⟨hsv,by omega,by omega⟩,?_⟩
  -- w157: sChain [DA.one (DC.sl 26 [.int, .int] (AA ((AC l l.length).reverse.take j)))]
  refine ⟨(AC l l.length).reverse,by
   rw [hj];rfl,by
   show ((AC l l.length).reverse).all AE=true/\0<((AC l l.length).reverse).length/\((AC l l.length).reverse).length<=64
   exact ⟨QC hsv,by omega,by omega⟩,?_⟩
  have hA:=QD hsv (by omega)
  have hB:=QD (QC hsv) (by omega)
  have hvA:=AB (chT (AC l l.length) (AC l l.length).length)
  have hvB:=AB (chT (AC l l.length).reverse (AC l l.length).reverse.length)
  have hwA:IntKind.i64.wrap ((((AA (chT (AC l l.length) (AC l l.length).length)).length:Nat):Int)-(1:Int))=(((chT (AC l l.length) (AC l l.length).length).length-1:Nat):Int):=by rw [hvA,AF (by omega) (by omega)];omega
  have hwB:IntKind.i64.wrap ((((AA (chT (AC l l.length).reverse (AC l l.length).reverse.length)).length:Nat):Int)-(1:Int))=(((chT (AC l l.length).reverse (AC l l.length).reverse.length).length-1:Nat):Int):=by rw [hvB,AF (by omega) (by omega)];omega
  refine ao (a:=Nat.beq 2 2=true) (by first|rfl|omega|(rw [hwA];omega)|(rw [hwB];omega)|(simp only [AB,List.length_append,List.length_take,List.length_drop,List.length_cons,List.length_nil,List.nil_append];omega)|(rw [hwA,Int.toNat_natCast];simp only [AB,List.length_append,List.length_take,List.length_drop,List.length_cons,List.length_nil,List.nil_append];omega)|(rw [hwA,hwB,Int.toNat_natCast,Int.toNat_natCast];simp only [AB,List.length_append,List.length_take,List.length_drop,List.length_cons,List.length_nil,List.nil_append];omega)) λ o160=>?_
  refine ao (a:=0<=(0:Int)) (by first|rfl|omega|(rw [hwA];omega)|(rw [hwB];omega)|(simp only [AB,List.length_append,List.length_take,List.length_drop,List.length_cons,List.length_nil,List.nil_append];omega)|(rw [hwA,Int.toNat_natCast];simp only [AB,List.length_append,List.length_take,List.length_drop,List.length_cons,List.length_nil,List.nil_append];omega)|(rw [hwA,hwB,Int.toNat_natCast,Int.toNat_natCast];simp only [AB,List.length_append,List.length_take,List.length_drop,List.length_cons,List.length_nil,List.nil_append];omega)) λ o161=>?_
  refine ao (a:=(0:Int)<=(IntKind.i64.wrap ((((AA (chT (AC l l.length) (AC l l.length).length)).length:Nat):Int)-(1:Int)))) (by first|rfl|omega|(rw [hwA];omega)|(rw [hwB];omega)|(simp only [AB,List.length_append,List.length_take,List.length_drop,List.length_cons,List.length_nil,List.nil_append];omega)|(rw [hwA,Int.toNat_natCast];simp only [AB,List.length_append,List.length_take,List.length_drop,List.length_cons,List.length_nil,List.nil_append];omega)|(rw [hwA,hwB,Int.toNat_natCast,Int.toNat_natCast];simp only [AB,List.length_append,List.length_take,List.length_drop,List.length_cons,List.length_nil,List.nil_append];omega)) λ o162=>?_
  refine ao (a:=(IntKind.i64.wrap ((((AA (chT (AC l l.length) (AC l l.length).length)).length:Nat):Int)-(1:Int)))<=((AA (chT (AC l l.length) (AC l l.length).length)).length:Int)) (by first|rfl|omega|(rw [hwA];omega)|(rw [hwB];omega)|(simp only [AB,List.length_append,List.length_take,List.length_drop,List.length_cons,List.length_nil,List.nil_append];omega)|(rw [hwA,Int.toNat_natCast];simp only [AB,List.length_append,List.length_take,List.length_drop,List.length_cons,List.length_nil,List.nil_append];omega)|(rw [hwA,hwB,Int.toNat_natCast,Int.toNat_natCast];simp only [AB,List.length_append,List.length_take,List.length_drop,List.length_cons,List.length_nil,List.nil_append];omega)) λ o163=>?_
  refine ao (a:=([]:List (List Dat)).length+((AA (chT (AC l l.length) (AC l l.length).length)).take ((IntKind.i64.wrap ((((AA (chT (AC l l.length) (AC l l.length).length)).length:Nat):Int)-(1:Int))).toNat)).length<=2199023255552) (by first|rfl|omega|(rw [hwA];omega)|(rw [hwB];omega)|(simp only [AB,List.length_append,List.length_take,List.length_drop,List.length_cons,List.length_nil,List.nil_append];omega)|(rw [hwA,Int.toNat_natCast];simp only [AB,List.length_append,List.length_take,List.length_drop,List.length_cons,List.length_nil,List.nil_append];omega)|(rw [hwA,hwB,Int.toNat_natCast,Int.toNat_natCast];simp only [AB,List.length_append,List.length_take,List.length_drop,List.length_cons,List.length_nil,List.nil_append];omega)) λ o164=>?_
  refine ao (a:=Nat.beq 2 2=true) (by first|rfl|omega|(rw [hwA];omega)|(rw [hwB];omega)|(simp only [AB,List.length_append,List.length_take,List.length_drop,List.length_cons,List.length_nil,List.nil_append];omega)|(rw [hwA,Int.toNat_natCast];simp only [AB,List.length_append,List.length_take,List.length_drop,List.length_cons,List.length_nil,List.nil_append];omega)|(rw [hwA,hwB,Int.toNat_natCast,Int.toNat_natCast];simp only [AB,List.length_append,List.length_take,List.length_drop,List.length_cons,List.length_nil,List.nil_append];omega)) λ o165=>?_
  refine ao (a:=0<=(0:Int)) (by first|rfl|omega|(rw [hwA];omega)|(rw [hwB];omega)|(simp only [AB,List.length_append,List.length_take,List.length_drop,List.length_cons,List.length_nil,List.nil_append];omega)|(rw [hwA,Int.toNat_natCast];simp only [AB,List.length_append,List.length_take,List.length_drop,List.length_cons,List.length_nil,List.nil_append];omega)|(rw [hwA,hwB,Int.toNat_natCast,Int.toNat_natCast];simp only [AB,List.length_append,List.length_take,List.length_drop,List.length_cons,List.length_nil,List.nil_append];omega)) λ o166=>?_
  refine ao (a:=(0:Int)<=(IntKind.i64.wrap ((((AA (chT ((AC l l.length).reverse) ((AC l l.length).reverse).length)).length:Nat):Int)-(1:Int)))) (by first|rfl|omega|(rw [hwA];omega)|(rw [hwB];omega)|(simp only [AB,List.length_append,List.length_take,List.length_drop,List.length_cons,List.length_nil,List.nil_append];omega)|(rw [hwA,Int.toNat_natCast];simp only [AB,List.length_append,List.length_take,List.length_drop,List.length_cons,List.length_nil,List.nil_append];omega)|(rw [hwA,hwB,Int.toNat_natCast,Int.toNat_natCast];simp only [AB,List.length_append,List.length_take,List.length_drop,List.length_cons,List.length_nil,List.nil_append];omega)) λ o167=>?_
  refine ao (a:=(IntKind.i64.wrap ((((AA (chT ((AC l l.length).reverse) ((AC l l.length).reverse).length)).length:Nat):Int)-(1:Int)))<=((AA (chT ((AC l l.length).reverse) ((AC l l.length).reverse).length)).length:Int)) (by first|rfl|omega|(rw [hwA];omega)|(rw [hwB];omega)|(simp only [AB,List.length_append,List.length_take,List.length_drop,List.length_cons,List.length_nil,List.nil_append];omega)|(rw [hwA,Int.toNat_natCast];simp only [AB,List.length_append,List.length_take,List.length_drop,List.length_cons,List.length_nil,List.nil_append];omega)|(rw [hwA,hwB,Int.toNat_natCast,Int.toNat_natCast];simp only [AB,List.length_append,List.length_take,List.length_drop,List.length_cons,List.length_nil,List.nil_append];omega)) λ o168=>?_
  refine ao (a:=(([]:List (List Dat))++((AA (chT (AC l l.length) (AC l l.length).length)).take ((IntKind.i64.wrap ((((AA (chT (AC l l.length) (AC l l.length).length)).length:Nat):Int)-(1:Int))).toNat))).length+((AA (chT ((AC l l.length).reverse) ((AC l l.length).reverse).length)).take ((IntKind.i64.wrap ((((AA (chT ((AC l l.length).reverse) ((AC l l.length).reverse).length)).length:Nat):Int)-(1:Int))).toNat)).length<=2199023255552) (by first|rfl|omega|(rw [hwA];omega)|(rw [hwB];omega)|(simp only [AB,List.length_append,List.length_take,List.length_drop,List.length_cons,List.length_nil,List.nil_append];omega)|(rw [hwA,Int.toNat_natCast];simp only [AB,List.length_append,List.length_take,List.length_drop,List.length_cons,List.length_nil,List.nil_append];omega)|(rw [hwA,hwB,Int.toNat_natCast,Int.toNat_natCast];simp only [AB,List.length_append,List.length_take,List.length_drop,List.length_cons,List.length_nil,List.nil_append];omega)) λ o169=>?_
  -- l170: ((([] : List (List Dat)) ++ ((AA (chT (AC l l.length) (AC l l.length).length)).take ((IntKind.i64.wrap ((((AA (chT (AC l l.length) (AC l l.length).length)).length : Nat) : Int) - (1 : Int))).toNat))) ++ ((AA (chT ((AC l l.length).reverse) ((AC l l.length).reverse).length)).take ((IntKind.i64.wrap ((((AA (chT ((AC l l.length).reverse) ((AC l l.length).reverse).length)).l
  show ((([]:List (List Dat))++((AA (chT (AC l l.length) (AC l l.length).length)).take ((IntKind.i64.wrap ((((AA (chT (AC l l.length) (AC l l.length).length)).length:Nat):Int)-(1:Int))).toNat)))++((AA (chT ((AC l l.length).reverse) ((AC l l.length).reverse).length)).take ((IntKind.i64.wrap ((((AA (chT ((AC l l.length).reverse) ((AC l l.length).reverse).length)).length:Nat):Int)-(1:Int))).toNat)))=AA (Ar l)
  rw [hE,hE2,hwA,hwB,Int.toNat_natCast,Int.toNat_natCast,List.nil_append,Ne,Ne,Fw]
 -- c9t: (decide (((k : Nat) : Int) < (((AA l).length : Nat) : Int))) = true
 replace c9:(decide (((k:Nat):Int)<(((AA l).length:Nat):Int)))=true:=c9
 try simp only [nrm] at c9
 have hkl:k<l.length:=by omega
 have hsl:=Ju l k
 have hvs:=AB (AC l k)
 refine ao (a:=0<=((k:Nat):Int)/\((k:Nat):Int)<((AA l).length:Int)) (by first|rfl|omega|(rw [hwA];omega)|(rw [hwB];omega)|(simp only [AB,List.length_append,List.length_take,List.length_drop,List.length_cons,List.length_nil,List.nil_append];omega)|(rw [hwA,Int.toNat_natCast];simp only [AB,List.length_append,List.length_take,List.length_drop,List.length_cons,List.length_nil,List.nil_append];omega)|(rw [hwA,hwB,Int.toNat_natCast,Int.toNat_natCast];simp only [AB,List.length_append,List.length_take,List.length_drop,List.length_cons,List.length_nil,List.nil_append];omega)) λ o10=>?_
 refine ao (a:=k<(AA l).length) (by first|rfl|omega|(rw [hwA];omega)|(rw [hwB];omega)|(simp only [AB,List.length_append,List.length_take,List.length_drop,List.length_cons,List.length_nil,List.nil_append];omega)|(rw [hwA,Int.toNat_natCast];simp only [AB,List.length_append,List.length_take,List.length_drop,List.length_cons,List.length_nil,List.nil_append];omega)|(rw [hwA,hwB,Int.toNat_natCast,Int.toNat_natCast];simp only [AB,List.length_append,List.length_take,List.length_drop,List.length_cons,List.length_nil,List.nil_append];omega)) λ o11=>?_
 -- w12: sIsVec [DA.agg [DC.im (Value.int .i64 ((((AA l).getD k []).getD 0 (.int 0))).n), DC.im (Value.int .i64 ((((AA l).getD k []).getD 1 (.int 0))).n)]]
 refine ⟨((l.getD k (0,0)).1,(l.getD k (0,0)).2),by
  rw [AT hkl,AU hkl];rfl,by
  first|trivial|(first|omega|assumption|exact hpre.1|exact hpre.2|(simp;done)),?_⟩
 refine ⟨λ c15=>?_,λ c15=>?_⟩
 ·-- c15t: (!(AE (((l.getD k (0, 0)).1), ((l.getD k (0, 0)).2)))) = true
  replace c15:(!(AE (((l.getD k (0,0)).1),((l.getD k (0,0)).2))))=true:=c15
  try simp only [nrm] at c15
  have hE:Ar l=[]:=TL hkl c15
  -- l16: ([] : List (List Dat)) = AA (Ar l)
  show ([]:List (List Dat))=AA (Ar l)
  first|(rw [hE];done)|(rw [hE];rfl)
 -- c15f: (!(AE (((l.getD k (0, 0)).1), ((l.getD k (0, 0)).2)))) = false
 replace c15:(!(AE (((l.getD k (0,0)).1),((l.getD k (0,0)).2))))=false:=c15
 try simp only [nrm] at c15
 -- i17
 refine ⟨⟨0,by
  exact ⟨Nat.zero_le _,λ j hj=>absurd hj (Nat.not_lt_zero j)⟩,?_⟩,?_⟩
 ·-- the beginning
  refine ⟨rfl,rfl,?_,rfl,rfl,rfl,rfl⟩
  -- b21: Value.int .i64 (0 : Int) = Value.int .i64 ((0 : Nat) : Int)
  show Value.int .i64 (0:Int)=Value.int .i64 ((0:Nat):Int)
  first|rfl|(simp;done)
 intro (n:Nat) hki17
 have hki17:n<=(AC l k).length/\∀ j,j<n->Au ((AC l k).getD j (0,0)) (l.getD k (0,0))=true:=hki17
 refine And.symm ⟨λ c26=>?_,λ c26=>?_⟩
 ·-- c26f: (decide (((n : Nat) : Int) < (((AA (AC l k)).length : Nat) : Int))) = false
  replace c26:(decide (((n:Nat):Int)<(((AA (AC l k)).length:Nat):Int)))=false:=c26
  try simp only [nrm] at c26
  refine ⟨λ c90=>?_,λ c90=>?_⟩
  ·-- c90t: (decide (((n : Nat) : Int) < (((AA (AC l k)).length : Nat) : Int))) = true
   replace c90:(decide (((n:Nat):Int)<(((AA (AC l k)).length:Nat):Int)))=true:=c90
   try simp only [nrm] at c90
   exfalso;omega -- done
  -- c90f: (decide (((n : Nat) : Int) < (((AA (AC l k)).length : Nat) : Int))) = false
  replace c90:(decide (((n:Nat):Int)<(((AA (AC l k)).length:Nat):Int)))=false:=c90
  try simp only [nrm] at c90
  refine ao (a:=Nat.beq 2 2=true) (by first|rfl|omega|(rw [hwA];omega)|(rw [hwB];omega)|(simp only [AB,List.length_append,List.length_take,List.length_drop,List.length_cons,List.length_nil,List.nil_append];omega)|(rw [hwA,Int.toNat_natCast];simp only [AB,List.length_append,List.length_take,List.length_drop,List.length_cons,List.length_nil,List.nil_append];omega)|(rw [hwA,hwB,Int.toNat_natCast,Int.toNat_natCast];simp only [AB,List.length_append,List.length_take,List.length_drop,List.length_cons,List.length_nil,List.nil_append];omega)) λ o119=>?_
  refine ao (a:=0<=(0:Int)) (by first|rfl|omega|(rw [hwA];omega)|(rw [hwB];omega)|(simp only [AB,List.length_append,List.length_take,List.length_drop,List.length_cons,List.length_nil,List.nil_append];omega)|(rw [hwA,Int.toNat_natCast];simp only [AB,List.length_append,List.length_take,List.length_drop,List.length_cons,List.length_nil,List.nil_append];omega)|(rw [hwA,hwB,Int.toNat_natCast,Int.toNat_natCast];simp only [AB,List.length_append,List.length_take,List.length_drop,List.length_cons,List.length_nil,List.nil_append];omega)) λ o120=>?_
  refine ao (a:=(0:Int)<=((n:Nat):Int)) (by first|rfl|omega|(rw [hwA];omega)|(rw [hwB];omega)|(simp only [AB,List.length_append,List.length_take,List.length_drop,List.length_cons,List.length_nil,List.nil_append];omega)|(rw [hwA,Int.toNat_natCast];simp only [AB,List.length_append,List.length_take,List.length_drop,List.length_cons,List.length_nil,List.nil_append];omega)|(rw [hwA,hwB,Int.toNat_natCast,Int.toNat_natCast];simp only [AB,List.length_append,List.length_take,List.length_drop,List.length_cons,List.length_nil,List.nil_append];omega)) λ o121=>?_
  refine ao (a:=((n:Nat):Int)<=((AA (AC l k)).length:Int)) (by first|rfl|omega|(rw [hwA];omega)|(rw [hwB];omega)|(simp only [AB,List.length_append,List.length_take,List.length_drop,List.length_cons,List.length_nil,List.nil_append];omega)|(rw [hwA,Int.toNat_natCast];simp only [AB,List.length_append,List.length_take,List.length_drop,List.length_cons,List.length_nil,List.nil_append];omega)|(rw [hwA,hwB,Int.toNat_natCast,Int.toNat_natCast];simp only [AB,List.length_append,List.length_take,List.length_drop,List.length_cons,List.length_nil,List.nil_append];omega)) λ o122=>?_
  refine ao (a:=([]:List (List Dat)).length+((AA (AC l k)).take n).length<=2199023255552) (by first|rfl|omega|(rw [hwA];omega)|(rw [hwB];omega)|(simp only [AB,List.length_append,List.length_take,List.length_drop,List.length_cons,List.length_nil,List.nil_append];omega)|(rw [hwA,Int.toNat_natCast];simp only [AB,List.length_append,List.length_take,List.length_drop,List.length_cons,List.length_nil,List.nil_append];omega)|(rw [hwA,hwB,Int.toNat_natCast,Int.toNat_natCast];simp only [AB,List.length_append,List.length_take,List.length_drop,List.length_cons,List.length_nil,List.nil_append];omega)) λ o123=>?_
  refine ao (a:=(([]:List (List Dat))++((AA (AC l k)).take n)).length+([[Dat.int (((((AA l).getD k []).getD 0 (.int 0))).n),Dat.int (((((AA l).getD k []).getD 1 (.int 0))).n)]]:List (List Dat)).length<=2199023255552) (by first|rfl|omega|(rw [hwA];omega)|(rw [hwB];omega)|(simp only [AB,List.length_append,List.length_take,List.length_drop,List.length_cons,List.length_nil,List.nil_append];omega)|(rw [hwA,Int.toNat_natCast];simp only [AB,List.length_append,List.length_take,List.length_drop,List.length_cons,List.length_nil,List.nil_append];omega)|(rw [hwA,hwB,Int.toNat_natCast,Int.toNat_natCast];simp only [AB,List.length_append,List.length_take,List.length_drop,List.length_cons,List.length_nil,List.nil_append];omega)) λ o124=>?_
  refine ao (a:=Nat.beq 2 2=true) (by first|rfl|omega|(rw [hwA];omega)|(rw [hwB];omega)|(simp only [AB,List.length_append,List.length_take,List.length_drop,List.length_cons,List.length_nil,List.nil_append];omega)|(rw [hwA,Int.toNat_natCast];simp only [AB,List.length_append,List.length_take,List.length_drop,List.length_cons,List.length_nil,List.nil_append];omega)|(rw [hwA,hwB,Int.toNat_natCast,Int.toNat_natCast];simp only [AB,List.length_append,List.length_take,List.length_drop,List.length_cons,List.length_nil,List.nil_append];omega)) λ o125=>?_
  refine ao (a:=0<=((n:Nat):Int)) (by first|rfl|omega|(rw [hwA];omega)|(rw [hwB];omega)|(simp only [AB,List.length_append,List.length_take,List.length_drop,List.length_cons,List.length_nil,List.nil_append];omega)|(rw [hwA,Int.toNat_natCast];simp only [AB,List.length_append,List.length_take,List.length_drop,List.length_cons,List.length_nil,List.nil_append];omega)|(rw [hwA,hwB,Int.toNat_natCast,Int.toNat_natCast];simp only [AB,List.length_append,List.length_take,List.length_drop,List.length_cons,List.length_nil,List.nil_append];omega)) λ o126=>?_
  refine ao (a:=((n:Nat):Int)<=((AA (AC l k)).length:Int)) (by first|rfl|omega|(rw [hwA];omega)|(rw [hwB];omega)|(simp only [AB,List.length_append,List.length_take,List.length_drop,List.length_cons,List.length_nil,List.nil_append];omega)|(rw [hwA,Int.toNat_natCast];simp only [AB,List.length_append,List.length_take,List.length_drop,List.length_cons,List.length_nil,List.nil_append];omega)|(rw [hwA,hwB,Int.toNat_natCast,Int.toNat_natCast];simp only [AB,List.length_append,List.length_take,List.length_drop,List.length_cons,List.length_nil,List.nil_append];omega)) λ o127=>?_
  refine ao (a:=((AA (AC l k)).length:Int)<=((AA (AC l k)).length:Int)) (by first|rfl|omega|(rw [hwA];omega)|(rw [hwB];omega)|(simp only [AB,List.length_append,List.length_take,List.length_drop,List.length_cons,List.length_nil,List.nil_append];omega)|(rw [hwA,Int.toNat_natCast];simp only [AB,List.length_append,List.length_take,List.length_drop,List.length_cons,List.length_nil,List.nil_append];omega)|(rw [hwA,hwB,Int.toNat_natCast,Int.toNat_natCast];simp only [AB,List.length_append,List.length_take,List.length_drop,List.length_cons,List.length_nil,List.nil_append];omega)) λ o128=>?_
  refine ao (a:=((([]:List (List Dat))++((AA (AC l k)).take n))++([[Dat.int (((((AA l).getD k []).getD 0 (.int 0))).n),Dat.int (((((AA l).getD k []).getD 1 (.int 0))).n)]]:List (List Dat))).length+(((AA (AC l k)).take (((AA (AC l k)).length:Int).toNat)).drop n).length<=2199023255552) (by first|rfl|omega|(rw [hwA];omega)|(rw [hwB];omega)|(simp only [AB,List.length_append,List.length_take,List.length_drop,List.length_cons,List.length_nil,List.nil_append];omega)|(rw [hwA,Int.toNat_natCast];simp only [AB,List.length_append,List.length_take,List.length_drop,List.length_cons,List.length_nil,List.nil_append];omega)|(rw [hwA,hwB,Int.toNat_natCast,Int.toNat_natCast];simp only [AB,List.length_append,List.length_take,List.length_drop,List.length_cons,List.length_nil,List.nil_append];omega)) λ o129=>?_
  -- n130
  refine ⟨k+1,by
   exact ⟨by omega,L7 hkl hki3.2 c15⟩,by
   first|omega|(simp;omega),?_⟩
  refine ⟨rfl,?_,rfl,?_⟩
  ·-- e134: Value.int .i64 (IntKind.i64.wrap (((k : Nat) : Int) + (1 : Int))) = Value.int .i64 (((k + 1) : Nat) : Int)
   show Value.int .i64 (IntKind.i64.wrap (((k:Nat):Int)+(1:Int)))=Value.int .i64 (((k+1):Nat):Int)
   first|rfl|exact AQ (AF (by omega) (by omega))
  -- e136: (((([] : List (List Dat)) ++ ((AA (AC l k)).take n)) ++ ([[Dat.int (((((AA l).getD k []).getD 0 (.int 0))).n), Dat.int (((((AA l).getD k []).getD 1 (.int 0))).n)]] : List (List Dat))) ++ (((AA (AC l k)).take (((AA (AC l k)).length : Int).toNat)).drop n)) = (AA (AC l (k + 1)))
  show (((([]:List (List Dat))++((AA (AC l k)).take n))++([[Dat.int (((((AA l).getD k []).getD 0 (.int 0))).n),Dat.int (((((AA l).getD k []).getD 1 (.int 0))).n)]]:List (List Dat)))++(((AA (AC l k)).take (((AA (AC l k)).length:Int).toNat)).drop n))=(AA (AC l (k+1)))
  rw [AT hkl,AU hkl,Nf,QB (by omega) hki17.2 (λ h=>absurd h (by omega)) (λ h=>absurd h (by omega))]
 -- c26t: (decide (((n : Nat) : Int) < (((AA (AC l k)).length : Nat) : Int))) = true
 replace c26:(decide (((n:Nat):Int)<(((AA (AC l k)).length:Nat):Int)))=true:=c26
 try simp only [nrm] at c26
 have hn:n<(AC l k).length:=by omega
 refine ao (a:=0<=((n:Nat):Int)/\((n:Nat):Int)<((AA (AC l k)).length:Int)) (by first|rfl|omega|(rw [hwA];omega)|(rw [hwB];omega)|(simp only [AB,List.length_append,List.length_take,List.length_drop,List.length_cons,List.length_nil,List.nil_append];omega)|(rw [hwA,Int.toNat_natCast];simp only [AB,List.length_append,List.length_take,List.length_drop,List.length_cons,List.length_nil,List.nil_append];omega)|(rw [hwA,hwB,Int.toNat_natCast,Int.toNat_natCast];simp only [AB,List.length_append,List.length_take,List.length_drop,List.length_cons,List.length_nil,List.nil_append];omega)) λ o27=>?_
 refine ao (a:=n<(AA (AC l k)).length) (by first|rfl|omega|(rw [hwA];omega)|(rw [hwB];omega)|(simp only [AB,List.length_append,List.length_take,List.length_drop,List.length_cons,List.length_nil,List.nil_append];omega)|(rw [hwA,Int.toNat_natCast];simp only [AB,List.length_append,List.length_take,List.length_drop,List.length_cons,List.length_nil,List.nil_append];omega)|(rw [hwA,hwB,Int.toNat_natCast,Int.toNat_natCast];simp only [AB,List.length_append,List.length_take,List.length_drop,List.length_cons,List.length_nil,List.nil_append];omega)) λ o28=>?_
 -- w29: l06Less [DA.agg [DC.im (Value.int .i64 ((((AA (AC l k)).getD n []).getD 0 (.int 0))).n), DC.im (Value.int .i64 ((((AA (AC l k)).getD n []).getD 1 (.int 0))).n)], DA.agg [DC.im (Value.int .i64 ((((AA l).getD k []).getD 0 (.int 0))).n), DC.im (Value.int .i64 ((((AA l).getD k []).getD 1 (.int 0
 refine ⟨(((AC l k).getD n (0,0)).1,((AC l k).getD n (0,0)).2,(l.getD k (0,0)).1,(l.getD k (0,0)).2),by
  rw [AT hn,AU hn,AT hkl,AU hkl];rfl,by
  first|trivial|(first|omega|assumption|exact hpre.1|exact hpre.2|(simp;done)),?_⟩
 refine ⟨λ c32=>?_,λ c32=>?_⟩
 ·-- c32t: (Au ((((AC l k).getD n (0, 0)).1), (((AC l k).getD n (0, 0)).2)) (((l.getD k (0, 0)).1), ((l.getD k (0, 0)).2))) = true
  replace c32:(Au ((((AC l k).getD n (0,0)).1),(((AC l k).getD n (0,0)).2)) (((l.getD k (0,0)).1),((l.getD k (0,0)).2)))=true:=c32
  try simp only [nrm] at c32
  -- n33
  refine ⟨n+1,by
   exact ⟨by omega,TK hki17.2 c32⟩,by
   first|omega|(simp;omega),?_⟩
  refine ⟨rfl,rfl,?_,rfl,rfl,rfl,rfl⟩
  -- e38: Value.int .i64 (IntKind.i64.wrap (((n : Nat) : Int) + (1 : Int))) = Value.int .i64 (((n + 1) : Nat) : Int)
  show Value.int .i64 (IntKind.i64.wrap (((n:Nat):Int)+(1:Int)))=Value.int .i64 (((n+1):Nat):Int)
  first|rfl|exact AQ (AF (by omega) (by omega))
 -- c32f: (Au ((((AC l k).getD n (0, 0)).1), (((AC l k).getD n (0, 0)).2)) (((l.getD k (0, 0)).1), ((l.getD k (0, 0)).2))) = false
 replace c32:(Au ((((AC l k).getD n (0,0)).1),(((AC l k).getD n (0,0)).2)) (((l.getD k (0,0)).1),((l.getD k (0,0)).2)))=false:=c32
 try simp only [nrm] at c32
 refine And.symm ⟨λ c43=>?_,λ c43=>?_⟩
 ·-- c43f: (decide (((n : Nat) : Int) < (((AA (AC l k)).length : Nat) : Int))) = false
  replace c43:(decide (((n:Nat):Int)<(((AA (AC l k)).length:Nat):Int)))=false:=c43
  try simp only [nrm] at c43
  exfalso;omega -- done
 -- c43t: (decide (((n : Nat) : Int) < (((AA (AC l k)).length : Nat) : Int))) = true
 replace c43:(decide (((n:Nat):Int)<(((AA (AC l k)).length:Nat):Int)))=true:=c43
 try simp only [nrm] at c43
 refine ao (a:=0<=((n:Nat):Int)/\((n:Nat):Int)<((AA (AC l k)).length:Int)) (by first|rfl|omega|(rw [hwA];omega)|(rw [hwB];omega)|(simp only [AB,List.length_append,List.length_take,List.length_drop,List.length_cons,List.length_nil,List.nil_append];omega)|(rw [hwA,Int.toNat_natCast];simp only [AB,List.length_append,List.length_take,List.length_drop,List.length_cons,List.length_nil,List.nil_append];omega)|(rw [hwA,hwB,Int.toNat_natCast,Int.toNat_natCast];simp only [AB,List.length_append,List.length_take,List.length_drop,List.length_cons,List.length_nil,List.nil_append];omega)) λ o44=>?_
 refine ao (a:=n<(AA (AC l k)).length) (by first|rfl|omega|(rw [hwA];omega)|(rw [hwB];omega)|(simp only [AB,List.length_append,List.length_take,List.length_drop,List.length_cons,List.length_nil,List.nil_append];omega)|(rw [hwA,Int.toNat_natCast];simp only [AB,List.length_append,List.length_take,List.length_drop,List.length_cons,List.length_nil,List.nil_append];omega)|(rw [hwA,hwB,Int.toNat_natCast,Int.toNat_natCast];simp only [AB,List.length_append,List.length_take,List.length_drop,List.length_cons,List.length_nil,List.nil_append];omega)) λ o45=>?_
 refine ⟨λ c46=>?_,λ c46=>?_⟩
 ·-- c46t: ([((((AA (AC l k)).getD n []).getD 0 (.int 0))).n, ((((AA (AC l k)).getD n []).getD 1 (.int 0))).n] == [((((AA l).getD k []).getD 0 (.int 0))).n, ((((AA l).getD k []).getD 1 (.int 0))).n]) = true
  try dsimp only at c46
  try simp only [nrm] at c46
  rw [AT hn,AU hn,AT hkl,AU hkl] at c46
  have hq:=VG c46
  -- n47
  refine ⟨k+1,by
   exact ⟨by omega,L7 hkl hki3.2 c15⟩,by
   first|omega|(simp;omega),?_⟩
  refine ⟨rfl,?_,rfl,?_⟩
  ·-- e51: Value.int .i64 (IntKind.i64.wrap (((k : Nat) : Int) + (1 : Int))) = Value.int .i64 (((k + 1) : Nat) : Int)
   show Value.int .i64 (IntKind.i64.wrap (((k:Nat):Int)+(1:Int)))=Value.int .i64 (((k+1):Nat):Int)
   first|rfl|exact AQ (AF (by omega) (by omega))
  -- e53: (AA (AC l k)) = (AA (AC l (k + 1)))
  show (AA (AC l k))=(AA (AC l (k+1)))
  rw [TM hn hki17.2 c32 hq]
 -- c46f: ([((((AA (AC l k)).getD n []).getD 0 (.int 0))).n, ((((AA (AC l k)).getD n []).getD 1 (.int 0))).n] == [((((AA l).getD k []).getD 0 (.int 0))).n, ((((AA l).getD k []).getD 1 (.int 0))).n]) = false
 try dsimp only at c46
 try simp only [nrm] at c46
 rw [AT hn,AU hn,AT hkl,AU hkl] at c46
 refine ao (a:=Nat.beq 2 2=true) (by first|rfl|omega|(rw [hwA];omega)|(rw [hwB];omega)|(simp only [AB,List.length_append,List.length_take,List.length_drop,List.length_cons,List.length_nil,List.nil_append];omega)|(rw [hwA,Int.toNat_natCast];simp only [AB,List.length_append,List.length_take,List.length_drop,List.length_cons,List.length_nil,List.nil_append];omega)|(rw [hwA,hwB,Int.toNat_natCast,Int.toNat_natCast];simp only [AB,List.length_append,List.length_take,List.length_drop,List.length_cons,List.length_nil,List.nil_append];omega)) λ o54=>?_
 refine ao (a:=0<=(0:Int)) (by first|rfl|omega|(rw [hwA];omega)|(rw [hwB];omega)|(simp only [AB,List.length_append,List.length_take,List.length_drop,List.length_cons,List.length_nil,List.nil_append];omega)|(rw [hwA,Int.toNat_natCast];simp only [AB,List.length_append,List.length_take,List.length_drop,List.length_cons,List.length_nil,List.nil_append];omega)|(rw [hwA,hwB,Int.toNat_natCast,Int.toNat_natCast];simp only [AB,List.length_append,List.length_take,List.length_drop,List.length_cons,List.length_nil,List.nil_append];omega)) λ o55=>?_
 refine ao (a:=(0:Int)<=((n:Nat):Int)) (by first|rfl|omega|(rw [hwA];omega)|(rw [hwB];omega)|(simp only [AB,List.length_append,List.length_take,List.length_drop,List.length_cons,List.length_nil,List.nil_append];omega)|(rw [hwA,Int.toNat_natCast];simp only [AB,List.length_append,List.length_take,List.length_drop,List.length_cons,List.length_nil,List.nil_append];omega)|(rw [hwA,hwB,Int.toNat_natCast,Int.toNat_natCast];simp only [AB,List.length_append,List.length_take,List.length_drop,List.length_cons,List.length_nil,List.nil_append];omega)) λ o56=>?_
 refine ao (a:=((n:Nat):Int)<=((AA (AC l k)).length:Int)) (by first|rfl|omega|(rw [hwA];omega)|(rw [hwB];omega)|(simp only [AB,List.length_append,List.length_take,List.length_drop,List.length_cons,List.length_nil,List.nil_append];omega)|(rw [hwA,Int.toNat_natCast];simp only [AB,List.length_append,List.length_take,List.length_drop,List.length_cons,List.length_nil,List.nil_append];omega)|(rw [hwA,hwB,Int.toNat_natCast,Int.toNat_natCast];simp only [AB,List.length_append,List.length_take,List.length_drop,List.length_cons,List.length_nil,List.nil_append];omega)) λ o57=>?_
 refine ao (a:=([]:List (List Dat)).length+((AA (AC l k)).take n).length<=2199023255552) (by first|rfl|omega|(rw [hwA];omega)|(rw [hwB];omega)|(simp only [AB,List.length_append,List.length_take,List.length_drop,List.length_cons,List.length_nil,List.nil_append];omega)|(rw [hwA,Int.toNat_natCast];simp only [AB,List.length_append,List.length_take,List.length_drop,List.length_cons,List.length_nil,List.nil_append];omega)|(rw [hwA,hwB,Int.toNat_natCast,Int.toNat_natCast];simp only [AB,List.length_append,List.length_take,List.length_drop,List.length_cons,List.length_nil,List.nil_append];omega)) λ o58=>?_
 refine ao (a:=(([]:List (List Dat))++((AA (AC l k)).take n)).length+([[Dat.int (((((AA l).getD k []).getD 0 (.int 0))).n),Dat.int (((((AA l).getD k []).getD 1 (.int 0))).n)]]:List (List Dat)).length<=2199023255552) (by first|rfl|omega|(rw [hwA];omega)|(rw [hwB];omega)|(simp only [AB,List.length_append,List.length_take,List.length_drop,List.length_cons,List.length_nil,List.nil_append];omega)|(rw [hwA,Int.toNat_natCast];simp only [AB,List.length_append,List.length_take,List.length_drop,List.length_cons,List.length_nil,List.nil_append];omega)|(rw [hwA,hwB,Int.toNat_natCast,Int.toNat_natCast];simp only [AB,List.length_append,List.length_take,List.length_drop,List.length_cons,List.length_nil,List.nil_append];omega)) λ o59=>?_
 refine ao (a:=Nat.beq 2 2=true) (by first|rfl|omega|(rw [hwA];omega)|(rw [hwB];omega)|(simp only [AB,List.length_append,List.length_take,List.length_drop,List.length_cons,List.length_nil,List.nil_append];omega)|(rw [hwA,Int.toNat_natCast];simp only [AB,List.length_append,List.length_take,List.length_drop,List.length_cons,List.length_nil,List.nil_append];omega)|(rw [hwA,hwB,Int.toNat_natCast,Int.toNat_natCast];simp only [AB,List.length_append,List.length_take,List.length_drop,List.length_cons,List.length_nil,List.nil_append];omega)) λ o60=>?_
 refine ao (a:=0<=((n:Nat):Int)) (by first|rfl|omega|(rw [hwA];omega)|(rw [hwB];omega)|(simp only [AB,List.length_append,List.length_take,List.length_drop,List.length_cons,List.length_nil,List.nil_append];omega)|(rw [hwA,Int.toNat_natCast];simp only [AB,List.length_append,List.length_take,List.length_drop,List.length_cons,List.length_nil,List.nil_append];omega)|(rw [hwA,hwB,Int.toNat_natCast,Int.toNat_natCast];simp only [AB,List.length_append,List.length_take,List.length_drop,List.length_cons,List.length_nil,List.nil_append];omega)) λ o61=>?_
 refine ao (a:=((n:Nat):Int)<=((AA (AC l k)).length:Int)) (by first|rfl|omega|(rw [hwA];omega)|(rw [hwB];omega)|(simp only [AB,List.length_append,List.length_take,List.length_drop,List.length_cons,List.length_nil,List.nil_append];omega)|(rw [hwA,Int.toNat_natCast];simp only [AB,List.length_append,List.length_take,List.length_drop,List.length_cons,List.length_nil,List.nil_append];omega)|(rw [hwA,hwB,Int.toNat_natCast,Int.toNat_natCast];simp only [AB,List.length_append,List.length_take,List.length_drop,List.length_cons,List.length_nil,List.nil_append];omega)) λ o62=>?_
 refine ao (a:=((AA (AC l k)).length:Int)<=((AA (AC l k)).length:Int)) (by first|rfl|omega|(rw [hwA];omega)|(rw [hwB];omega)|(simp only [AB,List.length_append,List.length_take,List.length_drop,List.length_cons,List.length_nil,List.nil_append];omega)|(rw [hwA,Int.toNat_natCast];simp only [AB,List.length_append,List.length_take,List.length_drop,List.length_cons,List.length_nil,List.nil_append];omega)|(rw [hwA,hwB,Int.toNat_natCast,Int.toNat_natCast];simp only [AB,List.length_append,List.length_take,List.length_drop,List.length_cons,List.length_nil,List.nil_append];omega)) λ o63=>?_
 refine ao (a:=((([]:List (List Dat))++((AA (AC l k)).take n))++([[Dat.int (((((AA l).getD k []).getD 0 (.int 0))).n),Dat.int (((((AA l).getD k []).getD 1 (.int 0))).n)]]:List (List Dat))).length+(((AA (AC l k)).take (((AA (AC l k)).length:Int).toNat)).drop n).length<=2199023255552) (by first|rfl|omega|(rw [hwA];omega)|(rw [hwB];omega)|(simp only [AB,List.length_append,List.length_take,List.length_drop,List.length_cons,List.length_nil,List.nil_append];omega)|(rw [hwA,Int.toNat_natCast];simp only [AB,List.length_append,List.length_take,List.length_drop,List.length_cons,List.length_nil,List.nil_append];omega)|(rw [hwA,hwB,Int.toNat_natCast,Int.toNat_natCast];simp only [AB,List.length_append,List.length_take,List.length_drop,List.length_cons,List.length_nil,List.nil_append];omega)) λ o64=>?_
 -- n65
 refine ⟨k+1,by
  exact ⟨by omega,L7 hkl hki3.2 c15⟩,by
  first|omega|(simp;omega),?_⟩
 refine ⟨rfl,?_,rfl,?_⟩
 ·-- e69: Value.int .i64 (IntKind.i64.wrap (((k : Nat) : Int) + (1 : Int))) = Value.int .i64 (((k + 1) : Nat) : Int)
  show Value.int .i64 (IntKind.i64.wrap (((k:Nat):Int)+(1:Int)))=Value.int .i64 (((k+1):Nat):Int)
  first|rfl|exact AQ (AF (by omega) (by omega))
 -- e71: (((([] : List (List Dat)) ++ ((AA (AC l k)).take n)) ++ ([[Dat.int (((((AA l).getD k []).getD 0 (.int 0))).n), Dat.int (((((AA l).getD k []).getD 1 (.int 0))).n)]] : List (List Dat))) ++ (((AA (AC l k)).take (((AA (AC l k)).length : Int).toNat)).drop n)) = (AA (AC l (k + 1)))
 show (((([]:List (List Dat))++((AA (AC l k)).take n))++([[Dat.int (((((AA l).getD k []).getD 0 (.int 0))).n),Dat.int (((((AA l).getD k []).getD 1 (.int 0))).n)]]:List (List Dat)))++(((AA (AC l k)).take (((AA (AC l k)).length:Int).toNat)).drop n))=(AA (AC l (k+1)))
 rw [AT hkl,AU hkl,Nf,QB (by omega) hki17.2 (λ _=>c32) (λ _ e=>c46 (by rw [e]))]
end Go.Proofs.YtdgmbbjoifneiaaGreatDoor
