import Derived.Test.YtmekciknfocmmaaGreatDoorScRkHs
import Derived.Test.YtmekciknfocmmaaGreatDoorScScL
namespace Go.Proofs.YtmekciknfocmmaaGreatDoor
set_option linter.unusedVariables false
set_option linter.unusedSimpArgs false
open Go.RowKit
def Ba:Con:={ ι:=(List V2)×Int×Int,pre:=λ i=>i.1.length<=1048576/\i.1.all AH=true,args:=λ i=>[.one (DC.sl 24 [.int,.int] (AA i.1)),DA.agg [cI i.2.1,cI i.2.2]],res:=λ i=>⟨false,[none],[.own 24 [.int,.int] (AA (B0 i.1 i.2.1 i.2.2))]⟩ }
set_option maxRecDepth 100000 in
theorem Hf:Ba.Ok Tryz.prog 29:=by
 refine fok (X:=⟨tt,[(51,A1)],[],52,[]⟩) mixed BC (CTok.cons KJ (CTok.nil _)) Tryz.func29 (λ (i:(List V2)×Int×Int)=>[(5,.mk 4 (Nat) (λ x1=>{ tm:=[(3,tP 1 0),(12,tX 2),(13,tI (nI ((AA i.1).length))),(14,tI (x1:Int)),(5,tX 3)],en:=[(1,.box [kI i.2.1,kI i.2.2]),(2,.view 24 [.int,.int] (AA i.1) []),(3,.own 24 [.int,.int] (AA (Cx (i.1.take x1) i.2.1 i.2.2)))] }) (λ x1=>x1<=i.1.length/\(Cx (i.1.take x1) i.2.1 i.2.2).all AH=true) (λ x1=>i.1.length-x1) (λ _=>[]))]) ?_
 rintro ⟨l,dx,dy⟩ hpre
 have hpre:l.length<=1048576/\l.all AH=true:=hpre
 refine BB (q:=let Z6:=nI ((AA l).length);let Z2:=(([]:List (List Dat))=AA (B0 l dx dy));∃ i1:Int×Int,[DA.agg [cI dx,cI dy]]=A1.args i1/\A1.pre i1/\(ifB ((!(AH (i1.1,i1.2)))) Z2 ((∃ x1:Nat,let Z7:=Cx (l.take x1) dx dy;(x1<=l.length/\Z7.all AH=true)/\((rf (vI Z6))/\(vI (0:Int)=vI (x1:Int))/\(rf (vI dx))/\(rf (vI dy))/\(rf (AA l))/\(([]:List (List Dat))=(AA Z7))))/\∀ x1:Nat,let Z3:=Cx (l.take x1) dx dy;let Z1:=(AA l).getD x1 [];let Z5:=wR (((Z1.getD 1 (.int 0))).n+dy);let Z4:=wR (((Z1.getD 0 (.int 0))).n+dx);(x1<=l.length/\Z3.all AH=true)->(ifB ((decide ((x1:Int)<Z6))) ((0<=(x1:Int)/\(x1:Int)<((AA l).length:Int))/\((x1<(AA l).length)/\(∃ i2:Int×Int,[DA.agg [cI (((Z1.getD 0 (.int 0))).n),cI (((Z1.getD 1 (.int 0))).n)]]=A1.args i2/\A1.pre i2/\(ifB ((!(!(AH (i2.1,i2.2))))) (∃ i3:Int×Int,[DA.agg [cI Z4,cI Z5]]=A1.args i3/\A1.pre i3/\(ifB ((!(AH (i3.1,i3.2)))) Z2 (((AA Z3).length+([[Dat.int Z4,Dat.int Z5]]:List (List Dat)).length<=2199023255552)/\(∃ y2:Nat,let Z8:=Cx (l.take y2) dx dy;(y2<=l.length/\Z8.all AH=true)/\(l.length-y2<l.length-x1)/\((rf (vI Z6))/\(vI (wR ((x1:Int)+(1:Int)))=vI (y2:Int))/\(rf (vI dx))/\(rf (vI dy))/\(rf (AA l))/\(((AA Z3)++([[Dat.int Z4,Dat.int Z5]]:List (List Dat)))=(AA Z8))))))) Z2)))) (((AA Z3)=AA (B0 l dx dy))))))) (by kernel_rfl) ?_
 conv=>zeta
 delta ifB vI wR nI
 have hvl:=AC l
 refine ⟨(dx,dy),by
  rfl,by
  first|trivial|(first|omega|assumption|exact hpre.1|exact hpre.2|(simp;done)),?_⟩
 refine ⟨λ c4=>?_,λ c4=>?_⟩
 ·try simp only [nrm] at c4
  first|(rw [Ce (.inl c4)];rfl)|(rw [Ce (.inr (Iu (k:=k) (by omega) c24))];rfl)|rw [hkl,List.take_length,Du c4 hki6.2]
 try simp only [nrm] at c4
 refine ⟨⟨0,by
  first|exact ⟨Nat.zero_le _,rfl⟩|exact ⟨by omega,by rw [Gh (by omega),List.all_append,hki6.2];simp only [Bool.true_and,List.all_cons,List.all_nil,Bool.and_true];exact c24⟩|omega,?_⟩,?_⟩
 ·refine ⟨rfl,rfl,rfl,rfl,rfl,?_⟩
  first|rfl|(rw [AC])
 intro (k:Nat) hki6
 have hki6:k<=l.length/\(Cx (l.take k) dx dy).all AH=true:=hki6
 have hml:(AA (Cx (l.take k) dx dy)).length=k:=by rw [AC,Fy,List.length_take];omega
 refine And.symm ⟨λ c14=>?_,λ c14=>?_⟩
 ·try simp only [nrm] at c14
  have hkl:k=l.length:=by omega
  rw [hkl,List.take_length] at hki6
  first|(rw [Ce (.inl c4)];rfl)|(rw [Ce (.inr (Iu (k:=k) (by omega) c24))];rfl)|rw [hkl,List.take_length,Du c4 hki6.2]
 try simp only [nrm] at c14
 refine ao (by first|rfl|omega|(rw [AC];omega)|(rw [AC];exact_mod_cast (by omega))|(simp [AC,Fy];omega)) λ o15=>?_
 refine ao (by first|rfl|omega|(rw [AC];omega)|(rw [AC];exact_mod_cast (by omega))|(simp [AC,Fy];omega)) λ o16=>?_
 refine ⟨(((((AA l).getD k []).getD 0 (.int 0))).n,((((AA l).getD k []).getD 1 (.int 0))).n),by
  rfl,by
  first|trivial|(first|omega|assumption|exact hpre.1|exact hpre.2|(simp;done)),?_⟩
 refine And.symm ⟨λ c20=>?_,λ c20=>?_⟩
 ·try simp only [nrm] at c20
  rw [Av (by omega),Aw (by omega)] at c20
  have q:=Bt hpre.2 (show k<l.length by omega)
  have q:AH ((l.getD k (0,0)).1,(l.getD k (0,0)).2)=true:=q
  rw [q] at c20
  exact absurd c20 (by simp) -- done
 try simp only [nrm] at c20
 refine ⟨((IntKind.i64.wrap (((((AA l).getD k []).getD 0 (.int 0))).n+dx)),(IntKind.i64.wrap (((((AA l).getD k []).getD 1 (.int 0))).n+dy))),by
  rfl,by
  first|trivial|(first|omega|assumption|exact hpre.1|exact hpre.2|(simp;done)),?_⟩
 refine ⟨λ c24=>?_,λ c24=>?_⟩
 ·try simp only [nrm] at c24
  rw [Av (by omega),Aw (by omega)] at c24
  first|(rw [Ce (.inl c4)];rfl)|(rw [Ce (.inr (Iu (k:=k) (by omega) c24))];rfl)|rw [hkl,List.take_length,Du c4 hki6.2]
 try simp only [nrm] at c24
 rw [Av (by omega),Aw (by omega)] at c24
 refine ao (by first|rfl|omega|(rw [AC];omega)|(rw [AC];exact_mod_cast (by omega))|(simp [AC,Fy];omega)) λ o26=>?_
 refine ⟨k+1,by
  first|exact ⟨Nat.zero_le _,rfl⟩|exact ⟨by omega,by rw [Gh (by omega),List.all_append,hki6.2];simp only [Bool.true_and,List.all_cons,List.all_nil,Bool.and_true];exact c24⟩|omega,by
  first|omega|(simp;omega),?_⟩
 refine ⟨rfl,?_,rfl,rfl,rfl,?_⟩
 ·first|rfl|exact AV (AE (by omega) (by omega))|exact KD (by omega)
 first|rfl|exact AV (AE (by omega) (by omega))|exact KD (by omega)
end Go.Proofs.YtmekciknfocmmaaGreatDoor
