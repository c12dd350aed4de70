import Derived.Test.YtcpjekkiejhgpaaDoorPpRkB
import Derived.Test.YtcpjekkiejhgpaaDoorPpFmI
import Derived.Test.YtcpjekkiejhgpaaDoorPpScL
import Derived.Lib.ItoaLen
namespace Go.Proofs.YtcpjekkiejhgpaaDoor
set_option linter.unusedVariables false
set_option linter.unusedSimpArgs false
open Go.RowKit
def CN:Con:={ ι:=Int×Int,pre:=λ i=>True,args:=λ i=>[DA.agg [cI i.1,cI i.2]],res:=λ i=>⟨false,[none],[rcB (AP (i.1,i.2))]⟩ }
theorem Kg:CN.Ok Tryd.prog 19:=C5 rfl ⟨_,Tryd.func19,by decide,rfl⟩ (λ _=>Nat.le_of_ble_eq_true rfl) (λ _=>rfl) (λ i=>[.im (.bool (AP (i.1,i.2)))]) (λ _=>rfl) (λ _=>rfl) (λ i hp w us h=>by
 obtain ⟨x,y⟩:=i
 have h:RdRow w [.int,.int] [.int x,.int y] us:=h
 obtain ⟨a,_,rfl,q1,h⟩:=RdRow.cons2 h
 obtain ⟨b,_,rfl,q2,h⟩:=RdRow.cons2 h
 obtain ⟨-,rfl⟩:=RdRow.nil_inv h
 obtain rfl:=Rd.int2 q1
 obtain rfl:=Rd.int2 q2
 refine (Aa x y w).mono ?_
 rintro e w' ⟨rfl,hb⟩
 exact ⟨[Value.bool (AP (x,y))],rfl,Own.leaf (Fp.mk_bool _),hb⟩)
def Bu:Con:={ ι:=(List V2),pre:=λ i=>True,args:=λ i=>[.one (DC.sl 31 [.int,.int] (AL i))],res:=λ i=>⟨false,[none],[rcB (AX i)]⟩ }
theorem JS:Bu.Ok Tryd.prog 14:=C5 rfl ⟨_,Tryd.func14,by decide,rfl⟩ (λ _=>Nat.le_of_ble_eq_true rfl) (λ _=>rfl) (λ l=>[.im (.bool (AX l))]) (λ _=>rfl) (λ _=>rfl) (λ i hp w us h=>by
 have h:RdRow w [.sl 31 [.int,.int]] [.sl (AL i)] us:=h
 obtain ⟨v,vs,rfl,h1,h2⟩:=RdRow.cons2 h
 obtain ⟨-,rfl⟩:=RdRow.nil_inv h2
 refine (Ic i v w (Rd.vecs h1)).mono ?_
 rintro e w' ⟨rfl,hb⟩
 exact ⟨[Value.bool (AX i)],rfl,Own.leaf (Fp.mk_bool _),hb⟩)
def Bv:Con:={ ι:=(List V2),pre:=λ i=>True,args:=λ i=>[.one (DC.sl 31 [.int,.int] (AL i))],res:=λ i=>⟨false,[none],[rcB (AX i)]⟩ }
theorem JT:Bv.Ok Tryd.prog 11:=C5 rfl ⟨_,Tryd.func11,by decide,rfl⟩ (λ _=>Nat.le_of_ble_eq_true rfl) (λ _=>rfl) (λ l=>[.im (.bool (AX l))]) (λ _=>rfl) (λ _=>rfl) (λ i hp w us h=>by
 have h:RdRow w [.sl 31 [.int,.int]] [.sl (AL i)] us:=h
 obtain ⟨v,vs,rfl,h1,h2⟩:=RdRow.cons2 h
 obtain ⟨-,rfl⟩:=RdRow.nil_inv h2
 refine (HW i v w (Rd.vecs h1)).mono ?_
 rintro e w' ⟨rfl,hb⟩
 exact ⟨[Value.bool (AX i)],rfl,Own.leaf (Fp.mk_bool _),hb⟩)
def Fx (v:V2):ByteArray:=AJ v.1++(⟨#[44]⟩:ByteArray)++AJ v.2
theorem J0 {v:V2} (h:AP v=true):(-9223372036854775808<=v.1/\v.1<=9223372036854775807)/\-9223372036854775808<=v.2/\v.2<=9223372036854775807:=by
 have b:=Ba h
 omega
def CS (v:V2):ByteArray:=if AP v=true then Fx v else ⟨#[]⟩
theorem C6 {v:V2} (h:AP v=true):CS v=Fx v:=if_pos h
theorem Fy {v:V2} (h:AP v=false):CS v=⟨#[]⟩:=if_neg (by rw [h];simp)
def A3:Con:={ ι:=Int×Int,pre:=λ i=>True,args:=λ i=>[DA.agg [cI i.1,cI i.2]],res:=λ i=>⟨false,[none],[.im (Value.string (CS (i.1,i.2)))]⟩ }
set_option maxRecDepth 100000 in
theorem JU:A3.Ok Tryd.prog 17:=by
 refine fok (X:=⟨tt,[(19,CN),(29,AI)],[],14,[]⟩) mixed DJ (CTok.cons Kg (CTok.cons Fv (CTok.nil _))) Tryd.func17 (λ _=>[]) ?_
 rintro ⟨x,y⟩ hpre
 have hpre:True:=hpre
 refine DI (q:=∃ i1:Int×Int,[DA.agg [cI x,cI y]]=CN.args i1/\CN.pre i1/\(ifB ((!(AP (i1.1,i1.2)))) ((Value.string (⟨#[]⟩:ByteArray)=Value.string (CS (x,y)))) (∃ i2:Int,let Z1:=AJ i2++(⟨#[44]⟩:ByteArray);[DA.one (cI x)]=AI.args i2/\AI.pre i2/\(((AJ i2).size+(⟨#[44]⟩:ByteArray).size<=1125899906842624)/\(∃ i3:Int,[DA.one (cI y)]=AI.args i3/\AI.pre i3/\((Z1.size+(AJ i3).size<=1125899906842624)/\((Value.string (Z1++AJ i3)=Value.string (CS (x,y)))))))))) (by kernel_rfl) ?_
 conv=>zeta
 delta ifB
 refine ⟨(x,y),by
  rfl,by
  first|trivial|exact hv.1|exact hv.2,?_⟩
 refine ⟨λ c4=>?_,λ c4=>?_⟩
 ·try simp only [nrm] at c4
  first|rfl|(rw [Fy (by assumption)])|(rw [C6 (by assumption)];rfl)
 try simp only [nrm] at c4
 have hv:=J0 c4
 have hz1:=Dw hv.1
 have hz2:=Dw hv.2
 have hz3:(⟨#[44]⟩:ByteArray).size=1:=rfl
 refine ⟨x,by
  rfl,by
  show -9223372036854775808<=x/\x<=9223372036854775807
  first|trivial|exact hv.1|exact hv.2,?_⟩
 refine ao (by first|rfl|omega|(simp only [ByteArray.size_append] at *;omega)) λ o9=>?_
 refine ⟨y,by
  rfl,by
  show -9223372036854775808<=y/\y<=9223372036854775807
  first|trivial|exact hv.1|exact hv.2,?_⟩
 refine ao (by first|rfl|omega|(simp only [ByteArray.size_append] at *;omega)) λ o13=>?_
 first|rfl|(rw [Fy (by assumption)])|(rw [C6 (by assumption)];rfl)
theorem E6 {l:List ByteArray} {k:Nat} (hk:k<l.length):(((AR l).getD k []).getD 0 (.int 0)).s=l.getD k ⟨#[]⟩:=by rw [Ft l k hk];rfl
theorem A9 {l:List ByteArray} {m:Nat} (h:∀ x ∈ l,x.size<=m) (k:Nat):(l.getD k ⟨#[]⟩).size<=m:=by
 by_cases hk:k<l.length
 ·have e:l.getD k ⟨#[]⟩=l[k]:=by simp [List.getD,hk]
  rw [e];exact h _ (List.getElem_mem hk)
 ·have e:l.getD k ⟨#[]⟩=⟨#[]⟩:=by simp [List.getD,hk]
  rw [e];exact Nat.zero_le _
theorem Id {l:List V2} (h:AX l=true):3<=l.length/\l.length<=16/\l.all AP=true:=by
 simp only [AX,Bool.and_eq_true,Ev] at h
 exact ⟨by omega,by omega,h.1.2⟩
end Go.Proofs.YtcpjekkiejhgpaaDoor
