import Derived.Test.YtmekciknfocmmaaGreatDoorScRkB
import Derived.Test.YtmekciknfocmmaaGreatDoorScFmI
import Derived.Test.YtmekciknfocmmaaGreatDoorScScL
import Derived.Lib.ItoaLen
namespace Go.Proofs.YtmekciknfocmmaaGreatDoor
set_option maxRecDepth 100000
set_option linter.unusedVariables false
set_option linter.unusedSimpArgs false
open Go.RowKit
def A1:Con:={ ι:=Int×Int,pre:=λ i=>True,args:=λ i=>[DA.agg [cI i.1,cI i.2]],res:=λ i=>⟨false,[none],[rcB (AH (i.1,i.2))]⟩ }
theorem KJ:A1.Ok Tryz.prog 51:=BX rfl ⟨_,Tryz.func51,by decide,rfl⟩ (λ _=>Nat.le_of_ble_eq_true rfl) (λ _=>rfl) (λ i=>[.im (.bool (AH (i.1,i.2)))]) (λ _=>rfl) (λ _=>rfl) (λ i hp w us h=>by
 obtain ⟨x,y⟩:=i
 have h:RdRow w [.int,.int] [.int x,.int y] us:=h
 obtain ⟨a,_,rfl,q1,h⟩:=RdRow.cons2 h
 obtain ⟨b,_,rfl,q2,h⟩:=RdRow.cons2 h
 obtain ⟨-,rfl⟩:=RdRow.nil_inv h
 obtain rfl:=Rd.int2 q1
 obtain rfl:=Rd.int2 q2
 refine (BA x y w).mono ?_
 rintro e w' ⟨rfl,hb⟩
 exact ⟨[Value.bool (AH (x,y))],rfl,Own.leaf (Fp.mk_bool _),hb⟩)
def DI:Con:={ ι:=(List V2),pre:=λ i=>True,args:=λ i=>[.one (DC.sl 24 [.int,.int] (AA i))],res:=λ i=>⟨false,[none],[rcB (AX i)]⟩ }
theorem Np:DI.Ok Tryz.prog 56:=BX rfl ⟨_,Tryz.func56,by decide,rfl⟩ (λ _=>Nat.le_of_ble_eq_true rfl) (λ _=>rfl) (λ l=>[.im (.bool (AX l))]) (λ _=>rfl) (λ _=>rfl) (λ i hp w us h=>by
 have h:RdRow w [.sl 24 [.int,.int]] [.sl (AA i)] us:=h
 obtain ⟨v,vs,rfl,h1,h2⟩:=RdRow.cons2 h
 obtain ⟨-,rfl⟩:=RdRow.nil_inv h2
 refine (EO i v w (Rd.vecs h1)).mono ?_
 rintro e w' ⟨rfl,hb⟩
 exact ⟨[Value.bool (AX i)],rfl,Own.leaf (Fp.mk_bool _),hb⟩)
def DJ:Con:={ ι:=(List V2),pre:=λ i=>True,args:=λ i=>[.one (DC.sl 24 [.int,.int] (AA i))],res:=λ i=>⟨false,[none],[rcB (AX i)]⟩ }
theorem Nq:DJ.Ok Tryz.prog 46:=BX rfl ⟨_,Tryz.func46,by decide,rfl⟩ (λ _=>Nat.le_of_ble_eq_true rfl) (λ _=>rfl) (λ l=>[.im (.bool (AX l))]) (λ _=>rfl) (λ _=>rfl) (λ i hp w us h=>by
 have h:RdRow w [.sl 24 [.int,.int]] [.sl (AA i)] us:=h
 obtain ⟨v,vs,rfl,h1,h2⟩:=RdRow.cons2 h
 obtain ⟨-,rfl⟩:=RdRow.nil_inv h2
 refine (Ku i v w (Rd.vecs h1)).mono ?_
 rintro e w' ⟨rfl,hb⟩
 exact ⟨[Value.bool (AX i)],rfl,Own.leaf (Fp.mk_bool _),hb⟩)
def Bu:Con:={ ι:=Int,pre:=λ i=>-9223372036854775808<=i/\i<=9223372036854775807,args:=λ i=>[.one (cI i)],res:=λ i=>⟨false,[none],[.im (Value.string (Bh i))]⟩ }
theorem Nr:Bu.Ok Tryz.prog 61:=by
 refine fok (X:=⟨tt,[(72,Em)],[],5,[]⟩) mixed BC (CTok.cons Q7 (CTok.nil _)) Tryz.func61 (λ _=>[]) ?_
 intro (n:Int) hpre
 have hpre:-9223372036854775808<=n/\n<=9223372036854775807:=hpre
 refine BB (q:=∃ i1:Int,[DA.one (cI n)]=Em.args i1/\Em.pre i1/\((Value.string (Bh i1)=Value.string (Bh n)))) (by kernel_rfl) ?_
 refine ⟨n,by
  rfl,by
  exact hpre,?_⟩
 exact rfl
def Ai (v:V2):ByteArray:=Bh v.1++(⟨#[44]⟩:ByteArray)++Bh v.2
theorem Iz {v:V2} (h:AH v=true):(-9223372036854775808<=v.1/\v.1<=9223372036854775807)/\-9223372036854775808<=v.2/\v.2<=9223372036854775807:=by
 have b:=Ci h
 omega
theorem Q9 {x y:Int} (h:(-9223372036854775808<=x/\x<=9223372036854775807)/\-9223372036854775808<=y/\y<=9223372036854775807):(Ai (x,y)).size<=43:=by
 have h1:=F0 h.1
 have h2:=F0 h.2
 simp only [Ai,ByteArray.size_append]
 have:(⟨#[44]⟩:ByteArray).size=1:=rfl
 omega
def A2 (l:List V2):List ByteArray:=l.map Ai
def A3 (l:List V2):ByteArray:=EQ (A2 l) (⟨#[32]⟩:ByteArray)
def CP:Con:={ ι:=Int×Int,pre:=λ i=>(-9223372036854775808<=i.1/\i.1<=9223372036854775807)/\-9223372036854775808<=i.2/\i.2<=9223372036854775807,args:=λ i=>[DA.agg [cI i.1,cI i.2]],res:=λ i=>⟨false,[none],[.im (Value.string (Ai (i.1,i.2)))]⟩ }
theorem I0:CP.Ok Tryz.prog 40:=by
 refine fok (X:=⟨tt,[(61,Bu)],[],11,[]⟩) mixed BC (CTok.cons Nr (CTok.nil _)) Tryz.func40 (λ _=>[]) ?_
 rintro ⟨x,y⟩ hpre
 have hpre:(-9223372036854775808<=x/\x<=9223372036854775807)/\-9223372036854775808<=y/\y<=9223372036854775807:=hpre
 refine BB (q:=∃ i1:Int,let Z1:=Bh i1++(⟨#[44]⟩:ByteArray);[DA.one (cI x)]=Bu.args i1/\Bu.pre i1/\(((Bh i1).size+(⟨#[44]⟩:ByteArray).size<=1125899906842624)/\(∃ i2:Int,[DA.one (cI y)]=Bu.args i2/\Bu.pre i2/\((Z1.size+(Bh i2).size<=1125899906842624)/\((Value.string (Z1++Bh i2)=Value.string (Ai (x,y)))))))) (by kernel_rfl) ?_
 conv=>zeta
 have hz1:=F0 hpre.1
 have hz2:=F0 hpre.2
 have hz3:(⟨#[44]⟩:ByteArray).size=1:=rfl
 refine ⟨x,by
  rfl,by
  show -9223372036854775808<=x/\x<=9223372036854775807
  first|exact hpre.1|exact hpre.2,?_⟩
 refine ao (by first|omega|(simp only [ByteArray.size_append];omega)) λ o4=>?_
 refine ⟨y,by
  rfl,by
  show -9223372036854775808<=y/\y<=9223372036854775807
  first|exact hpre.1|exact hpre.2,?_⟩
 refine ao (by first|omega|(simp only [ByteArray.size_append];omega)) λ o8=>?_
 rfl
theorem Dv {v:V2} (h:AH v=true):(Ai v).size<=43:=Q9 (x:=v.1) (y:=v.2) (Iz h)
theorem Cf (l:List V2):(A2 l).length=l.length:=by simp [A2]
theorem RA {l:List V2} (h:l.all AH=true):∀ x ∈ A2 l,x.size<=43:=by
 intro x hx
 obtain ⟨v,hv,rfl⟩:=List.mem_map.1 hx
 exact Dv (List.all_eq_true.1 h v hv)
theorem I1 {l:List V2} (h:l.all AH=true):(D5 (A2 l) (⟨#[32]⟩:ByteArray)).length<=44*l.length:=by
 have:=Pa (s:=(⟨#[32]⟩:ByteArray)) (RA h)
 rw [Cf] at this
 exact this
theorem F1 {l:List V2} (h:l.all AH=true):(A3 l).size<=44*l.length:=by
 unfold A3;rw [No];exact I1 h
theorem I2 {l:List V2} {k:Nat} (hk:k<l.length):AZ (A2 (l.take k))++[[Dat.str (Ai (l.getD k (0,0)))]]=AZ (A2 (l.take (k+1))):=by
 have e:l.take (k+1)=l.take k++[l.getD k (0,0)]:=by rw [List.take_add_one];simp [List.getD,hk]
 rw [e]
 simp [A2,AZ]
def Kz:Con:={ ι:=(List V2),pre:=λ i=>i.all AH=true/\i.length<=1048576,args:=λ i=>[.one (DC.sl 24 [.int,.int] (AA i))],res:=λ i=>⟨false,[none],[.im (Value.string (A3 i))]⟩ }
theorem MR:Kz.Ok Tryz.prog 41:=by
 refine fok (X:=⟨tt,[(40,CP),(62,Eo)],[],21,[]⟩) mixed BC (CTok.cons I0 (CTok.cons Q8 (CTok.nil _))) Tryz.func41 (λ (i:(List V2))=>[(3,.mk 3 (Nat) (λ x1=>{ tm:=[(7,tX 1),(8,tI (nI ((AA i).length))),(9,tI (x1:Int)),(3,tX 2)],en:=[(1,.view 24 [.int,.int] (AA i) []),(2,.own 9 [.str] (AZ (A2 (i.take x1))))] }) (λ x1=>x1<=i.length) (λ x1=>i.length-x1) (λ _=>[]))]) ?_
 intro (l:List V2) hpre
 have hpre:l.all AH=true/\l.length<=1048576:=hpre
 refine BB (q:=let Z2:=nI ((AA l).length);(∃ x1:Nat,(x1<=l.length)/\((rf (vI Z2))/\(vI (0:Int)=vI (x1:Int))/\(rf (AA l))/\(([]:List (List Dat))=(AZ (A2 (l.take x1))))))/\∀ x1:Nat,let Z1:=AZ (A2 (l.take x1));(x1<=l.length)->(ifB ((decide ((x1:Int)<Z2))) ((0<=(x1:Int)/\(x1:Int)<((AA l).length:Int))/\((x1<(AA l).length)/\(∃ i1:Int×Int,[DA.agg [cI (((((AA l).getD x1 []).getD 0 (.int 0))).n),cI (((((AA l).getD x1 []).getD 1 (.int 0))).n)]]=CP.args i1/\CP.pre i1/\((Z1.length+([[Dat.str (Ai (i1.1,i1.2))]]:List (List Dat)).length<=2199023255552)/\(∃ y2:Nat,(y2<=l.length)/\(l.length-y2<l.length-x1)/\((rf (vI Z2))/\(vI (wR ((x1:Int)+(1:Int)))=vI (y2:Int))/\(rf (AA l))/\((Z1++([[Dat.str (Ai (i1.1,i1.2))]]:List (List Dat)))=(AZ (A2 (l.take y2)))))))))) (∃ i2:(List ByteArray)×ByteArray,[DA.one (DC.sl 9 [.str] Z1),DA.one (DC.im (Value.string (⟨#[32]⟩:ByteArray)))]=Eo.args i2/\Eo.pre i2/\((Value.string (EQ i2.1 i2.2)=Value.string (A3 l)))))) (by kernel_rfl) ?_
 conv=>zeta
 delta ifB vI wR nI
 have hvl:=AC l
 refine ⟨⟨0,by
  first|trivial|omega|(simp;omega),?_⟩,?_⟩
 ·refine ⟨rfl,rfl,rfl,?_⟩
  first|rfl|(rw [AC])
 intro (k:Nat) hki1
 have hki1:k<=l.length:=hki1
 refine And.symm ⟨λ c7=>?_,λ c7=>?_⟩
 ·try simp only [nrm] at c7
  have hk:A2 (l.take k)=A2 l:=by rw [show k=l.length by omega,List.take_length]
  refine ⟨((A2 (l.take k)),(⟨#[32]⟩:ByteArray)),by
   rfl,by
   show (A2 (l.take k)).length<=1073741824/\(D5 (A2 (l.take k)) (⟨#[32]⟩:ByteArray)).length<=140737488355328
   first|(rw [hvx,hvy];exact Iz (Bt hpre.1 (by omega)))|(rw [hk];exact ⟨by rw [Cf];omega,by have:=I1 hpre.1;omega⟩),?_⟩
  show Value.string (EQ (A2 (l.take k)) (⟨#[32]⟩:ByteArray))=Value.string (A3 l)
  rw [hk];rfl
 try simp only [nrm] at c7
 have hvx:=Av (l:=l) (k:=k) (by omega)
 have hvy:=Aw (l:=l) (k:=k) (by omega)
 refine ao (by first|rfl|omega|(simp only [AC,Ah,Cf,List.length_take,List.length_cons,List.length_nil];omega)|(simp;omega)) λ o8=>?_
 refine ao (by first|rfl|omega|(simp only [AC,Ah,Cf,List.length_take,List.length_cons,List.length_nil];omega)|(simp;omega)) λ o9=>?_
 refine ⟨(((((AA l).getD k []).getD 0 (.int 0))).n,((((AA l).getD k []).getD 1 (.int 0))).n),by
  rfl,by
  try dsimp only [CP]
  first|(rw [hvx,hvy];exact Iz (Bt hpre.1 (by omega)))|(rw [hk];exact ⟨by rw [Cf];omega,by have:=I1 hpre.1;omega⟩),?_⟩
 refine ao (a:=(AZ (A2 (l.take k))).length+([[Dat.str (Ai ((((((AA l).getD k []).getD 0 (.int 0))).n),(((((AA l).getD k []).getD 1 (.int 0))).n)))]]:List (List Dat)).length<=2199023255552) (by first|rfl|omega|(simp only [AC,Ah,Cf,List.length_take,List.length_cons,List.length_nil];omega)|(simp;omega)) λ o13=>?_
 refine ⟨k+1,by
  first|trivial|omega|(simp;omega),by
  first|omega|(simp;omega),?_⟩
 refine ⟨rfl,?_,rfl,?_⟩
 ·first|rfl|exact AV (AE (by omega) (by omega))|(rw [hvx,hvy];exact I2 (by omega))
 show ((AZ (A2 (l.take k)))++([[Dat.str (Ai ((((((AA l).getD k []).getD 0 (.int 0))).n),(((((AA l).getD k []).getD 1 (.int 0))).n)))]]:List (List Dat)))=(AZ (A2 (l.take (k+1))))
 first|rfl|exact AV (AE (by omega) (by omega))|(rw [hvx,hvy];exact I2 (by omega))
theorem Hs {l:List ByteArray} {k:Nat} (hk:k<l.length):(((AZ l).getD k []).getD 0 (.int 0)).s=l.getD k ⟨#[]⟩:=by rw [FO l k hk];rfl
theorem Ht {l:List ByteArray} {m:Nat} (h:∀ x ∈ l,x.size<=m) (k:Nat):(l.getD k ⟨#[]⟩).size<=m:=by
 by_cases hk:k<l.length
 ·have e:l.getD k ⟨#[]⟩=l[k]:=by simp [List.getD,hk]
  rw [e];exact h _ (List.getElem_mem hk)
 ·have e:l.getD k ⟨#[]⟩=⟨#[]⟩:=by simp [List.getD,hk]
  rw [e];exact Nat.zero_le _
theorem CQ {l:List V2} (h:AX l=true):3<=l.length/\l.length<=16/\l.all AH=true:=by
 simp only [AX,Bool.and_eq_true,BM] at h
 exact ⟨by omega,by omega,h.1.2⟩
end Go.Proofs.YtmekciknfocmmaaGreatDoor
