import Derived.Test.YtgggkcoljpimcaaDoorFsRkB
import Derived.Test.YtgggkcoljpimcaaDoorFsFmI
import Derived.Test.YtgggkcoljpimcaaDoorFsScL
import Derived.Lib.ItoaLen
namespace Go.Proofs.YtgggkcoljpimcaaDoor
set_option maxRecDepth 100000
set_option linter.unusedVariables false
set_option linter.unusedSimpArgs false
open Go.RowKit
def CS:Con:={ ι:=Int×Int,pre:=λ i=>True,args:=λ i=>[DA.agg [cI i.1,cI i.2]],res:=λ i=>⟨false,[none],[rcB (AJ (i.1,i.2))]⟩ }
theorem Kn:CS.Ok Tryd.prog 32:=CL rfl ⟨_,Tryd.func32,by decide,rfl⟩ (λ _=>Nat.le_of_ble_eq_true rfl) (λ _=>rfl) (λ i=>[.im (.bool (AJ (i.1,i.2)))]) (λ _=>rfl) (λ _=>rfl) (λ i hp w us h=>by
 obtain ⟨x,y⟩:=i
 have h:RdRow w [.int,.int] [.int x,.int y] us:=h
 obtain ⟨a,_,rfl,q1,h⟩:=RdRow.cons2 h
 obtain ⟨b,_,rfl,q2,h⟩:=RdRow.cons2 h
 obtain ⟨-,rfl⟩:=RdRow.nil_inv h
 obtain rfl:=Rd.int2 q1
 obtain rfl:=Rd.int2 q2
 refine (Ad x y w).mono ?_
 rintro e w' ⟨rfl,hb⟩
 exact ⟨[Value.bool (AJ (x,y))],rfl,Own.leaf (Fp.mk_bool _),hb⟩)
def Bv:Con:={ ι:=(List V2),pre:=λ i=>True,args:=λ i=>[.one (DC.sl 36 [.int,.int] (AA i))],res:=λ i=>⟨false,[none],[rcB (AY i)]⟩ }
theorem Jg:Bv.Ok Tryd.prog 18:=CL rfl ⟨_,Tryd.func18,by decide,rfl⟩ (λ _=>Nat.le_of_ble_eq_true rfl) (λ _=>rfl) (λ l=>[.im (.bool (AY l))]) (λ _=>rfl) (λ _=>rfl) (λ i hp w us h=>by
 have h:RdRow w [.sl 36 [.int,.int]] [.sl (AA i)] us:=h
 obtain ⟨v,vs,rfl,h1,h2⟩:=RdRow.cons2 h
 obtain ⟨-,rfl⟩:=RdRow.nil_inv h2
 refine (BZ i v w (Rd.vecs h1)).mono ?_
 rintro e w' ⟨rfl,hb⟩
 exact ⟨[Value.bool (AY i)],rfl,Own.leaf (Fp.mk_bool _),hb⟩)
def A6:Con:={ ι:=Int,pre:=λ i=>-9223372036854775808<=i/\i<=9223372036854775807,args:=λ i=>[.one (cI i)],res:=λ i=>⟨false,[none],[.im (Value.string (AM i))]⟩ }
theorem Jh:A6.Ok Tryd.prog 51:=by
 refine fok (X:=⟨tt,[(57,DH)],[],5,[]⟩) mixed Bu (CTok.cons Lw (CTok.nil _)) Tryd.func51 (λ _=>[]) ?_
 intro (n:Int) hpre
 have hpre:-9223372036854775808<=n/\n<=9223372036854775807:=hpre
 refine CK (q:=∃ i1:Int,[DA.one (cI n)]=DH.args i1/\DH.pre i1/\((Value.string (AM i1)=Value.string (AM n)))) (by kernel_rfl) ?_
 refine ⟨n,by
  rfl,by
  exact hpre,?_⟩
 exact rfl
def Ae (v:V2):ByteArray:=AM v.1++(⟨#[44]⟩:ByteArray)++AM v.2
theorem GG {v:V2} (h:AJ v=true):(-9223372036854775808<=v.1/\v.1<=9223372036854775807)/\-9223372036854775808<=v.2/\v.2<=9223372036854775807:=by
 have b:=Bc h
 omega
theorem L1 {x y:Int} (h:(-9223372036854775808<=x/\x<=9223372036854775807)/\-9223372036854775808<=y/\y<=9223372036854775807):(Ae (x,y)).size<=43:=by
 have h1:=BQ h.1
 have h2:=BQ h.2
 simp only [Ae,ByteArray.size_append]
 have:(⟨#[44]⟩:ByteArray).size=1:=rfl
 omega
def AV (l:List V2):List ByteArray:=l.map Ae
def A7 (l:List V2):ByteArray:=Am (AV l) (⟨#[32]⟩:ByteArray)
def BR:Con:={ ι:=Int×Int,pre:=λ i=>(-9223372036854775808<=i.1/\i.1<=9223372036854775807)/\-9223372036854775808<=i.2/\i.2<=9223372036854775807,args:=λ i=>[DA.agg [cI i.1,cI i.2]],res:=λ i=>⟨false,[none],[.im (Value.string (Ae (i.1,i.2)))]⟩ }
theorem GH:BR.Ok Tryd.prog 38:=by
 refine fok (X:=⟨tt,[(51,A6)],[],11,[]⟩) mixed Bu (CTok.cons Jh (CTok.nil _)) Tryd.func38 (λ _=>[]) ?_
 rintro ⟨x,y⟩ hpre
 have hpre:(-9223372036854775808<=x/\x<=9223372036854775807)/\-9223372036854775808<=y/\y<=9223372036854775807:=hpre
 refine CK (q:=∃ i1:Int,let Z1:=AM i1++(⟨#[44]⟩:ByteArray);[DA.one (cI x)]=A6.args i1/\A6.pre i1/\(((AM i1).size+(⟨#[44]⟩:ByteArray).size<=1125899906842624)/\(∃ i2:Int,[DA.one (cI y)]=A6.args i2/\A6.pre i2/\((Z1.size+(AM i2).size<=1125899906842624)/\((Value.string (Z1++AM i2)=Value.string (Ae (x,y)))))))) (by kernel_rfl) ?_
 conv=>zeta
 have hz1:=BQ hpre.1
 have hz2:=BQ hpre.2
 have hz3:(⟨#[44]⟩:ByteArray).size=1:=rfl
 refine ⟨x,by
  rfl,by
  show -9223372036854775808<=x/\x<=9223372036854775807
  first|exact hpre.1|exact hpre.2,?_⟩
 refine ao (by first|omega|(simp only [ByteArray.size_append];omega)) λ o4=>?_
 refine ⟨y,by
  rfl,by
  show -9223372036854775808<=y/\y<=9223372036854775807
  first|exact hpre.1|exact hpre.2,?_⟩
 refine ao (by first|omega|(simp only [ByteArray.size_append];omega)) λ o8=>?_
 rfl
theorem BK {v:V2} (h:AJ v=true):(Ae v).size<=43:=L1 (x:=v.1) (y:=v.2) (GG h)
theorem Aa (l:List V2):(AV l).length=l.length:=by simp [AV]
theorem Dz {l:List V2} (h:l.all AJ=true):∀ x ∈ AV l,x.size<=43:=by
 intro x hx
 obtain ⟨v,hv,rfl⟩:=List.mem_map.1 hx
 exact BK (List.all_eq_true.1 h v hv)
theorem GI {l:List V2} (h:l.all AJ=true):(Dx (AV l) (⟨#[32]⟩:ByteArray)).length<=44*l.length:=by
 have:=G1 (s:=(⟨#[32]⟩:ByteArray)) (Dz h)
 rw [Aa] at this
 exact this
theorem CM {l:List V2} (h:l.all AJ=true):(A7 l).size<=44*l.length:=by
 unfold A7;rw [F0];exact GI h
theorem CT {l:List V2} {k:Nat} (hk:k<l.length):AS (AV (l.take k))++[[Dat.str (Ae (l.getD k (0,0)))]]=AS (AV (l.take (k+1))):=by
 have e:l.take (k+1)=l.take k++[l.getD k (0,0)]:=by rw [List.take_add_one];simp [List.getD,hk]
 rw [e]
 simp [AV,AS]
def Hs:Con:={ ι:=(List V2),pre:=λ i=>i.all AJ=true/\i.length<=1048576,args:=λ i=>[.one (DC.sl 36 [.int,.int] (AA i))],res:=λ i=>⟨false,[none],[.im (Value.string (A7 i))]⟩ }
theorem Iv:Hs.Ok Tryd.prog 23:=by
 refine fok (X:=⟨tt,[(38,BR),(39,DI)],[],21,[]⟩) mixed Bu (CTok.cons GH (CTok.cons Lx (CTok.nil _))) Tryd.func23 (λ (i:(List V2))=>[(3,.mk 3 (Nat) (λ x1=>{ tm:=[(7,tX 1),(8,tI (nI ((AA i).length))),(9,tI (x1:Int)),(3,tX 2)],en:=[(1,.view 36 [.int,.int] (AA i) []),(2,.own 9 [.str] (AS (AV (i.take x1))))] }) (λ x1=>x1<=i.length) (λ x1=>i.length-x1) (λ _=>[]))]) ?_
 intro (l:List V2) hpre
 have hpre:l.all AJ=true/\l.length<=1048576:=hpre
 refine CK (q:=let Z2:=nI ((AA l).length);(∃ x1:Nat,(x1<=l.length)/\((rf (vI Z2))/\(vI (0:Int)=vI (x1:Int))/\(rf (AA l))/\(([]:List (List Dat))=(AS (AV (l.take x1))))))/\∀ x1:Nat,let Z1:=AS (AV (l.take x1));(x1<=l.length)->(ifB ((decide ((x1:Int)<Z2))) ((0<=(x1:Int)/\(x1:Int)<((AA l).length:Int))/\((x1<(AA l).length)/\(∃ i1:Int×Int,[DA.agg [cI (((((AA l).getD x1 []).getD 0 (.int 0))).n),cI (((((AA l).getD x1 []).getD 1 (.int 0))).n)]]=BR.args i1/\BR.pre i1/\((Z1.length+([[Dat.str (Ae (i1.1,i1.2))]]:List (List Dat)).length<=2199023255552)/\(∃ y2:Nat,(y2<=l.length)/\(l.length-y2<l.length-x1)/\((rf (vI Z2))/\(vI (wR ((x1:Int)+(1:Int)))=vI (y2:Int))/\(rf (AA l))/\((Z1++([[Dat.str (Ae (i1.1,i1.2))]]:List (List Dat)))=(AS (AV (l.take y2)))))))))) (∃ i2:(List ByteArray)×ByteArray,[DA.one (DC.sl 9 [.str] Z1),DA.one (DC.im (Value.string (⟨#[32]⟩:ByteArray)))]=DI.args i2/\DI.pre i2/\((Value.string (Am i2.1 i2.2)=Value.string (A7 l)))))) (by kernel_rfl) ?_
 conv=>zeta
 delta ifB vI wR nI
 have hvl:=AC l
 refine ⟨⟨0,by
  first|trivial|omega|(simp;omega),?_⟩,?_⟩
 ·refine ⟨rfl,rfl,rfl,?_⟩
  first|rfl|(rw [AC])
 intro (k:Nat) hki1
 have hki1:k<=l.length:=hki1
 refine And.symm ⟨λ c7=>?_,λ c7=>?_⟩
 ·try simp only [nrm] at c7
  have hk:AV (l.take k)=AV l:=by rw [show k=l.length by omega,List.take_length]
  refine ⟨((AV (l.take k)),(⟨#[32]⟩:ByteArray)),by
   rfl,by
   show (AV (l.take k)).length<=1073741824/\(Dx (AV (l.take k)) (⟨#[32]⟩:ByteArray)).length<=140737488355328
   first|(rw [hvx,hvy];exact GG (Cv hpre.1 (by omega)))|(rw [hk];exact ⟨by rw [Aa];omega,by have:=GI hpre.1;omega⟩),?_⟩
  show Value.string (Am (AV (l.take k)) (⟨#[32]⟩:ByteArray))=Value.string (A7 l)
  rw [hk];rfl
 try simp only [nrm] at c7
 have hvx:=Je (l:=l) (k:=k) (by omega)
 have hvy:=Jf (l:=l) (k:=k) (by omega)
 refine ao (by first|rfl|omega|(simp only [AC,AQ,Aa,List.length_take,List.length_cons,List.length_nil];omega)|(simp;omega)) λ o8=>?_
 refine ao (by first|rfl|omega|(simp only [AC,AQ,Aa,List.length_take,List.length_cons,List.length_nil];omega)|(simp;omega)) λ o9=>?_
 refine ⟨(((((AA l).getD k []).getD 0 (.int 0))).n,((((AA l).getD k []).getD 1 (.int 0))).n),by
  rfl,by
  try dsimp only [BR]
  first|(rw [hvx,hvy];exact GG (Cv hpre.1 (by omega)))|(rw [hk];exact ⟨by rw [Aa];omega,by have:=GI hpre.1;omega⟩),?_⟩
 refine ao (a:=(AS (AV (l.take k))).length+([[Dat.str (Ae ((((((AA l).getD k []).getD 0 (.int 0))).n),(((((AA l).getD k []).getD 1 (.int 0))).n)))]]:List (List Dat)).length<=2199023255552) (by first|rfl|omega|(simp only [AC,AQ,Aa,List.length_take,List.length_cons,List.length_nil];omega)|(simp;omega)) λ o13=>?_
 refine ⟨k+1,by
  first|trivial|omega|(simp;omega),by
  first|omega|(simp;omega),?_⟩
 refine ⟨rfl,?_,rfl,?_⟩
 ·first|rfl|exact Bn (Al (by omega) (by omega))|(rw [hvx,hvy];exact CT (by omega))
 show ((AS (AV (l.take k)))++([[Dat.str (Ae ((((((AA l).getD k []).getD 0 (.int 0))).n),(((((AA l).getD k []).getD 1 (.int 0))).n)))]]:List (List Dat)))=(AS (AV (l.take (k+1))))
 first|rfl|exact Bn (Al (by omega) (by omega))|(rw [hvx,hvy];exact CT (by omega))
def AX (v:V2):ByteArray:=if AJ v=true then Ae v else ⟨#[]⟩
theorem BI {v:V2} (h:AJ v=true):AX v=Ae v:=if_pos h
theorem Iw {v:V2} (h:AJ v=false):AX v=⟨#[]⟩:=if_neg (by rw [h];simp)
def AT:Con:={ ι:=Int×Int,pre:=λ i=>True,args:=λ i=>[DA.agg [cI i.1,cI i.2]],res:=λ i=>⟨false,[none],[.im (Value.string (AX (i.1,i.2)))]⟩ }
theorem GJ:AT.Ok Tryd.prog 19:=by
 refine fok (X:=⟨tt,[(32,CS),(34,A5)],[],14,[]⟩) mixed Bu (CTok.cons Kn (CTok.cons Ja (CTok.nil _))) Tryd.func19 (λ _=>[]) ?_
 rintro ⟨x,y⟩ hpre
 have hpre:True:=hpre
 refine CK (q:=∃ i1:Int×Int,[DA.agg [cI x,cI y]]=CS.args i1/\CS.pre i1/\(ifB ((!(AJ (i1.1,i1.2)))) ((Value.string (⟨#[]⟩:ByteArray)=Value.string (AX (x,y)))) (∃ i2:Int,let Z1:=AM i2++(⟨#[44]⟩:ByteArray);[DA.one (cI x)]=A5.args i2/\A5.pre i2/\(((AM i2).size+(⟨#[44]⟩:ByteArray).size<=1125899906842624)/\(∃ i3:Int,[DA.one (cI y)]=A5.args i3/\A5.pre i3/\((Z1.size+(AM i3).size<=1125899906842624)/\((Value.string (Z1++AM i3)=Value.string (AX (x,y)))))))))) (by kernel_rfl) ?_
 conv=>zeta
 delta ifB
 refine ⟨(x,y),by
  rfl,by
  first|trivial|exact hv.1|exact hv.2,?_⟩
 refine ⟨λ c4=>?_,λ c4=>?_⟩
 ·try simp only [nrm] at c4
  first|rfl|(rw [Iw (by assumption)])|(rw [BI (by assumption)];rfl)
 try simp only [nrm] at c4
 have hv:=GG c4
 have hz1:=BQ hv.1
 have hz2:=BQ hv.2
 have hz3:(⟨#[44]⟩:ByteArray).size=1:=rfl
 refine ⟨x,by
  rfl,by
  show -9223372036854775808<=x/\x<=9223372036854775807
  first|trivial|exact hv.1|exact hv.2,?_⟩
 refine ao (by first|rfl|omega|(simp only [ByteArray.size_append] at *;omega)) λ o9=>?_
 refine ⟨y,by
  rfl,by
  show -9223372036854775808<=y/\y<=9223372036854775807
  first|trivial|exact hv.1|exact hv.2,?_⟩
 refine ao (by first|rfl|omega|(simp only [ByteArray.size_append] at *;omega)) λ o13=>?_
 first|rfl|(rw [Iw (by assumption)])|(rw [BI (by assumption)];rfl)
theorem L2 {l:List ByteArray} {s:ByteArray} (h:(∀ x ∈ l,x.size<=1048576)/\s.size<=1048576/\l.length<=1048576) (k:Nat):(Am (l.take k) s).size<=2199023255552:=by
 have h1:=G1 (m:=1048576) (l:=l.take k) (s:=s) λ x hx=>h.1 x (List.mem_of_mem_take hx)
 rw [F0]
 have h2:(l.take k).length<=1048576:=by rw [List.length_take];omega
 have h3:(1048576+s.size)*(l.take k).length<=2097152*1048576:=Nat.mul_le_mul (by omega) h2
 omega
theorem An {l:List ByteArray} {k:Nat} (hk:k<l.length):(((AS l).getD k []).getD 0 (.int 0)).s=l.getD k ⟨#[]⟩:=by rw [Fz l k hk];rfl
theorem MV {l:List ByteArray} {m:Nat} (h:∀ x ∈ l,x.size<=m) (k:Nat):(l.getD k ⟨#[]⟩).size<=m:=by
 by_cases hk:k<l.length
 ·have e:l.getD k ⟨#[]⟩=l[k]:=by simp [List.getD,hk]
  rw [e];exact h _ (List.getElem_mem hk)
 ·have e:l.getD k ⟨#[]⟩=⟨#[]⟩:=by simp [List.getD,hk]
  rw [e];exact Nat.zero_le _
def DK:Con:={ ι:=(List ByteArray)×ByteArray,pre:=λ i=>(∀ x ∈ i.1,x.size<=1048576)/\i.2.size<=1048576/\i.1.length<=1048576,args:=λ i=>[.one (DC.sl 9 [.str] (AS i.1)),.one (.im (.string i.2))],res:=λ i=>⟨false,[none],[.im (Value.string (Am i.1 i.2))]⟩ }
theorem L3:DK.Ok Tryd.prog 20:=by
 refine fok (X:=⟨tt,[],[],25,[]⟩) mixed Bu (CTok.nil _) Tryd.func20 (λ (i:(List ByteArray)×ByteArray)=>[(3,.mk 2 (Nat) (λ x1=>{ tm:=[(1,.one (.one (.im (Value.string i.2)))),(8,tX 1),(9,tI (nI ((AS i.1).length))),(10,tI (x1:Int)),(5,.one (.one (.im (Value.string (Am (i.1.take x1) i.2)))))],en:=[(1,.view 9 [.str] (AS i.1) [])] }) (λ x1=>x1<=i.1.length) (λ x1=>i.1.length-x1) (λ _=>[]))]) ?_
 rintro ⟨l,s⟩ hpre
 have hpre:(∀ x ∈ l,x.size<=1048576)/\s.size<=1048576/\l.length<=1048576:=hpre
 refine CK (q:=let Z5:=Value.string s;let Z3:=nI ((AS l).length);(∃ x1:Nat,(x1<=l.length)/\((rf Z5)/\(rf (vI Z3))/\(vI (0:Int)=vI (x1:Int))/\(Value.string (⟨#[]⟩:ByteArray)=Value.string (Am (l.take x1) s))/\(rf (AS l))))/\∀ x1:Nat,let Z4:=wR ((x1:Int)+(1:Int));let Z2:=Am (l.take x1) s;let Z1:=(((AS l).getD x1 []).getD 0 (.int 0));(x1<=l.length)->(ifB ((decide ((x1:Int)<Z3))) ((0<=(x1:Int)/\(x1:Int)<((AS l).length:Int))/\((x1<(AS l).length)/\(ifB ((decide ((x1:Int)>(0:Int)))) ((Z2.size+s.size<=1125899906842624)/\(((Z2++s).size+(Z1.s).size<=1125899906842624)/\(∃ y2:Nat,(y2<=l.length)/\(l.length-y2<l.length-x1)/\((rf Z5)/\(rf (vI Z3))/\(vI Z4=vI (y2:Int))/\(Value.string ((Z2++s)++Z1.s)=Value.string (Am (l.take y2) s))/\(rf (AS l)))))) ((Z2.size+(Z1.s).size<=1125899906842624)/\(∃ y3:Nat,(y3<=l.length)/\(l.length-y3<l.length-x1)/\((rf Z5)/\(rf (vI Z3))/\(vI Z4=vI (y3:Int))/\(Value.string (Z2++Z1.s)=Value.string (Am (l.take y3) s))/\(rf (AS l)))))))) ((Value.string Z2=Value.string (Am l s))))) (by kernel_rfl) ?_
 conv=>zeta
 delta ifB vI wR nI
 have hsl:=AQ l
 have hle:=L2 hpre
 have hg:=MV hpre.1
 obtain ⟨hp1,hp2,hp3⟩:=hpre
 refine ⟨⟨0,by
  first|trivial|omega|(simp;omega),?_⟩,?_⟩
 ·refine ⟨rfl,rfl,rfl,?_,rfl⟩
  first|rfl|(rw [AQ])
 intro (k:Nat) hki1
 have hki1:k<=l.length:=hki1
 refine And.symm ⟨λ c8=>?_,λ c8=>?_⟩
 ·try simp only [nrm] at c8
  rw [show k=l.length by omega,List.take_length]
 try simp only [nrm] at c8
 refine ao (by first|rfl|omega|(have:=hle k;have:=hg k;first|omega|(rw [An (show k<l.length by omega)];omega)|(rw [An (show k<l.length by omega),ByteArray.size_append];omega))) λ o9=>?_
 refine ao (by first|rfl|omega|(have:=hle k;have:=hg k;first|omega|(rw [An (show k<l.length by omega)];omega)|(rw [An (show k<l.length by omega),ByteArray.size_append];omega))) λ o10=>?_
 refine And.symm ⟨λ c11=>?_,λ c11=>?_⟩
 ·try simp only [nrm] at c11
  refine ao (by first|rfl|omega|(have:=hle k;have:=hg k;first|omega|(rw [An (show k<l.length by omega)];omega)|(rw [An (show k<l.length by omega),ByteArray.size_append];omega))) λ o22=>?_
  refine ⟨k+1,by
   first|trivial|omega|(simp;omega),by
   first|omega|(simp;omega),?_⟩
  refine ⟨rfl,rfl,?_,?_,rfl⟩
  ·first|rfl|exact Bn (Al (by omega) (by omega))|(rw [An (by omega),CR (by omega)];first|(rw [if_pos (by omega)])|(rw [if_neg (by omega)]))
  first|rfl|exact Bn (Al (by omega) (by omega))|(rw [An (by omega),CR (by omega)];first|(rw [if_pos (by omega)])|(rw [if_neg (by omega)]))
 try simp only [nrm] at c11
 refine ao (by first|rfl|omega|(have:=hle k;have:=hg k;first|omega|(rw [An (show k<l.length by omega)];omega)|(rw [An (show k<l.length by omega),ByteArray.size_append];omega))) λ o12=>?_
 refine ao (by first|rfl|omega|(have:=hle k;have:=hg k;first|omega|(rw [An (show k<l.length by omega)];omega)|(rw [An (show k<l.length by omega),ByteArray.size_append];omega))) λ o13=>?_
 refine ⟨k+1,by
  first|trivial|omega|(simp;omega),by
  first|omega|(simp;omega),?_⟩
 refine ⟨rfl,rfl,?_,?_,rfl⟩
 ·first|rfl|exact Bn (Al (by omega) (by omega))|(rw [An (by omega),CR (by omega)];first|(rw [if_pos (by omega)])|(rw [if_neg (by omega)]))
 first|rfl|exact Bn (Al (by omega) (by omega))|(rw [An (by omega),CR (by omega)];first|(rw [if_pos (by omega)])|(rw [if_neg (by omega)]))
def A0 (l:List V2):ByteArray:=if AY l=true then A7 l else ⟨#[]⟩
theorem CU {l:List V2} (h:AY l=true):A0 l=A7 l:=if_pos h
theorem G7 {l:List V2} (h:AY l=false):A0 l=⟨#[]⟩:=if_neg (by rw [h];simp)
theorem Cw {l:List V2} (h:AY l=true):3<=l.length/\l.length<=16/\l.all AJ=true:=by
 simp only [AY,Bool.and_eq_true,Dc] at h
 exact ⟨by omega,by omega,h.1.2⟩
def BJ:Con:={ ι:=(List V2),pre:=λ i=>True,args:=λ i=>[.one (DC.sl 36 [.int,.int] (AA i))],res:=λ i=>⟨false,[none],[.im (Value.string (A0 i))]⟩ }
theorem Ko:BJ.Ok Tryd.prog 7:=by
 refine fok (X:=⟨tt,[(18,Bv),(19,AT),(20,DK)],[],24,[]⟩) mixed Bu (CTok.cons Jg (CTok.cons GJ (CTok.cons L3 (CTok.nil _)))) Tryd.func7 (λ (i:(List V2))=>[(5,.mk 3 (Nat) (λ x1=>{ tm:=[(10,tX 1),(11,tI (nI ((AA i).length))),(12,tI (x1:Int)),(3,tX 2)],en:=[(1,.view 36 [.int,.int] (AA i) []),(2,.own 9 [.str] (AS (AV (i.take x1))))] }) (λ x1=>x1<=i.length) (λ x1=>i.length-x1) (λ _=>[]))]) ?_
 intro (l:List V2) hpre
 have hpre:True:=hpre
 refine CK (q:=let Z2:=nI ((AA l).length);∃ i1:(List V2),[DA.one (DC.sl 36 [.int,.int] (AA l))]=Bv.args i1/\Bv.pre i1/\(ifB ((!(AY i1))) ((Value.string (⟨#[]⟩:ByteArray)=Value.string (A0 l))) ((∃ x1:Nat,(x1<=l.length)/\((rf (vI Z2))/\(vI (0:Int)=vI (x1:Int))/\(rf (AA l))/\(([]:List (List Dat))=(AS (AV (l.take x1))))))/\∀ x1:Nat,let Z1:=AS (AV (l.take x1));(x1<=l.length)->(ifB ((decide ((x1:Int)<Z2))) ((0<=(x1:Int)/\(x1:Int)<((AA l).length:Int))/\((x1<(AA l).length)/\(∃ i2:Int×Int,[DA.agg [cI (((((AA l).getD x1 []).getD 0 (.int 0))).n),cI (((((AA l).getD x1 []).getD 1 (.int 0))).n)]]=AT.args i2/\AT.pre i2/\((Z1.length+([[Dat.str (AX (i2.1,i2.2))]]:List (List Dat)).length<=2199023255552)/\(∃ y2:Nat,(y2<=l.length)/\(l.length-y2<l.length-x1)/\((rf (vI Z2))/\(vI (wR ((x1:Int)+(1:Int)))=vI (y2:Int))/\(rf (AA l))/\((Z1++([[Dat.str (AX (i2.1,i2.2))]]:List (List Dat)))=(AS (AV (l.take y2)))))))))) (∃ i3:(List ByteArray)×ByteArray,[DA.one (DC.sl 9 [.str] Z1),DA.one (DC.im (Value.string (⟨#[32]⟩:ByteArray)))]=DK.args i3/\DK.pre i3/\((Value.string (Am i3.1 i3.2)=Value.string (A0 l)))))))) (by kernel_rfl) ?_
 conv=>zeta
 delta ifB vI wR nI
 have hvl:=AC l
 refine ⟨l,by
  rfl,by
  first|trivial|(rw [hk];exact ⟨λ x hx=>Nat.le_trans (Dz hp.2.2 x hx) (by omega),of_decide_eq_true rfl,by rw [Aa];omega⟩),?_⟩
 refine ⟨λ c4=>?_,λ c4=>?_⟩
 ·try simp only [nrm] at c4
  first|rfl|(rw [G7 (by assumption)])|(rw [hk,CU c4];rfl)
 try simp only [nrm] at c4
 have hp:=Cw c4
 refine ⟨⟨0,by
  first|trivial|omega|(simp;omega),?_⟩,?_⟩
 ·refine ⟨rfl,rfl,rfl,?_⟩
  first|rfl|(rw [AC])
 intro (k:Nat) hki6
 have hki6:k<=l.length:=hki6
 refine And.symm ⟨λ c12=>?_,λ c12=>?_⟩
 ·try simp only [nrm] at c12
  have hk:AV (l.take k)=AV l:=by rw [show k=l.length by omega,List.take_length]
  refine ⟨((AV (l.take k)),(⟨#[32]⟩:ByteArray)),by
   rfl,by
   show (∀ x ∈ (AV (l.take k)),x.size<=1048576)/\(⟨#[32]⟩:ByteArray).size<=1048576/\(AV (l.take k)).length<=1048576
   first|trivial|(rw [hk];exact ⟨λ x hx=>Nat.le_trans (Dz hp.2.2 x hx) (by omega),of_decide_eq_true rfl,by rw [Aa];omega⟩),?_⟩
  show Value.string (Am (AV (l.take k)) (⟨#[32]⟩:ByteArray))=Value.string (A0 l)
  first|rfl|(rw [G7 (by assumption)])|(rw [hk,CU c4];rfl)
 try simp only [nrm] at c12
 have hvx:=Je (l:=l) (k:=k) (by omega)
 have hvy:=Jf (l:=l) (k:=k) (by omega)
 have hvv:AJ ((l.getD k (0,0)).1,(l.getD k (0,0)).2)=true:=Cv hp.2.2 (show k<l.length by omega)
 refine ao (by first|rfl|omega|(simp only [AC,AQ,Aa,List.length_take,List.length_cons,List.length_nil];omega)|(simp;omega)) λ o13=>?_
 refine ao (by first|rfl|omega|(simp only [AC,AQ,Aa,List.length_take,List.length_cons,List.length_nil];omega)|(simp;omega)) λ o14=>?_
 refine ⟨(((((AA l).getD k []).getD 0 (.int 0))).n,((((AA l).getD k []).getD 1 (.int 0))).n),by
  rfl,by
  first|trivial|(rw [hk];exact ⟨λ x hx=>Nat.le_trans (Dz hp.2.2 x hx) (by omega),of_decide_eq_true rfl,by rw [Aa];omega⟩),?_⟩
 refine ao (a:=(AS (AV (l.take k))).length+([[Dat.str (AX ((((((AA l).getD k []).getD 0 (.int 0))).n),(((((AA l).getD k []).getD 1 (.int 0))).n)))]]:List (List Dat)).length<=2199023255552) (by first|rfl|omega|(simp only [AC,AQ,Aa,List.length_take,List.length_cons,List.length_nil];omega)|(simp;omega)) λ o18=>?_
 refine ⟨k+1,by
  first|trivial|omega|(simp;omega),by
  first|omega|(simp;omega),?_⟩
 refine ⟨rfl,?_,rfl,?_⟩
 ·first|rfl|exact Bn (Al (by omega) (by omega))|(rw [hvx,hvy,BI hvv];exact CT (by omega))
 show ((AS (AV (l.take k)))++([[Dat.str (AX ((((((AA l).getD k []).getD 0 (.int 0))).n),(((((AA l).getD k []).getD 1 (.int 0))).n)))]]:List (List Dat)))=(AS (AV (l.take (k+1))))
 first|rfl|exact Bn (Al (by omega) (by omega))|(rw [hvx,hvy,BI hvv];exact CT (by omega))
end Go.Proofs.YtgggkcoljpimcaaDoor
