import Derived.Test.YtgggkcoljpimcaaDoorCkRkB
import Derived.Test.YtgggkcoljpimcaaDoorCkFmI
import Derived.Test.YtgggkcoljpimcaaDoorCkScL
import Derived.Lib.ItoaLen
namespace Go.Proofs.YtgggkcoljpimcaaDoor
set_option maxRecDepth 100000
set_option linter.unusedVariables false
set_option linter.unusedSimpArgs false
open Go.RowKit
def CS:Con:={ ι:=Int×Int,pre:=λ i=>True,args:=λ i=>[DA.agg [cI i.1,cI i.2]],res:=λ i=>⟨false,[none],[rcB (AJ (i.1,i.2))]⟩ }
theorem Kx:CS.Ok Tryd.prog 32:=CL rfl ⟨_,Tryd.func32,by decide,rfl⟩ (λ _=>Nat.le_of_ble_eq_true rfl) (λ _=>rfl) (λ i=>[.im (.bool (AJ (i.1,i.2)))]) (λ _=>rfl) (λ _=>rfl) (λ i hp w us h=>by
 obtain ⟨x,y⟩:=i
 have h:RdRow w [.int,.int] [.int x,.int y] us:=h
 obtain ⟨a,_,rfl,q1,h⟩:=RdRow.cons2 h
 obtain ⟨b,_,rfl,q2,h⟩:=RdRow.cons2 h
 obtain ⟨-,rfl⟩:=RdRow.nil_inv h
 obtain rfl:=Rd.int2 q1
 obtain rfl:=Rd.int2 q2
 refine (Af x y w).mono ?_
 rintro e w' ⟨rfl,hb⟩
 exact ⟨[Value.bool (AJ (x,y))],rfl,Own.leaf (Fp.mk_bool _),hb⟩)
def Bw:Con:={ ι:=(List V2),pre:=λ i=>True,args:=λ i=>[.one (DC.sl 36 [.int,.int] (AA i))],res:=λ i=>⟨false,[none],[rcB (Aa i)]⟩ }
theorem Jq:Bw.Ok Tryd.prog 18:=CL rfl ⟨_,Tryd.func18,by decide,rfl⟩ (λ _=>Nat.le_of_ble_eq_true rfl) (λ _=>rfl) (λ l=>[.im (.bool (Aa l))]) (λ _=>rfl) (λ _=>rfl) (λ i hp w us h=>by
 have h:RdRow w [.sl 36 [.int,.int]] [.sl (AA i)] us:=h
 obtain ⟨v,vs,rfl,h1,h2⟩:=RdRow.cons2 h
 obtain ⟨-,rfl⟩:=RdRow.nil_inv h2
 refine (Bb i v w (Rd.vecs h1)).mono ?_
 rintro e w' ⟨rfl,hb⟩
 exact ⟨[Value.bool (Aa i)],rfl,Own.leaf (Fp.mk_bool _),hb⟩)
def A9:Con:={ ι:=Int,pre:=λ i=>-9223372036854775808<=i/\i<=9223372036854775807,args:=λ i=>[.one (cI i)],res:=λ i=>⟨false,[none],[.im (Value.string (AM i))]⟩ }
theorem Jr:A9.Ok Tryd.prog 51:=by
 refine fok (X:=⟨tt,[(57,DI)],[],5,[]⟩) mixed Bp (CTok.cons L5 (CTok.nil _)) Tryd.func51 (λ _=>[]) ?_
 intro (n:Int) hpre
 have hpre:-9223372036854775808<=n/\n<=9223372036854775807:=hpre
 refine Bv (q:=∃ i1:Int,[DA.one (cI n)]=DI.args i1/\DI.pre i1/\((Value.string (AM i1)=Value.string (AM n)))) (by kernel_rfl) ?_
 refine ⟨n,by
  rfl,by
  exact hpre,?_⟩
 exact rfl
def Ag (v:V2):ByteArray:=AM v.1++(⟨#[44]⟩:ByteArray)++AM v.2
theorem GM {v:V2} (h:AJ v=true):(-9223372036854775808<=v.1/\v.1<=9223372036854775807)/\-9223372036854775808<=v.2/\v.2<=9223372036854775807:=by
 have b:=Be h
 omega
theorem MA {x y:Int} (h:(-9223372036854775808<=x/\x<=9223372036854775807)/\-9223372036854775808<=y/\y<=9223372036854775807):(Ag (x,y)).size<=43:=by
 have h1:=BS h.1
 have h2:=BS h.2
 simp only [Ag,ByteArray.size_append]
 have:(⟨#[44]⟩:ByteArray).size=1:=rfl
 omega
def AX (l:List V2):List ByteArray:=l.map Ag
def BA (l:List V2):ByteArray:=An (AX l) (⟨#[32]⟩:ByteArray)
def BT:Con:={ ι:=Int×Int,pre:=λ i=>(-9223372036854775808<=i.1/\i.1<=9223372036854775807)/\-9223372036854775808<=i.2/\i.2<=9223372036854775807,args:=λ i=>[DA.agg [cI i.1,cI i.2]],res:=λ i=>⟨false,[none],[.im (Value.string (Ag (i.1,i.2)))]⟩ }
theorem GN:BT.Ok Tryd.prog 38:=by
 refine fok (X:=⟨tt,[(51,A9)],[],11,[]⟩) mixed Bp (CTok.cons Jr (CTok.nil _)) Tryd.func38 (λ _=>[]) ?_
 rintro ⟨x,y⟩ hpre
 have hpre:(-9223372036854775808<=x/\x<=9223372036854775807)/\-9223372036854775808<=y/\y<=9223372036854775807:=hpre
 refine Bv (q:=∃ i1:Int,let Z1:=AM i1++(⟨#[44]⟩:ByteArray);[DA.one (cI x)]=A9.args i1/\A9.pre i1/\(((AM i1).size+(⟨#[44]⟩:ByteArray).size<=1125899906842624)/\(∃ i2:Int,[DA.one (cI y)]=A9.args i2/\A9.pre i2/\((Z1.size+(AM i2).size<=1125899906842624)/\((Value.string (Z1++AM i2)=Value.string (Ag (x,y)))))))) (by kernel_rfl) ?_
 conv=>zeta
 have hz1:=BS hpre.1
 have hz2:=BS hpre.2
 have hz3:(⟨#[44]⟩:ByteArray).size=1:=rfl
 refine ⟨x,by
  rfl,by
  show -9223372036854775808<=x/\x<=9223372036854775807
  first|exact hpre.1|exact hpre.2,?_⟩
 refine ao (by first|omega|(simp only [ByteArray.size_append];omega)) λ o4=>?_
 refine ⟨y,by
  rfl,by
  show -9223372036854775808<=y/\y<=9223372036854775807
  first|exact hpre.1|exact hpre.2,?_⟩
 refine ao (by first|omega|(simp only [ByteArray.size_append];omega)) λ o8=>?_
 rfl
theorem BN {v:V2} (h:AJ v=true):(Ag v).size<=43:=MA (x:=v.1) (y:=v.2) (GM h)
theorem Ac (l:List V2):(AX l).length=l.length:=by simp [AX]
theorem D1 {l:List V2} (h:l.all AJ=true):∀ x ∈ AX l,x.size<=43:=by
 intro x hx
 obtain ⟨v,hv,rfl⟩:=List.mem_map.1 hx
 exact BN (List.all_eq_true.1 h v hv)
theorem GO {l:List V2} (h:l.all AJ=true):(Dz (AX l) (⟨#[32]⟩:ByteArray)).length<=44*l.length:=by
 have:=HG (s:=(⟨#[32]⟩:ByteArray)) (D1 h)
 rw [Ac] at this
 exact this
theorem CM {l:List V2} (h:l.all AJ=true):(BA l).size<=44*l.length:=by
 unfold BA;rw [F7];exact GO h
theorem CT {l:List V2} {k:Nat} (hk:k<l.length):AU (AX (l.take k))++[[Dat.str (Ag (l.getD k (0,0)))]]=AU (AX (l.take (k+1))):=by
 have e:l.take (k+1)=l.take k++[l.getD k (0,0)]:=by rw [List.take_add_one];simp [List.getD,hk]
 rw [e]
 simp [AX,AU]
def H2:Con:={ ι:=(List V2),pre:=λ i=>i.all AJ=true/\i.length<=1048576,args:=λ i=>[.one (DC.sl 36 [.int,.int] (AA i))],res:=λ i=>⟨false,[none],[.im (Value.string (BA i))]⟩ }
theorem I6:H2.Ok Tryd.prog 23:=by
 refine fok (X:=⟨tt,[(38,BT),(39,DJ)],[],21,[]⟩) mixed Bp (CTok.cons GN (CTok.cons L6 (CTok.nil _))) Tryd.func23 (λ (i:(List V2))=>[(3,.mk 3 (Nat) (λ x1=>{ tm:=[(7,tX 1),(8,tI (nI ((AA i).length))),(9,tI (x1:Int)),(3,tX 2)],en:=[(1,.view 36 [.int,.int] (AA i) []),(2,.own 9 [.str] (AU (AX (i.take x1))))] }) (λ x1=>x1<=i.length) (λ x1=>i.length-x1) (λ _=>[]))]) ?_
 intro (l:List V2) hpre
 have hpre:l.all AJ=true/\l.length<=1048576:=hpre
 refine Bv (q:=let Z2:=nI ((AA l).length);(∃ x1:Nat,(x1<=l.length)/\((rf (vI Z2))/\(vI (0:Int)=vI (x1:Int))/\(rf (AA l))/\(([]:List (List Dat))=(AU (AX (l.take x1))))))/\∀ x1:Nat,let Z1:=AU (AX (l.take x1));(x1<=l.length)->(ifB ((decide ((x1:Int)<Z2))) ((0<=(x1:Int)/\(x1:Int)<((AA l).length:Int))/\((x1<(AA l).length)/\(∃ i1:Int×Int,[DA.agg [cI (((((AA l).getD x1 []).getD 0 (.int 0))).n),cI (((((AA l).getD x1 []).getD 1 (.int 0))).n)]]=BT.args i1/\BT.pre i1/\((Z1.length+([[Dat.str (Ag (i1.1,i1.2))]]:List (List Dat)).length<=2199023255552)/\(∃ y2:Nat,(y2<=l.length)/\(l.length-y2<l.length-x1)/\((rf (vI Z2))/\(vI (wR ((x1:Int)+(1:Int)))=vI (y2:Int))/\(rf (AA l))/\((Z1++([[Dat.str (Ag (i1.1,i1.2))]]:List (List Dat)))=(AU (AX (l.take y2)))))))))) (∃ i2:(List ByteArray)×ByteArray,[DA.one (DC.sl 9 [.str] Z1),DA.one (DC.im (Value.string (⟨#[32]⟩:ByteArray)))]=DJ.args i2/\DJ.pre i2/\((Value.string (An i2.1 i2.2)=Value.string (BA l)))))) (by kernel_rfl) ?_
 conv=>zeta
 delta ifB vI wR nI
 have hvl:=AC l
 refine ⟨⟨0,by
  first|trivial|omega|(simp;omega),?_⟩,?_⟩
 ·refine ⟨rfl,rfl,rfl,?_⟩
  first|rfl|(rw [AC])
 intro (k:Nat) hki1
 have hki1:k<=l.length:=hki1
 refine And.symm ⟨λ c7=>?_,λ c7=>?_⟩
 ·try simp only [nrm] at c7
  have hk:AX (l.take k)=AX l:=by rw [show k=l.length by omega,List.take_length]
  refine ⟨((AX (l.take k)),(⟨#[32]⟩:ByteArray)),by
   rfl,by
   show (AX (l.take k)).length<=1073741824/\(Dz (AX (l.take k)) (⟨#[32]⟩:ByteArray)).length<=140737488355328
   first|(rw [hvx,hvy];exact GM (Cw hpre.1 (by omega)))|(rw [hk];exact ⟨by rw [Ac];omega,by have:=GO hpre.1;omega⟩),?_⟩
  show Value.string (An (AX (l.take k)) (⟨#[32]⟩:ByteArray))=Value.string (BA l)
  rw [hk];rfl
 try simp only [nrm] at c7
 have hvx:=Jo (l:=l) (k:=k) (by omega)
 have hvy:=Jp (l:=l) (k:=k) (by omega)
 refine ao (by first|rfl|omega|(simp only [AC,AR,Ac,List.length_take,List.length_cons,List.length_nil];omega)|(simp;omega)) λ o8=>?_
 refine ao (by first|rfl|omega|(simp only [AC,AR,Ac,List.length_take,List.length_cons,List.length_nil];omega)|(simp;omega)) λ o9=>?_
 refine ⟨(((((AA l).getD k []).getD 0 (.int 0))).n,((((AA l).getD k []).getD 1 (.int 0))).n),by
  rfl,by
  try dsimp only [BT]
  first|(rw [hvx,hvy];exact GM (Cw hpre.1 (by omega)))|(rw [hk];exact ⟨by rw [Ac];omega,by have:=GO hpre.1;omega⟩),?_⟩
 refine ao (a:=(AU (AX (l.take k))).length+([[Dat.str (Ag ((((((AA l).getD k []).getD 0 (.int 0))).n),(((((AA l).getD k []).getD 1 (.int 0))).n)))]]:List (List Dat)).length<=2199023255552) (by first|rfl|omega|(simp only [AC,AR,Ac,List.length_take,List.length_cons,List.length_nil];omega)|(simp;omega)) λ o13=>?_
 refine ⟨k+1,by
  first|trivial|omega|(simp;omega),by
  first|omega|(simp;omega),?_⟩
 refine ⟨rfl,?_,rfl,?_⟩
 ·first|rfl|exact Ay (AT (by omega) (by omega))|(rw [hvx,hvy];exact CT (by omega))
 show ((AU (AX (l.take k)))++([[Dat.str (Ag ((((((AA l).getD k []).getD 0 (.int 0))).n),(((((AA l).getD k []).getD 1 (.int 0))).n)))]]:List (List Dat)))=(AU (AX (l.take (k+1))))
 first|rfl|exact Ay (AT (by omega) (by omega))|(rw [hvx,hvy];exact CT (by omega))
def AZ (v:V2):ByteArray:=if AJ v=true then Ag v else ⟨#[]⟩
theorem BL {v:V2} (h:AJ v=true):AZ v=Ag v:=if_pos h
theorem I9 {v:V2} (h:AJ v=false):AZ v=⟨#[]⟩:=if_neg (by rw [h];simp)
def AV:Con:={ ι:=Int×Int,pre:=λ i=>True,args:=λ i=>[DA.agg [cI i.1,cI i.2]],res:=λ i=>⟨false,[none],[.im (Value.string (AZ (i.1,i.2)))]⟩ }
theorem GP:AV.Ok Tryd.prog 19:=by
 refine fok (X:=⟨tt,[(32,CS),(34,A8)],[],14,[]⟩) mixed Bp (CTok.cons Kx (CTok.cons Jk (CTok.nil _))) Tryd.func19 (λ _=>[]) ?_
 rintro ⟨x,y⟩ hpre
 have hpre:True:=hpre
 refine Bv (q:=∃ i1:Int×Int,[DA.agg [cI x,cI y]]=CS.args i1/\CS.pre i1/\(ifB ((!(AJ (i1.1,i1.2)))) ((Value.string (⟨#[]⟩:ByteArray)=Value.string (AZ (x,y)))) (∃ i2:Int,let Z1:=AM i2++(⟨#[44]⟩:ByteArray);[DA.one (cI x)]=A8.args i2/\A8.pre i2/\(((AM i2).size+(⟨#[44]⟩:ByteArray).size<=1125899906842624)/\(∃ i3:Int,[DA.one (cI y)]=A8.args i3/\A8.pre i3/\((Z1.size+(AM i3).size<=1125899906842624)/\((Value.string (Z1++AM i3)=Value.string (AZ (x,y)))))))))) (by kernel_rfl) ?_
 conv=>zeta
 delta ifB
 refine ⟨(x,y),by
  rfl,by
  first|trivial|exact hv.1|exact hv.2,?_⟩
 refine ⟨λ c4=>?_,λ c4=>?_⟩
 ·try simp only [nrm] at c4
  first|rfl|(rw [I9 (by assumption)])|(rw [BL (by assumption)];rfl)
 try simp only [nrm] at c4
 have hv:=GM c4
 have hz1:=BS hv.1
 have hz2:=BS hv.2
 have hz3:(⟨#[44]⟩:ByteArray).size=1:=rfl
 refine ⟨x,by
  rfl,by
  show -9223372036854775808<=x/\x<=9223372036854775807
  first|trivial|exact hv.1|exact hv.2,?_⟩
 refine ao (by first|rfl|omega|(simp only [ByteArray.size_append] at *;omega)) λ o9=>?_
 refine ⟨y,by
  rfl,by
  show -9223372036854775808<=y/\y<=9223372036854775807
  first|trivial|exact hv.1|exact hv.2,?_⟩
 refine ao (by first|rfl|omega|(simp only [ByteArray.size_append] at *;omega)) λ o13=>?_
 first|rfl|(rw [I9 (by assumption)])|(rw [BL (by assumption)];rfl)
theorem MB {l:List ByteArray} {s:ByteArray} (h:(∀ x ∈ l,x.size<=1048576)/\s.size<=1048576/\l.length<=1048576) (k:Nat):(An (l.take k) s).size<=2199023255552:=by
 have h1:=HG (m:=1048576) (l:=l.take k) (s:=s) λ x hx=>h.1 x (List.mem_of_mem_take hx)
 rw [F7]
 have h2:(l.take k).length<=1048576:=by rw [List.length_take];omega
 have h3:(1048576+s.size)*(l.take k).length<=2097152*1048576:=Nat.mul_le_mul (by omega) h2
 omega
theorem Ao {l:List ByteArray} {k:Nat} (hk:k<l.length):(((AU l).getD k []).getD 0 (.int 0)).s=l.getD k ⟨#[]⟩:=by rw [F6 l k hk];rfl
theorem Md {l:List ByteArray} {m:Nat} (h:∀ x ∈ l,x.size<=m) (k:Nat):(l.getD k ⟨#[]⟩).size<=m:=by
 by_cases hk:k<l.length
 ·have e:l.getD k ⟨#[]⟩=l[k]:=by simp [List.getD,hk]
  rw [e];exact h _ (List.getElem_mem hk)
 ·have e:l.getD k ⟨#[]⟩=⟨#[]⟩:=by simp [List.getD,hk]
  rw [e];exact Nat.zero_le _
def DL:Con:={ ι:=(List ByteArray)×ByteArray,pre:=λ i=>(∀ x ∈ i.1,x.size<=1048576)/\i.2.size<=1048576/\i.1.length<=1048576,args:=λ i=>[.one (DC.sl 9 [.str] (AU i.1)),.one (.im (.string i.2))],res:=λ i=>⟨false,[none],[.im (Value.string (An i.1 i.2))]⟩ }
theorem MC:DL.Ok Tryd.prog 20:=by
 refine fok (X:=⟨tt,[],[],25,[]⟩) mixed Bp (CTok.nil _) Tryd.func20 (λ (i:(List ByteArray)×ByteArray)=>[(3,.mk 2 (Nat) (λ x1=>{ tm:=[(1,.one (.one (.im (Value.string i.2)))),(8,tX 1),(9,tI (nI ((AU i.1).length))),(10,tI (x1:Int)),(5,.one (.one (.im (Value.string (An (i.1.take x1) i.2)))))],en:=[(1,.view 9 [.str] (AU i.1) [])] }) (λ x1=>x1<=i.1.length) (λ x1=>i.1.length-x1) (λ _=>[]))]) ?_
 rintro ⟨l,s⟩ hpre
 have hpre:(∀ x ∈ l,x.size<=1048576)/\s.size<=1048576/\l.length<=1048576:=hpre
 refine Bv (q:=let Z5:=Value.string s;let Z3:=nI ((AU l).length);(∃ x1:Nat,(x1<=l.length)/\((rf Z5)/\(rf (vI Z3))/\(vI (0:Int)=vI (x1:Int))/\(Value.string (⟨#[]⟩:ByteArray)=Value.string (An (l.take x1) s))/\(rf (AU l))))/\∀ x1:Nat,let Z4:=wR ((x1:Int)+(1:Int));let Z2:=An (l.take x1) s;let Z1:=(((AU l).getD x1 []).getD 0 (.int 0));(x1<=l.length)->(ifB ((decide ((x1:Int)<Z3))) ((0<=(x1:Int)/\(x1:Int)<((AU l).length:Int))/\((x1<(AU l).length)/\(ifB ((decide ((x1:Int)>(0:Int)))) ((Z2.size+s.size<=1125899906842624)/\(((Z2++s).size+(Z1.s).size<=1125899906842624)/\(∃ y2:Nat,(y2<=l.length)/\(l.length-y2<l.length-x1)/\((rf Z5)/\(rf (vI Z3))/\(vI Z4=vI (y2:Int))/\(Value.string ((Z2++s)++Z1.s)=Value.string (An (l.take y2) s))/\(rf (AU l)))))) ((Z2.size+(Z1.s).size<=1125899906842624)/\(∃ y3:Nat,(y3<=l.length)/\(l.length-y3<l.length-x1)/\((rf Z5)/\(rf (vI Z3))/\(vI Z4=vI (y3:Int))/\(Value.string (Z2++Z1.s)=Value.string (An (l.take y3) s))/\(rf (AU l)))))))) ((Value.string Z2=Value.string (An l s))))) (by kernel_rfl) ?_
 conv=>zeta
 delta ifB vI wR nI
 have hsl:=AR l
 have hle:=MB hpre
 have hg:=Md hpre.1
 obtain ⟨hp1,hp2,hp3⟩:=hpre
 refine ⟨⟨0,by
  first|trivial|omega|(simp;omega),?_⟩,?_⟩
 ·refine ⟨rfl,rfl,rfl,?_,rfl⟩
  first|rfl|(rw [AR])
 intro (k:Nat) hki1
 have hki1:k<=l.length:=hki1
 refine And.symm ⟨λ c8=>?_,λ c8=>?_⟩
 ·try simp only [nrm] at c8
  rw [show k=l.length by omega,List.take_length]
 try simp only [nrm] at c8
 refine ao (by first|rfl|omega|(have:=hle k;have:=hg k;first|omega|(rw [Ao (show k<l.length by omega)];omega)|(rw [Ao (show k<l.length by omega),ByteArray.size_append];omega))) λ o9=>?_
 refine ao (by first|rfl|omega|(have:=hle k;have:=hg k;first|omega|(rw [Ao (show k<l.length by omega)];omega)|(rw [Ao (show k<l.length by omega),ByteArray.size_append];omega))) λ o10=>?_
 refine And.symm ⟨λ c11=>?_,λ c11=>?_⟩
 ·try simp only [nrm] at c11
  refine ao (by first|rfl|omega|(have:=hle k;have:=hg k;first|omega|(rw [Ao (show k<l.length by omega)];omega)|(rw [Ao (show k<l.length by omega),ByteArray.size_append];omega))) λ o22=>?_
  refine ⟨k+1,by
   first|trivial|omega|(simp;omega),by
   first|omega|(simp;omega),?_⟩
  refine ⟨rfl,rfl,?_,?_,rfl⟩
  ·first|rfl|exact Ay (AT (by omega) (by omega))|(rw [Ao (by omega),CR (by omega)];first|(rw [if_pos (by omega)])|(rw [if_neg (by omega)]))
  first|rfl|exact Ay (AT (by omega) (by omega))|(rw [Ao (by omega),CR (by omega)];first|(rw [if_pos (by omega)])|(rw [if_neg (by omega)]))
 try simp only [nrm] at c11
 refine ao (by first|rfl|omega|(have:=hle k;have:=hg k;first|omega|(rw [Ao (show k<l.length by omega)];omega)|(rw [Ao (show k<l.length by omega),ByteArray.size_append];omega))) λ o12=>?_
 refine ao (by first|rfl|omega|(have:=hle k;have:=hg k;first|omega|(rw [Ao (show k<l.length by omega)];omega)|(rw [Ao (show k<l.length by omega),ByteArray.size_append];omega))) λ o13=>?_
 refine ⟨k+1,by
  first|trivial|omega|(simp;omega),by
  first|omega|(simp;omega),?_⟩
 refine ⟨rfl,rfl,?_,?_,rfl⟩
 ·first|rfl|exact Ay (AT (by omega) (by omega))|(rw [Ao (by omega),CR (by omega)];first|(rw [if_pos (by omega)])|(rw [if_neg (by omega)]))
 first|rfl|exact Ay (AT (by omega) (by omega))|(rw [Ao (by omega),CR (by omega)];first|(rw [if_pos (by omega)])|(rw [if_neg (by omega)]))
def A4 (l:List V2):ByteArray:=if Aa l=true then BA l else ⟨#[]⟩
theorem CU {l:List V2} (h:Aa l=true):A4 l=BA l:=if_pos h
theorem HQ {l:List V2} (h:Aa l=false):A4 l=⟨#[]⟩:=if_neg (by rw [h];simp)
theorem Cx {l:List V2} (h:Aa l=true):3<=l.length/\l.length<=16/\l.all AJ=true:=by
 simp only [Aa,Bool.and_eq_true,De] at h
 exact ⟨by omega,by omega,h.1.2⟩
def BM:Con:={ ι:=(List V2),pre:=λ i=>True,args:=λ i=>[.one (DC.sl 36 [.int,.int] (AA i))],res:=λ i=>⟨false,[none],[.im (Value.string (A4 i))]⟩ }
theorem Ky:BM.Ok Tryd.prog 7:=by
 refine fok (X:=⟨tt,[(18,Bw),(19,AV),(20,DL)],[],24,[]⟩) mixed Bp (CTok.cons Jq (CTok.cons GP (CTok.cons MC (CTok.nil _)))) Tryd.func7 (λ (i:(List V2))=>[(5,.mk 3 (Nat) (λ x1=>{ tm:=[(10,tX 1),(11,tI (nI ((AA i).length))),(12,tI (x1:Int)),(3,tX 2)],en:=[(1,.view 36 [.int,.int] (AA i) []),(2,.own 9 [.str] (AU (AX (i.take x1))))] }) (λ x1=>x1<=i.length) (λ x1=>i.length-x1) (λ _=>[]))]) ?_
 intro (l:List V2) hpre
 have hpre:True:=hpre
 refine Bv (q:=let Z2:=nI ((AA l).length);∃ i1:(List V2),[DA.one (DC.sl 36 [.int,.int] (AA l))]=Bw.args i1/\Bw.pre i1/\(ifB ((!(Aa i1))) ((Value.string (⟨#[]⟩:ByteArray)=Value.string (A4 l))) ((∃ x1:Nat,(x1<=l.length)/\((rf (vI Z2))/\(vI (0:Int)=vI (x1:Int))/\(rf (AA l))/\(([]:List (List Dat))=(AU (AX (l.take x1))))))/\∀ x1:Nat,let Z1:=AU (AX (l.take x1));(x1<=l.length)->(ifB ((decide ((x1:Int)<Z2))) ((0<=(x1:Int)/\(x1:Int)<((AA l).length:Int))/\((x1<(AA l).length)/\(∃ i2:Int×Int,[DA.agg [cI (((((AA l).getD x1 []).getD 0 (.int 0))).n),cI (((((AA l).getD x1 []).getD 1 (.int 0))).n)]]=AV.args i2/\AV.pre i2/\((Z1.length+([[Dat.str (AZ (i2.1,i2.2))]]:List (List Dat)).length<=2199023255552)/\(∃ y2:Nat,(y2<=l.length)/\(l.length-y2<l.length-x1)/\((rf (vI Z2))/\(vI (wR ((x1:Int)+(1:Int)))=vI (y2:Int))/\(rf (AA l))/\((Z1++([[Dat.str (AZ (i2.1,i2.2))]]:List (List Dat)))=(AU (AX (l.take y2)))))))))) (∃ i3:(List ByteArray)×ByteArray,[DA.one (DC.sl 9 [.str] Z1),DA.one (DC.im (Value.string (⟨#[32]⟩:ByteArray)))]=DL.args i3/\DL.pre i3/\((Value.string (An i3.1 i3.2)=Value.string (A4 l)))))))) (by kernel_rfl) ?_
 conv=>zeta
 delta ifB vI wR nI
 have hvl:=AC l
 refine ⟨l,by
  rfl,by
  first|trivial|(rw [hk];exact ⟨λ x hx=>Nat.le_trans (D1 hp.2.2 x hx) (by omega),of_decide_eq_true rfl,by rw [Ac];omega⟩),?_⟩
 refine ⟨λ c4=>?_,λ c4=>?_⟩
 ·try simp only [nrm] at c4
  first|rfl|(rw [HQ (by assumption)])|(rw [hk,CU c4];rfl)
 try simp only [nrm] at c4
 have hp:=Cx c4
 refine ⟨⟨0,by
  first|trivial|omega|(simp;omega),?_⟩,?_⟩
 ·refine ⟨rfl,rfl,rfl,?_⟩
  first|rfl|(rw [AC])
 intro (k:Nat) hki6
 have hki6:k<=l.length:=hki6
 refine And.symm ⟨λ c12=>?_,λ c12=>?_⟩
 ·try simp only [nrm] at c12
  have hk:AX (l.take k)=AX l:=by rw [show k=l.length by omega,List.take_length]
  refine ⟨((AX (l.take k)),(⟨#[32]⟩:ByteArray)),by
   rfl,by
   show (∀ x ∈ (AX (l.take k)),x.size<=1048576)/\(⟨#[32]⟩:ByteArray).size<=1048576/\(AX (l.take k)).length<=1048576
   first|trivial|(rw [hk];exact ⟨λ x hx=>Nat.le_trans (D1 hp.2.2 x hx) (by omega),of_decide_eq_true rfl,by rw [Ac];omega⟩),?_⟩
  show Value.string (An (AX (l.take k)) (⟨#[32]⟩:ByteArray))=Value.string (A4 l)
  first|rfl|(rw [HQ (by assumption)])|(rw [hk,CU c4];rfl)
 try simp only [nrm] at c12
 have hvx:=Jo (l:=l) (k:=k) (by omega)
 have hvy:=Jp (l:=l) (k:=k) (by omega)
 have hvv:AJ ((l.getD k (0,0)).1,(l.getD k (0,0)).2)=true:=Cw hp.2.2 (show k<l.length by omega)
 refine ao (by first|rfl|omega|(simp only [AC,AR,Ac,List.length_take,List.length_cons,List.length_nil];omega)|(simp;omega)) λ o13=>?_
 refine ao (by first|rfl|omega|(simp only [AC,AR,Ac,List.length_take,List.length_cons,List.length_nil];omega)|(simp;omega)) λ o14=>?_
 refine ⟨(((((AA l).getD k []).getD 0 (.int 0))).n,((((AA l).getD k []).getD 1 (.int 0))).n),by
  rfl,by
  first|trivial|(rw [hk];exact ⟨λ x hx=>Nat.le_trans (D1 hp.2.2 x hx) (by omega),of_decide_eq_true rfl,by rw [Ac];omega⟩),?_⟩
 refine ao (a:=(AU (AX (l.take k))).length+([[Dat.str (AZ ((((((AA l).getD k []).getD 0 (.int 0))).n),(((((AA l).getD k []).getD 1 (.int 0))).n)))]]:List (List Dat)).length<=2199023255552) (by first|rfl|omega|(simp only [AC,AR,Ac,List.length_take,List.length_cons,List.length_nil];omega)|(simp;omega)) λ o18=>?_
 refine ⟨k+1,by
  first|trivial|omega|(simp;omega),by
  first|omega|(simp;omega),?_⟩
 refine ⟨rfl,?_,rfl,?_⟩
 ·first|rfl|exact Ay (AT (by omega) (by omega))|(rw [hvx,hvy,BL hvv];exact CT (by omega))
 show ((AU (AX (l.take k)))++([[Dat.str (AZ ((((((AA l).getD k []).getD 0 (.int 0))).n),(((((AA l).getD k []).getD 1 (.int 0))).n)))]]:List (List Dat)))=(AU (AX (l.take (k+1))))
 first|rfl|exact Ay (AT (by omega) (by omega))|(rw [hvx,hvy,BL hvv];exact CT (by omega))
end Go.Proofs.YtgggkcoljpimcaaDoor
