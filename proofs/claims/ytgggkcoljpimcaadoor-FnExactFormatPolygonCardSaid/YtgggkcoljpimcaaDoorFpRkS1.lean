import Derived.Test.YtgggkcoljpimcaaDoorFpRkB
import Derived.Test.YtgggkcoljpimcaaDoorFpFmI
import Derived.Test.YtgggkcoljpimcaaDoorFpScL
import Derived.Lib.ItoaLen
namespace Go.Proofs.YtgggkcoljpimcaaDoor
set_option maxRecDepth 100000
set_option linter.unusedVariables false
set_option linter.unusedSimpArgs false
open Go.RowKit
def Bt:Con:={ ι:=Int×Int,pre:=λ i=>True,args:=λ i=>[DA.agg [cI i.1,cI i.2]],res:=λ i=>⟨false,[none],[rcB (AI (i.1,i.2))]⟩ }
theorem JI:Bt.Ok Tryd.prog 32:=Cc rfl ⟨_,Tryd.func32,by decide,rfl⟩ (λ _=>Nat.le_of_ble_eq_true rfl) (λ _=>rfl) (λ i=>[.im (.bool (AI (i.1,i.2)))]) (λ _=>rfl) (λ _=>rfl) (λ i hp w us h=>by
 obtain ⟨x,y⟩:=i
 have h:RdRow w [.int,.int] [.int x,.int y] us:=h
 obtain ⟨a,_,rfl,q1,h⟩:=RdRow.cons2 h
 obtain ⟨b,_,rfl,q2,h⟩:=RdRow.cons2 h
 obtain ⟨-,rfl⟩:=RdRow.nil_inv h
 obtain rfl:=Rd.int2 q1
 obtain rfl:=Rd.int2 q2
 refine (AU x y w).mono ?_
 rintro e w' ⟨rfl,hb⟩
 exact ⟨[Value.bool (AI (x,y))],rfl,Own.leaf (Fp.mk_bool _),hb⟩)
def BS:Con:={ ι:=(List V2),pre:=λ i=>True,args:=λ i=>[.one (DC.sl 36 [.int,.int] (AD i))],res:=λ i=>⟨false,[none],[rcB (AQ i)]⟩ }
theorem IG:BS.Ok Tryd.prog 22:=Cc rfl ⟨_,Tryd.func22,by decide,rfl⟩ (λ _=>Nat.le_of_ble_eq_true rfl) (λ _=>rfl) (λ l=>[.im (.bool (AQ l))]) (λ _=>rfl) (λ _=>rfl) (λ i hp w us h=>by
 have h:RdRow w [.sl 36 [.int,.int]] [.sl (AD i)] us:=h
 obtain ⟨v,vs,rfl,h1,h2⟩:=RdRow.cons2 h
 obtain ⟨-,rfl⟩:=RdRow.nil_inv h2
 refine (HT i v w (Rd.vecs h1)).mono ?_
 rintro e w' ⟨rfl,hb⟩
 exact ⟨[Value.bool (AQ i)],rfl,Own.leaf (Fp.mk_bool _),hb⟩)
def BT:Con:={ ι:=(List V2),pre:=λ i=>True,args:=λ i=>[.one (DC.sl 36 [.int,.int] (AD i))],res:=λ i=>⟨false,[none],[rcB (AQ i)]⟩ }
theorem IH:BT.Ok Tryd.prog 18:=Cc rfl ⟨_,Tryd.func18,by decide,rfl⟩ (λ _=>Nat.le_of_ble_eq_true rfl) (λ _=>rfl) (λ l=>[.im (.bool (AQ l))]) (λ _=>rfl) (λ _=>rfl) (λ i hp w us h=>by
 have h:RdRow w [.sl 36 [.int,.int]] [.sl (AD i)] us:=h
 obtain ⟨v,vs,rfl,h1,h2⟩:=RdRow.cons2 h
 obtain ⟨-,rfl⟩:=RdRow.nil_inv h2
 refine (GM i v w (Rd.vecs h1)).mono ?_
 rintro e w' ⟨rfl,hb⟩
 exact ⟨[Value.bool (AQ i)],rfl,Own.leaf (Fp.mk_bool _),hb⟩)
def At:Con:={ ι:=Int,pre:=λ i=>-9223372036854775808<=i/\i<=9223372036854775807,args:=λ i=>[.one (cI i)],res:=λ i=>⟨false,[none],[.im (Value.string (AF i))]⟩ }
theorem II:At.Ok Tryd.prog 51:=by
 refine fok (X:=⟨tt,[(57,Cd)],[],5,[]⟩) mixed CK (CTok.cons KK (CTok.nil _)) Tryd.func51 (λ _=>[]) ?_
 intro (n:Int) hpre
 have hpre:-9223372036854775808<=n/\n<=9223372036854775807:=hpre
 refine Ck (q:=∃ i1:Int,[DA.one (cI n)]=Cd.args i1/\Cd.pre i1/\((Value.string (AF i1)=Value.string (AF n)))) (by kernel_rfl) ?_
 refine ⟨n,by
  rfl,by
  exact hpre,?_⟩
 exact rfl
def Dl (v:V2):ByteArray:=AF v.1++(⟨#[44]⟩:ByteArray)++AF v.2
theorem Im {v:V2} (h:AI v=true):(-9223372036854775808<=v.1/\v.1<=9223372036854775807)/\-9223372036854775808<=v.2/\v.2<=9223372036854775807:=by
 have b:=BD h
 omega
theorem KR {x y:Int} (h:(-9223372036854775808<=x/\x<=9223372036854775807)/\-9223372036854775808<=y/\y<=9223372036854775807):(Dl (x,y)).size<=43:=by
 have h1:=A5 h.1
 have h2:=A5 h.2
 simp only [Dl,ByteArray.size_append]
 have:(⟨#[44]⟩:ByteArray).size=1:=rfl
 omega
def AO (l:List V2):List ByteArray:=l.map Dl
def Fy (l:List V2):ByteArray:=AY (AO l) (⟨#[32]⟩:ByteArray)
def A6:Con:={ ι:=Int×Int,pre:=λ i=>(-9223372036854775808<=i.1/\i.1<=9223372036854775807)/\-9223372036854775808<=i.2/\i.2<=9223372036854775807,args:=λ i=>[DA.agg [cI i.1,cI i.2]],res:=λ i=>⟨false,[none],[.im (Value.string (Dl (i.1,i.2)))]⟩ }
theorem IJ:A6.Ok Tryd.prog 38:=by
 refine fok (X:=⟨tt,[(51,At)],[],11,[]⟩) mixed CK (CTok.cons II (CTok.nil _)) Tryd.func38 (λ _=>[]) ?_
 rintro ⟨x,y⟩ hpre
 have hpre:(-9223372036854775808<=x/\x<=9223372036854775807)/\-9223372036854775808<=y/\y<=9223372036854775807:=hpre
 refine Ck (q:=∃ i1:Int,let Z1:=AF i1++(⟨#[44]⟩:ByteArray);[DA.one (cI x)]=At.args i1/\At.pre i1/\(((AF i1).size+(⟨#[44]⟩:ByteArray).size<=1125899906842624)/\(∃ i2:Int,[DA.one (cI y)]=At.args i2/\At.pre i2/\((Z1.size+(AF i2).size<=1125899906842624)/\((Value.string (Z1++AF i2)=Value.string (Dl (x,y)))))))) (by kernel_rfl) ?_
 conv=>zeta
 have hz1:=A5 hpre.1
 have hz2:=A5 hpre.2
 have hz3:(⟨#[44]⟩:ByteArray).size=1:=rfl
 refine ⟨x,by
  rfl,by
  show -9223372036854775808<=x/\x<=9223372036854775807
  first|exact hpre.1|exact hpre.2,?_⟩
 refine ao (by first|omega|(simp only [ByteArray.size_append];omega)) λ o4=>?_
 refine ⟨y,by
  rfl,by
  show -9223372036854775808<=y/\y<=9223372036854775807
  first|exact hpre.1|exact hpre.2,?_⟩
 refine ao (by first|omega|(simp only [ByteArray.size_append];omega)) λ o8=>?_
 rfl
theorem Ku {v:V2} (h:AI v=true):(Dl v).size<=43:=KR (x:=v.1) (y:=v.2) (Im h)
theorem AR (l:List V2):(AO l).length=l.length:=by simp [AO]
theorem DL {l:List V2} (h:l.all AI=true):∀ x ∈ AO l,x.size<=43:=by
 intro x hx
 obtain ⟨v,hv,rfl⟩:=List.mem_map.1 hx
 exact Ku (List.all_eq_true.1 h v hv)
theorem HY {l:List V2} (h:l.all AI=true):(DI (AO l) (⟨#[32]⟩:ByteArray)).length<=44*l.length:=by
 have:=Fw (s:=(⟨#[32]⟩:ByteArray)) (DL h)
 rw [AR] at this
 exact this
theorem Bu {l:List V2} {k:Nat} (hk:k<l.length):AN (AO (l.take k))++[[Dat.str (Dl (l.getD k (0,0)))]]=AN (AO (l.take (k+1))):=by
 have e:l.take (k+1)=l.take k++[l.getD k (0,0)]:=by rw [List.take_add_one];simp [List.getD,hk]
 rw [e]
 simp [AO,AN]
def BB:Con:={ ι:=(List V2),pre:=λ i=>i.all AI=true/\i.length<=1048576,args:=λ i=>[.one (DC.sl 36 [.int,.int] (AD i))],res:=λ i=>⟨false,[none],[.im (Value.string (Fy i))]⟩ }
theorem Ha:BB.Ok Tryd.prog 23:=by
 refine fok (X:=⟨tt,[(38,A6),(39,Ce)],[],21,[]⟩) mixed CK (CTok.cons IJ (CTok.cons KL (CTok.nil _))) Tryd.func23 (λ (i:(List V2))=>[(3,.mk 3 (Nat) (λ x1=>{ tm:=[(7,tX 1),(8,tI (nI ((AD i).length))),(9,tI (x1:Int)),(3,tX 2)],en:=[(1,.view 36 [.int,.int] (AD i) []),(2,.own 9 [.str] (AN (AO (i.take x1))))] }) (λ x1=>x1<=i.length) (λ x1=>i.length-x1) (λ _=>[]))]) ?_
 intro (l:List V2) hpre
 have hpre:l.all AI=true/\l.length<=1048576:=hpre
 refine Ck (q:=let Z2:=nI ((AD l).length);(∃ x1:Nat,(x1<=l.length)/\((rf (vI Z2))/\(vI (0:Int)=vI (x1:Int))/\(rf (AD l))/\(([]:List (List Dat))=(AN (AO (l.take x1))))))/\∀ x1:Nat,let Z1:=AN (AO (l.take x1));(x1<=l.length)->(ifB ((decide ((x1:Int)<Z2))) ((0<=(x1:Int)/\(x1:Int)<((AD l).length:Int))/\((x1<(AD l).length)/\(∃ i1:Int×Int,[DA.agg [cI (((((AD l).getD x1 []).getD 0 (.int 0))).n),cI (((((AD l).getD x1 []).getD 1 (.int 0))).n)]]=A6.args i1/\A6.pre i1/\((Z1.length+([[Dat.str (Dl (i1.1,i1.2))]]:List (List Dat)).length<=2199023255552)/\(∃ y2:Nat,(y2<=l.length)/\(l.length-y2<l.length-x1)/\((rf (vI Z2))/\(vI (wR ((x1:Int)+(1:Int)))=vI (y2:Int))/\(rf (AD l))/\((Z1++([[Dat.str (Dl (i1.1,i1.2))]]:List (List Dat)))=(AN (AO (l.take y2)))))))))) (∃ i2:(List ByteArray)×ByteArray,[DA.one (DC.sl 9 [.str] Z1),DA.one (DC.im (Value.string (⟨#[32]⟩:ByteArray)))]=Ce.args i2/\Ce.pre i2/\((Value.string (AY i2.1 i2.2)=Value.string (Fy l)))))) (by kernel_rfl) ?_
 conv=>zeta
 delta ifB vI wR nI
 have hvl:=AG l
 refine ⟨⟨0,by
  first|trivial|omega|(simp;omega),?_⟩,?_⟩
 ·refine ⟨rfl,rfl,rfl,?_⟩
  first|rfl|(rw [AG])
 intro (k:Nat) hki1
 have hki1:k<=l.length:=hki1
 refine And.symm ⟨λ c7=>?_,λ c7=>?_⟩
 ·try simp only [nrm] at c7
  have hk:AO (l.take k)=AO l:=by rw [show k=l.length by omega,List.take_length]
  refine ⟨((AO (l.take k)),(⟨#[32]⟩:ByteArray)),by
   rfl,by
   show (AO (l.take k)).length<=1073741824/\(DI (AO (l.take k)) (⟨#[32]⟩:ByteArray)).length<=140737488355328
   first|(rw [hvx,hvy];exact Im (CM hpre.1 (by omega)))|(rw [hk];exact ⟨by rw [AR];omega,by have:=HY hpre.1;omega⟩),?_⟩
  show Value.string (AY (AO (l.take k)) (⟨#[32]⟩:ByteArray))=Value.string (Fy l)
  rw [hk];rfl
 try simp only [nrm] at c7
 have hvx:=KP (l:=l) (k:=k) (by omega)
 have hvy:=KQ (l:=l) (k:=k) (by omega)
 refine ao (by first|rfl|omega|(simp only [AG,AL,AR,List.length_take,List.length_cons,List.length_nil];omega)|(simp;omega)) λ o8=>?_
 refine ao (by first|rfl|omega|(simp only [AG,AL,AR,List.length_take,List.length_cons,List.length_nil];omega)|(simp;omega)) λ o9=>?_
 refine ⟨(((((AD l).getD k []).getD 0 (.int 0))).n,((((AD l).getD k []).getD 1 (.int 0))).n),by
  rfl,by
  try dsimp only [A6]
  first|(rw [hvx,hvy];exact Im (CM hpre.1 (by omega)))|(rw [hk];exact ⟨by rw [AR];omega,by have:=HY hpre.1;omega⟩),?_⟩
 refine ao (a:=(AN (AO (l.take k))).length+([[Dat.str (Dl ((((((AD l).getD k []).getD 0 (.int 0))).n),(((((AD l).getD k []).getD 1 (.int 0))).n)))]]:List (List Dat)).length<=2199023255552) (by first|rfl|omega|(simp only [AG,AL,AR,List.length_take,List.length_cons,List.length_nil];omega)|(simp;omega)) λ o13=>?_
 refine ⟨k+1,by
  first|trivial|omega|(simp;omega),by
  first|omega|(simp;omega),?_⟩
 refine ⟨rfl,?_,rfl,?_⟩
 ·first|rfl|exact FK (A7 (by omega) (by omega))|(rw [hvx,hvy];exact Bu (by omega))
 show ((AN (AO (l.take k)))++([[Dat.str (Dl ((((((AD l).getD k []).getD 0 (.int 0))).n),(((((AD l).getD k []).getD 1 (.int 0))).n)))]]:List (List Dat)))=(AN (AO (l.take (k+1))))
 first|rfl|exact FK (A7 (by omega) (by omega))|(rw [hvx,hvy];exact Bu (by omega))
def DM (v:V2):ByteArray:=if AI v=true then Dl v else ⟨#[]⟩
theorem Cf {v:V2} (h:AI v=true):DM v=Dl v:=if_pos h
theorem Hb {v:V2} (h:AI v=false):DM v=⟨#[]⟩:=if_neg (by rw [h];simp)
def BU:Con:={ ι:=Int×Int,pre:=λ i=>True,args:=λ i=>[DA.agg [cI i.1,cI i.2]],res:=λ i=>⟨false,[none],[.im (Value.string (DM (i.1,i.2)))]⟩ }
theorem IK:BU.Ok Tryd.prog 19:=by
 refine fok (X:=⟨tt,[(32,Bt),(34,As)],[],14,[]⟩) mixed CK (CTok.cons JI (CTok.cons ID (CTok.nil _))) Tryd.func19 (λ _=>[]) ?_
 rintro ⟨x,y⟩ hpre
 have hpre:True:=hpre
 refine Ck (q:=∃ i1:Int×Int,[DA.agg [cI x,cI y]]=Bt.args i1/\Bt.pre i1/\(ifB ((!(AI (i1.1,i1.2)))) ((Value.string (⟨#[]⟩:ByteArray)=Value.string (DM (x,y)))) (∃ i2:Int,let Z1:=AF i2++(⟨#[44]⟩:ByteArray);[DA.one (cI x)]=As.args i2/\As.pre i2/\(((AF i2).size+(⟨#[44]⟩:ByteArray).size<=1125899906842624)/\(∃ i3:Int,[DA.one (cI y)]=As.args i3/\As.pre i3/\((Z1.size+(AF i3).size<=1125899906842624)/\((Value.string (Z1++AF i3)=Value.string (DM (x,y)))))))))) (by kernel_rfl) ?_
 conv=>zeta
 delta ifB
 refine ⟨(x,y),by
  rfl,by
  first|trivial|exact hv.1|exact hv.2,?_⟩
 refine ⟨λ c4=>?_,λ c4=>?_⟩
 ·try simp only [nrm] at c4
  first|rfl|(rw [Hb (by assumption)])|(rw [Cf (by assumption)];rfl)
 try simp only [nrm] at c4
 have hv:=Im c4
 have hz1:=A5 hv.1
 have hz2:=A5 hv.2
 have hz3:(⟨#[44]⟩:ByteArray).size=1:=rfl
 refine ⟨x,by
  rfl,by
  show -9223372036854775808<=x/\x<=9223372036854775807
  first|trivial|exact hv.1|exact hv.2,?_⟩
 refine ao (by first|rfl|omega|(simp only [ByteArray.size_append] at *;omega)) λ o9=>?_
 refine ⟨y,by
  rfl,by
  show -9223372036854775808<=y/\y<=9223372036854775807
  first|trivial|exact hv.1|exact hv.2,?_⟩
 refine ao (by first|rfl|omega|(simp only [ByteArray.size_append] at *;omega)) λ o13=>?_
 first|rfl|(rw [Hb (by assumption)])|(rw [Cf (by assumption)];rfl)
theorem KS {l:List ByteArray} {s:ByteArray} (h:(∀ x ∈ l,x.size<=1048576)/\s.size<=1048576/\l.length<=1048576) (k:Nat):(AY (l.take k) s).size<=2199023255552:=by
 have h1:=Fw (m:=1048576) (l:=l.take k) (s:=s) λ x hx=>h.1 x (List.mem_of_mem_take hx)
 rw [IC]
 have h2:(l.take k).length<=1048576:=by rw [List.length_take];omega
 have h3:(1048576+s.size)*(l.take k).length<=2097152*1048576:=Nat.mul_le_mul (by omega) h2
 omega
theorem AZ {l:List ByteArray} {k:Nat} (hk:k<l.length):(((AN l).getD k []).getD 0 (.int 0)).s=l.getD k ⟨#[]⟩:=by rw [FA l k hk];rfl
theorem Kv {l:List ByteArray} {m:Nat} (h:∀ x ∈ l,x.size<=m) (k:Nat):(l.getD k ⟨#[]⟩).size<=m:=by
 by_cases hk:k<l.length
 ·have e:l.getD k ⟨#[]⟩=l[k]:=by simp [List.getD,hk]
  rw [e];exact h _ (List.getElem_mem hk)
 ·have e:l.getD k ⟨#[]⟩=⟨#[]⟩:=by simp [List.getD,hk]
  rw [e];exact Nat.zero_le _
def Cg:Con:={ ι:=(List ByteArray)×ByteArray,pre:=λ i=>(∀ x ∈ i.1,x.size<=1048576)/\i.2.size<=1048576/\i.1.length<=1048576,args:=λ i=>[.one (DC.sl 9 [.str] (AN i.1)),.one (.im (.string i.2))],res:=λ i=>⟨false,[none],[.im (Value.string (AY i.1 i.2))]⟩ }
theorem KT:Cg.Ok Tryd.prog 20:=by
 refine fok (X:=⟨tt,[],[],25,[]⟩) mixed CK (CTok.nil _) Tryd.func20 (λ (i:(List ByteArray)×ByteArray)=>[(3,.mk 2 (Nat) (λ x1=>{ tm:=[(1,.one (.one (.im (Value.string i.2)))),(8,tX 1),(9,tI (nI ((AN i.1).length))),(10,tI (x1:Int)),(5,.one (.one (.im (Value.string (AY (i.1.take x1) i.2)))))],en:=[(1,.view 9 [.str] (AN i.1) [])] }) (λ x1=>x1<=i.1.length) (λ x1=>i.1.length-x1) (λ _=>[]))]) ?_
 rintro ⟨l,s⟩ hpre
 have hpre:(∀ x ∈ l,x.size<=1048576)/\s.size<=1048576/\l.length<=1048576:=hpre
 refine Ck (q:=let Z5:=Value.string s;let Z3:=nI ((AN l).length);(∃ x1:Nat,(x1<=l.length)/\((rf Z5)/\(rf (vI Z3))/\(vI (0:Int)=vI (x1:Int))/\(Value.string (⟨#[]⟩:ByteArray)=Value.string (AY (l.take x1) s))/\(rf (AN l))))/\∀ x1:Nat,let Z4:=wR ((x1:Int)+(1:Int));let Z2:=AY (l.take x1) s;let Z1:=(((AN l).getD x1 []).getD 0 (.int 0));(x1<=l.length)->(ifB ((decide ((x1:Int)<Z3))) ((0<=(x1:Int)/\(x1:Int)<((AN l).length:Int))/\((x1<(AN l).length)/\(ifB ((decide ((x1:Int)>(0:Int)))) ((Z2.size+s.size<=1125899906842624)/\(((Z2++s).size+(Z1.s).size<=1125899906842624)/\(∃ y2:Nat,(y2<=l.length)/\(l.length-y2<l.length-x1)/\((rf Z5)/\(rf (vI Z3))/\(vI Z4=vI (y2:Int))/\(Value.string ((Z2++s)++Z1.s)=Value.string (AY (l.take y2) s))/\(rf (AN l)))))) ((Z2.size+(Z1.s).size<=1125899906842624)/\(∃ y3:Nat,(y3<=l.length)/\(l.length-y3<l.length-x1)/\((rf Z5)/\(rf (vI Z3))/\(vI Z4=vI (y3:Int))/\(Value.string (Z2++Z1.s)=Value.string (AY (l.take y3) s))/\(rf (AN l)))))))) ((Value.string Z2=Value.string (AY l s))))) (by kernel_rfl) ?_
 conv=>zeta
 delta ifB vI wR nI
 have hsl:=AL l
 have hle:=KS hpre
 have hg:=Kv hpre.1
 obtain ⟨hp1,hp2,hp3⟩:=hpre
 refine ⟨⟨0,by
  first|trivial|omega|(simp;omega),?_⟩,?_⟩
 ·refine ⟨rfl,rfl,rfl,?_,rfl⟩
  first|rfl|(rw [AL])
 intro (k:Nat) hki1
 have hki1:k<=l.length:=hki1
 refine And.symm ⟨λ c8=>?_,λ c8=>?_⟩
 ·try simp only [nrm] at c8
  rw [show k=l.length by omega,List.take_length]
 try simp only [nrm] at c8
 refine ao (by first|rfl|omega|(have:=hle k;have:=hg k;first|omega|(rw [AZ (show k<l.length by omega)];omega)|(rw [AZ (show k<l.length by omega),ByteArray.size_append];omega))) λ o9=>?_
 refine ao (by first|rfl|omega|(have:=hle k;have:=hg k;first|omega|(rw [AZ (show k<l.length by omega)];omega)|(rw [AZ (show k<l.length by omega),ByteArray.size_append];omega))) λ o10=>?_
 refine And.symm ⟨λ c11=>?_,λ c11=>?_⟩
 ·try simp only [nrm] at c11
  refine ao (by first|rfl|omega|(have:=hle k;have:=hg k;first|omega|(rw [AZ (show k<l.length by omega)];omega)|(rw [AZ (show k<l.length by omega),ByteArray.size_append];omega))) λ o22=>?_
  refine ⟨k+1,by
   first|trivial|omega|(simp;omega),by
   first|omega|(simp;omega),?_⟩
  refine ⟨rfl,rfl,?_,?_,rfl⟩
  ·first|rfl|exact FK (A7 (by omega) (by omega))|(rw [AZ (by omega),Bs (by omega)];first|(rw [if_pos (by omega)])|(rw [if_neg (by omega)]))
  first|rfl|exact FK (A7 (by omega) (by omega))|(rw [AZ (by omega),Bs (by omega)];first|(rw [if_pos (by omega)])|(rw [if_neg (by omega)]))
 try simp only [nrm] at c11
 refine ao (by first|rfl|omega|(have:=hle k;have:=hg k;first|omega|(rw [AZ (show k<l.length by omega)];omega)|(rw [AZ (show k<l.length by omega),ByteArray.size_append];omega))) λ o12=>?_
 refine ao (by first|rfl|omega|(have:=hle k;have:=hg k;first|omega|(rw [AZ (show k<l.length by omega)];omega)|(rw [AZ (show k<l.length by omega),ByteArray.size_append];omega))) λ o13=>?_
 refine ⟨k+1,by
  first|trivial|omega|(simp;omega),by
  first|omega|(simp;omega),?_⟩
 refine ⟨rfl,rfl,?_,?_,rfl⟩
 ·first|rfl|exact FK (A7 (by omega) (by omega))|(rw [AZ (by omega),Bs (by omega)];first|(rw [if_pos (by omega)])|(rw [if_neg (by omega)]))
 first|rfl|exact FK (A7 (by omega) (by omega))|(rw [AZ (by omega),Bs (by omega)];first|(rw [if_pos (by omega)])|(rw [if_neg (by omega)]))
def BO (l:List V2):ByteArray:=if AQ l=true then Fy l else ⟨#[]⟩
theorem Bv {l:List V2} (h:AQ l=true):BO l=Fy l:=if_pos h
theorem Ch {l:List V2} (h:AQ l=false):BO l=⟨#[]⟩:=if_neg (by rw [h];simp)
theorem Hc {l:List V2} (h:AQ l=true):3<=l.length/\l.length<=16/\l.all AI=true:=by
 simp only [AQ,Bool.and_eq_true,ED] at h
 exact ⟨by omega,by omega,h.1.2⟩
def Bw:Con:={ ι:=(List V2),pre:=λ i=>True,args:=λ i=>[.one (DC.sl 36 [.int,.int] (AD i))],res:=λ i=>⟨false,[none],[.im (Value.string (BO i))]⟩ }
theorem JJ:Bw.Ok Tryd.prog 9:=by
 refine fok (X:=⟨tt,[(22,BS),(23,BB)],[],8,[]⟩) mixed CK (CTok.cons IG (CTok.cons Ha (CTok.nil _))) Tryd.func9 (λ _=>[]) ?_
 intro (l:List V2) hpre
 have hpre:True:=hpre
 refine Ck (q:=let Z1:=DC.sl 36 [.int,.int] (AD l);∃ i1:(List V2),[DA.one Z1]=BS.args i1/\BS.pre i1/\(ifB ((!(AQ i1))) ((Value.string (⟨#[]⟩:ByteArray)=Value.string (BO l))) (∃ i2:(List V2),[DA.one Z1]=BB.args i2/\BB.pre i2/\((Value.string (Fy i2)=Value.string (BO l)))))) (by kernel_rfl) ?_
 conv=>zeta
 delta ifB
 refine ⟨l,by
  rfl,by
  first|trivial|exact ⟨hp.2.2,by omega⟩,?_⟩
 refine ⟨λ c4=>?_,λ c4=>?_⟩
 ·try simp only [nrm] at c4
  first|rfl|(rw [Ch (by assumption)])|(rw [Bv (by assumption)])
 try simp only [nrm] at c4
 have hp:=Hc c4
 refine ⟨l,by
  rfl,by
  show l.all AI=true/\l.length<=1048576
  first|trivial|exact ⟨hp.2.2,by omega⟩,?_⟩
 first|rfl|(rw [Ch (by assumption)])|(rw [Bv (by assumption)])
def Bx:Con:={ ι:=(List V2),pre:=λ i=>True,args:=λ i=>[.one (DC.sl 36 [.int,.int] (AD i))],res:=λ i=>⟨false,[none],[.im (Value.string (BO i))]⟩ }
theorem JK:Bx.Ok Tryd.prog 7:=by
 refine fok (X:=⟨tt,[(18,BT),(19,BU),(20,Cg)],[],24,[]⟩) mixed CK (CTok.cons IH (CTok.cons IK (CTok.cons KT (CTok.nil _)))) Tryd.func7 (λ (i:(List V2))=>[(5,.mk 3 (Nat) (λ x1=>{ tm:=[(10,tX 1),(11,tI (nI ((AD i).length))),(12,tI (x1:Int)),(3,tX 2)],en:=[(1,.view 36 [.int,.int] (AD i) []),(2,.own 9 [.str] (AN (AO (i.take x1))))] }) (λ x1=>x1<=i.length) (λ x1=>i.length-x1) (λ _=>[]))]) ?_
 intro (l:List V2) hpre
 have hpre:True:=hpre
 refine Ck (q:=let Z2:=nI ((AD l).length);∃ i1:(List V2),[DA.one (DC.sl 36 [.int,.int] (AD l))]=BT.args i1/\BT.pre i1/\(ifB ((!(AQ i1))) ((Value.string (⟨#[]⟩:ByteArray)=Value.string (BO l))) ((∃ x1:Nat,(x1<=l.length)/\((rf (vI Z2))/\(vI (0:Int)=vI (x1:Int))/\(rf (AD l))/\(([]:List (List Dat))=(AN (AO (l.take x1))))))/\∀ x1:Nat,let Z1:=AN (AO (l.take x1));(x1<=l.length)->(ifB ((decide ((x1:Int)<Z2))) ((0<=(x1:Int)/\(x1:Int)<((AD l).length:Int))/\((x1<(AD l).length)/\(∃ i2:Int×Int,[DA.agg [cI (((((AD l).getD x1 []).getD 0 (.int 0))).n),cI (((((AD l).getD x1 []).getD 1 (.int 0))).n)]]=BU.args i2/\BU.pre i2/\((Z1.length+([[Dat.str (DM (i2.1,i2.2))]]:List (List Dat)).length<=2199023255552)/\(∃ y2:Nat,(y2<=l.length)/\(l.length-y2<l.length-x1)/\((rf (vI Z2))/\(vI (wR ((x1:Int)+(1:Int)))=vI (y2:Int))/\(rf (AD l))/\((Z1++([[Dat.str (DM (i2.1,i2.2))]]:List (List Dat)))=(AN (AO (l.take y2)))))))))) (∃ i3:(List ByteArray)×ByteArray,[DA.one (DC.sl 9 [.str] Z1),DA.one (DC.im (Value.string (⟨#[32]⟩:ByteArray)))]=Cg.args i3/\Cg.pre i3/\((Value.string (AY i3.1 i3.2)=Value.string (BO l)))))))) (by kernel_rfl) ?_
 conv=>zeta
 delta ifB vI wR nI
 have hvl:=AG l
 refine ⟨l,by
  rfl,by
  first|trivial|(rw [hk];exact ⟨λ x hx=>Nat.le_trans (DL hp.2.2 x hx) (by omega),of_decide_eq_true rfl,by rw [AR];omega⟩),?_⟩
 refine ⟨λ c4=>?_,λ c4=>?_⟩
 ·try simp only [nrm] at c4
  first|rfl|(rw [Ch (by assumption)])|(rw [hk,Bv c4];rfl)
 try simp only [nrm] at c4
 have hp:=Hc c4
 refine ⟨⟨0,by
  first|trivial|omega|(simp;omega),?_⟩,?_⟩
 ·refine ⟨rfl,rfl,rfl,?_⟩
  first|rfl|(rw [AG])
 intro (k:Nat) hki6
 have hki6:k<=l.length:=hki6
 refine And.symm ⟨λ c12=>?_,λ c12=>?_⟩
 ·try simp only [nrm] at c12
  have hk:AO (l.take k)=AO l:=by rw [show k=l.length by omega,List.take_length]
  refine ⟨((AO (l.take k)),(⟨#[32]⟩:ByteArray)),by
   rfl,by
   show (∀ x ∈ (AO (l.take k)),x.size<=1048576)/\(⟨#[32]⟩:ByteArray).size<=1048576/\(AO (l.take k)).length<=1048576
   first|trivial|(rw [hk];exact ⟨λ x hx=>Nat.le_trans (DL hp.2.2 x hx) (by omega),of_decide_eq_true rfl,by rw [AR];omega⟩),?_⟩
  show Value.string (AY (AO (l.take k)) (⟨#[32]⟩:ByteArray))=Value.string (BO l)
  first|rfl|(rw [Ch (by assumption)])|(rw [hk,Bv c4];rfl)
 try simp only [nrm] at c12
 have hvx:=KP (l:=l) (k:=k) (by omega)
 have hvy:=KQ (l:=l) (k:=k) (by omega)
 have hvv:AI ((l.getD k (0,0)).1,(l.getD k (0,0)).2)=true:=CM hp.2.2 (show k<l.length by omega)
 refine ao (by first|rfl|omega|(simp only [AG,AL,AR,List.length_take,List.length_cons,List.length_nil];omega)|(simp;omega)) λ o13=>?_
 refine ao (by first|rfl|omega|(simp only [AG,AL,AR,List.length_take,List.length_cons,List.length_nil];omega)|(simp;omega)) λ o14=>?_
 refine ⟨(((((AD l).getD k []).getD 0 (.int 0))).n,((((AD l).getD k []).getD 1 (.int 0))).n),by
  rfl,by
  first|trivial|(rw [hk];exact ⟨λ x hx=>Nat.le_trans (DL hp.2.2 x hx) (by omega),of_decide_eq_true rfl,by rw [AR];omega⟩),?_⟩
 refine ao (a:=(AN (AO (l.take k))).length+([[Dat.str (DM ((((((AD l).getD k []).getD 0 (.int 0))).n),(((((AD l).getD k []).getD 1 (.int 0))).n)))]]:List (List Dat)).length<=2199023255552) (by first|rfl|omega|(simp only [AG,AL,AR,List.length_take,List.length_cons,List.length_nil];omega)|(simp;omega)) λ o18=>?_
 refine ⟨k+1,by
  first|trivial|omega|(simp;omega),by
  first|omega|(simp;omega),?_⟩
 refine ⟨rfl,?_,rfl,?_⟩
 ·first|rfl|exact FK (A7 (by omega) (by omega))|(rw [hvx,hvy,Cf hvv];exact Bu (by omega))
 show ((AN (AO (l.take k)))++([[Dat.str (DM ((((((AD l).getD k []).getD 0 (.int 0))).n),(((((AD l).getD k []).getD 1 (.int 0))).n)))]]:List (List Dat)))=(AN (AO (l.take (k+1))))
 first|rfl|exact FK (A7 (by omega) (by omega))|(rw [hvx,hvy,Cf hvv];exact Bu (by omega))
end Go.Proofs.YtgggkcoljpimcaaDoor
