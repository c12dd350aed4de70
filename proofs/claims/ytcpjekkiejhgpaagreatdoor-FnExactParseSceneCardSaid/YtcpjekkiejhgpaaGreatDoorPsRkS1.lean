import Derived.Test.YtcpjekkiejhgpaaGreatDoorPsRkB
import Derived.Test.YtcpjekkiejhgpaaGreatDoorPsFmI
import Derived.Test.YtcpjekkiejhgpaaGreatDoorPsScL
import Derived.Lib.ItoaLen
namespace Go.Proofs.YtcpjekkiejhgpaaGreatDoor
set_option maxRecDepth 100000
set_option linter.unusedVariables false
set_option linter.unusedSimpArgs false
open Go.RowKit
def Dl:Con:={ ι:=Int×Int,pre:=λ i=>True,args:=λ i=>[DA.agg [cI i.1,cI i.2]],res:=λ i=>⟨false,[none],[rcB (AX (i.1,i.2))]⟩ }
theorem N2:Dl.Ok Tryz.prog 46:=CF rfl ⟨_,Tryz.func46,by decide,rfl⟩ (λ _=>Nat.le_of_ble_eq_true rfl) (λ _=>rfl) (λ i=>[.im (.bool (AX (i.1,i.2)))]) (λ _=>rfl) (λ _=>rfl) (λ i hp w us h=>by
 obtain ⟨x,y⟩:=i
 have h:RdRow w [.int,.int] [.int x,.int y] us:=h
 obtain ⟨a,_,rfl,q1,h⟩:=RdRow.cons2 h
 obtain ⟨b,_,rfl,q2,h⟩:=RdRow.cons2 h
 obtain ⟨-,rfl⟩:=RdRow.nil_inv h
 obtain rfl:=Rd.int2 q1
 obtain rfl:=Rd.int2 q2
 refine (A6 x y w).mono ?_
 rintro e w' ⟨rfl,hb⟩
 exact ⟨[Value.bool (AX (x,y))],rfl,Own.leaf (Fp.mk_bool _),hb⟩)
def DF:Con:={ ι:=(List V2),pre:=λ i=>True,args:=λ i=>[.one (DC.sl 23 [.int,.int] (AD i))],res:=λ i=>⟨false,[none],[rcB (Ae i)]⟩ }
theorem Mf:DF.Ok Tryz.prog 52:=CF rfl ⟨_,Tryz.func52,by decide,rfl⟩ (λ _=>Nat.le_of_ble_eq_true rfl) (λ _=>rfl) (λ l=>[.im (.bool (Ae l))]) (λ _=>rfl) (λ _=>rfl) (λ i hp w us h=>by
 have h:RdRow w [.sl 23 [.int,.int]] [.sl (AD i)] us:=h
 obtain ⟨v,vs,rfl,h1,h2⟩:=RdRow.cons2 h
 obtain ⟨-,rfl⟩:=RdRow.nil_inv h2
 refine (EI i v w (Rd.vecs h1)).mono ?_
 rintro e w' ⟨rfl,hb⟩
 exact ⟨[Value.bool (Ae i)],rfl,Own.leaf (Fp.mk_bool _),hb⟩)
def BS:Con:={ ι:=(List V2),pre:=λ i=>True,args:=λ i=>[.one (DC.sl 23 [.int,.int] (AD i))],res:=λ i=>⟨false,[none],[rcB (Ae i)]⟩ }
theorem Id:BS.Ok Tryz.prog 43:=CF rfl ⟨_,Tryz.func43,by decide,rfl⟩ (λ _=>Nat.le_of_ble_eq_true rfl) (λ _=>rfl) (λ l=>[.im (.bool (Ae l))]) (λ _=>rfl) (λ _=>rfl) (λ i hp w us h=>by
 have h:RdRow w [.sl 23 [.int,.int]] [.sl (AD i)] us:=h
 obtain ⟨v,vs,rfl,h1,h2⟩:=RdRow.cons2 h
 obtain ⟨-,rfl⟩:=RdRow.nil_inv h2
 refine (Cf i v w (Rd.vecs h1)).mono ?_
 rintro e w' ⟨rfl,hb⟩
 exact ⟨[Value.bool (Ae i)],rfl,Own.leaf (Fp.mk_bool _),hb⟩)
def Bq:Con:={ ι:=Int,pre:=λ i=>-9223372036854775808<=i/\i<=9223372036854775807,args:=λ i=>[.one (cI i)],res:=λ i=>⟨false,[none],[.im (Value.string (AY i))]⟩ }
theorem Mg:Bq.Ok Tryz.prog 58:=by
 refine fok (X:=⟨tt,[(68,Ed)],[],5,[]⟩) mixed BG (CTok.cons PH (CTok.nil _)) Tryz.func58 (λ _=>[]) ?_
 intro (n:Int) hpre
 have hpre:-9223372036854775808<=n/\n<=9223372036854775807:=hpre
 refine BF (q:=∃ i1:Int,[DA.one (cI n)]=Ed.args i1/\Ed.pre i1/\((Value.string (AY i1)=Value.string (AY n)))) (by kernel_rfl) ?_
 refine ⟨n,by
  rfl,by
  exact hpre,?_⟩
 exact rfl
def Ak (v:V2):ByteArray:=AY v.1++(⟨#[44]⟩:ByteArray)++AY v.2
theorem Es {v:V2} (h:AX v=true):(-9223372036854775808<=v.1/\v.1<=9223372036854775807)/\-9223372036854775808<=v.2/\v.2<=9223372036854775807:=by
 have b:=Co h
 omega
theorem PN {x y:Int} (h:(-9223372036854775808<=x/\x<=9223372036854775807)/\-9223372036854775808<=y/\y<=9223372036854775807):(Ak (x,y)).size<=43:=by
 have h1:=CS h.1
 have h2:=CS h.2
 simp only [Ak,ByteArray.size_append]
 have:(⟨#[44]⟩:ByteArray).size=1:=rfl
 omega
def An (l:List V2):List ByteArray:=l.map Ak
def Ay (l:List V2):ByteArray:=A8 (An l) (⟨#[32]⟩:ByteArray)
def CT:Con:={ ι:=Int×Int,pre:=λ i=>(-9223372036854775808<=i.1/\i.1<=9223372036854775807)/\-9223372036854775808<=i.2/\i.2<=9223372036854775807,args:=λ i=>[DA.agg [cI i.1,cI i.2]],res:=λ i=>⟨false,[none],[.im (Value.string (Ak (i.1,i.2)))]⟩ }
theorem Ie:CT.Ok Tryz.prog 39:=by
 refine fok (X:=⟨tt,[(58,Bq)],[],11,[]⟩) mixed BG (CTok.cons Mg (CTok.nil _)) Tryz.func39 (λ _=>[]) ?_
 rintro ⟨x,y⟩ hpre
 have hpre:(-9223372036854775808<=x/\x<=9223372036854775807)/\-9223372036854775808<=y/\y<=9223372036854775807:=hpre
 refine BF (q:=∃ i1:Int,let Z1:=AY i1++(⟨#[44]⟩:ByteArray);[DA.one (cI x)]=Bq.args i1/\Bq.pre i1/\(((AY i1).size+(⟨#[44]⟩:ByteArray).size<=1125899906842624)/\(∃ i2:Int,[DA.one (cI y)]=Bq.args i2/\Bq.pre i2/\((Z1.size+(AY i2).size<=1125899906842624)/\((Value.string (Z1++AY i2)=Value.string (Ak (x,y)))))))) (by kernel_rfl) ?_
 conv=>zeta
 have hz1:=CS hpre.1
 have hz2:=CS hpre.2
 have hz3:(⟨#[44]⟩:ByteArray).size=1:=rfl
 refine ⟨x,by
  rfl,by
  show -9223372036854775808<=x/\x<=9223372036854775807
  first|exact hpre.1|exact hpre.2,?_⟩
 refine ao (by first|omega|(simp only [ByteArray.size_append];omega)) λ o4=>?_
 refine ⟨y,by
  rfl,by
  show -9223372036854775808<=y/\y<=9223372036854775807
  first|exact hpre.1|exact hpre.2,?_⟩
 refine ao (by first|omega|(simp only [ByteArray.size_append];omega)) λ o8=>?_
 rfl
theorem CM {v:V2} (h:AX v=true):(Ak v).size<=43:=PN (x:=v.1) (y:=v.2) (Es h)
theorem A3 (l:List V2):(An l).length=l.length:=by simp [An]
theorem Fg {l:List V2} (h:l.all AX=true):∀ x ∈ An l,x.size<=43:=by
 intro x hx
 obtain ⟨v,hv,rfl⟩:=List.mem_map.1 hx
 exact CM (List.all_eq_true.1 h v hv)
theorem If {l:List V2} (h:l.all AX=true):(Cc (An l) (⟨#[32]⟩:ByteArray)).length<=44*l.length:=by
 have:=Jj (s:=(⟨#[32]⟩:ByteArray)) (Fg h)
 rw [A3] at this
 exact this
theorem Da {l:List V2} (h:l.all AX=true):(Ay l).size<=44*l.length:=by
 unfold Ay;rw [IO];exact If h
theorem Dm {l:List V2} {k:Nat} (hk:k<l.length):AK (An (l.take k))++[[Dat.str (Ak (l.getD k (0,0)))]]=AK (An (l.take (k+1))):=by
 have e:l.take (k+1)=l.take k++[l.getD k (0,0)]:=by rw [List.take_add_one];simp [List.getD,hk]
 rw [e]
 simp [An,AK]
def KJ:Con:={ ι:=(List V2),pre:=λ i=>i.all AX=true/\i.length<=1048576,args:=λ i=>[.one (DC.sl 23 [.int,.int] (AD i))],res:=λ i=>⟨false,[none],[.im (Value.string (Ay i))]⟩ }
theorem Le:KJ.Ok Tryz.prog 40:=by
 refine fok (X:=⟨tt,[(39,CT),(59,Ee)],[],21,[]⟩) mixed BG (CTok.cons Ie (CTok.cons PI (CTok.nil _))) Tryz.func40 (λ (i:(List V2))=>[(3,.mk 3 (Nat) (λ x1=>{ tm:=[(7,tX 1),(8,tI (nI ((AD i).length))),(9,tI (x1:Int)),(3,tX 2)],en:=[(1,.view 23 [.int,.int] (AD i) []),(2,.own 9 [.str] (AK (An (i.take x1))))] }) (λ x1=>x1<=i.length) (λ x1=>i.length-x1) (λ _=>[]))]) ?_
 intro (l:List V2) hpre
 have hpre:l.all AX=true/\l.length<=1048576:=hpre
 refine BF (q:=let Z2:=nI ((AD l).length);(∃ x1:Nat,(x1<=l.length)/\((rf (vI Z2))/\(vI (0:Int)=vI (x1:Int))/\(rf (AD l))/\(([]:List (List Dat))=(AK (An (l.take x1))))))/\∀ x1:Nat,let Z1:=AK (An (l.take x1));(x1<=l.length)->(ifB ((decide ((x1:Int)<Z2))) ((0<=(x1:Int)/\(x1:Int)<((AD l).length:Int))/\((x1<(AD l).length)/\(∃ i1:Int×Int,[DA.agg [cI (((((AD l).getD x1 []).getD 0 (.int 0))).n),cI (((((AD l).getD x1 []).getD 1 (.int 0))).n)]]=CT.args i1/\CT.pre i1/\((Z1.length+([[Dat.str (Ak (i1.1,i1.2))]]:List (List Dat)).length<=2199023255552)/\(∃ y2:Nat,(y2<=l.length)/\(l.length-y2<l.length-x1)/\((rf (vI Z2))/\(vI (wR ((x1:Int)+(1:Int)))=vI (y2:Int))/\(rf (AD l))/\((Z1++([[Dat.str (Ak (i1.1,i1.2))]]:List (List Dat)))=(AK (An (l.take y2)))))))))) (∃ i2:(List ByteArray)×ByteArray,[DA.one (DC.sl 9 [.str] Z1),DA.one (DC.im (Value.string (⟨#[32]⟩:ByteArray)))]=Ee.args i2/\Ee.pre i2/\((Value.string (A8 i2.1 i2.2)=Value.string (Ay l)))))) (by kernel_rfl) ?_
 conv=>zeta
 delta ifB vI wR nI
 have hvl:=AE l
 refine ⟨⟨0,by
  first|trivial|omega|(simp;omega),?_⟩,?_⟩
 ·refine ⟨rfl,rfl,rfl,?_⟩
  first|rfl|(rw [AE])
 intro (k:Nat) hki1
 have hki1:k<=l.length:=hki1
 refine And.symm ⟨λ c7=>?_,λ c7=>?_⟩
 ·try simp only [nrm] at c7
  have hk:An (l.take k)=An l:=by rw [show k=l.length by omega,List.take_length]
  refine ⟨((An (l.take k)),(⟨#[32]⟩:ByteArray)),by
   rfl,by
   show (An (l.take k)).length<=1073741824/\(Cc (An (l.take k)) (⟨#[32]⟩:ByteArray)).length<=140737488355328
   first|(rw [hvx,hvy];exact Es (EJ hpre.1 (by omega)))|(rw [hk];exact ⟨by rw [A3];omega,by have:=If hpre.1;omega⟩),?_⟩
  show Value.string (A8 (An (l.take k)) (⟨#[32]⟩:ByteArray))=Value.string (Ay l)
  rw [hk];rfl
 try simp only [nrm] at c7
 have hvx:=Md (l:=l) (k:=k) (by omega)
 have hvy:=Me (l:=l) (k:=k) (by omega)
 refine ao (by first|rfl|omega|(simp only [AE,AO,A3,List.length_take,List.length_cons,List.length_nil];omega)|(simp;omega)) λ o8=>?_
 refine ao (by first|rfl|omega|(simp only [AE,AO,A3,List.length_take,List.length_cons,List.length_nil];omega)|(simp;omega)) λ o9=>?_
 refine ⟨(((((AD l).getD k []).getD 0 (.int 0))).n,((((AD l).getD k []).getD 1 (.int 0))).n),by
  rfl,by
  try dsimp only [CT]
  first|(rw [hvx,hvy];exact Es (EJ hpre.1 (by omega)))|(rw [hk];exact ⟨by rw [A3];omega,by have:=If hpre.1;omega⟩),?_⟩
 refine ao (a:=(AK (An (l.take k))).length+([[Dat.str (Ak ((((((AD l).getD k []).getD 0 (.int 0))).n),(((((AD l).getD k []).getD 1 (.int 0))).n)))]]:List (List Dat)).length<=2199023255552) (by first|rfl|omega|(simp only [AE,AO,A3,List.length_take,List.length_cons,List.length_nil];omega)|(simp;omega)) λ o13=>?_
 refine ⟨k+1,by
  first|trivial|omega|(simp;omega),by
  first|omega|(simp;omega),?_⟩
 refine ⟨rfl,?_,rfl,?_⟩
 ·first|rfl|exact AP (AG (by omega) (by omega))|(rw [hvx,hvy];exact Dm (by omega))
 show ((AK (An (l.take k)))++([[Dat.str (Ak ((((((AD l).getD k []).getD 0 (.int 0))).n),(((((AD l).getD k []).getD 1 (.int 0))).n)))]]:List (List Dat)))=(AK (An (l.take (k+1))))
 first|rfl|exact AP (AG (by omega) (by omega))|(rw [hvx,hvy];exact Dm (by omega))
def Ap (v:V2):ByteArray:=if AX v=true then Ak v else ⟨#[]⟩
theorem BW {v:V2} (h:AX v=true):Ap v=Ak v:=if_pos h
theorem Ig {v:V2} (h:AX v=false):Ap v=⟨#[]⟩:=if_neg (by rw [h];simp)
def Ah:Con:={ ι:=Int×Int,pre:=λ i=>True,args:=λ i=>[DA.agg [cI i.1,cI i.2]],res:=λ i=>⟨false,[none],[.im (Value.string (Ap (i.1,i.2)))]⟩ }
theorem FB:Ah.Ok Tryz.prog 28:=by
 refine fok (X:=⟨tt,[(46,Dl),(47,AZ)],[],14,[]⟩) mixed BG (CTok.cons N2 (CTok.cons IR (CTok.nil _))) Tryz.func28 (λ _=>[]) ?_
 rintro ⟨x,y⟩ hpre
 have hpre:True:=hpre
 refine BF (q:=∃ i1:Int×Int,[DA.agg [cI x,cI y]]=Dl.args i1/\Dl.pre i1/\(ifB ((!(AX (i1.1,i1.2)))) ((Value.string (⟨#[]⟩:ByteArray)=Value.string (Ap (x,y)))) (∃ i2:Int,let Z1:=AY i2++(⟨#[44]⟩:ByteArray);[DA.one (cI x)]=AZ.args i2/\AZ.pre i2/\(((AY i2).size+(⟨#[44]⟩:ByteArray).size<=1125899906842624)/\(∃ i3:Int,[DA.one (cI y)]=AZ.args i3/\AZ.pre i3/\((Z1.size+(AY i3).size<=1125899906842624)/\((Value.string (Z1++AY i3)=Value.string (Ap (x,y)))))))))) (by kernel_rfl) ?_
 conv=>zeta
 delta ifB
 refine ⟨(x,y),by
  rfl,by
  first|trivial|exact hv.1|exact hv.2,?_⟩
 refine ⟨λ c4=>?_,λ c4=>?_⟩
 ·try simp only [nrm] at c4
  first|rfl|(rw [Ig (by assumption)])|(rw [BW (by assumption)];rfl)
 try simp only [nrm] at c4
 have hv:=Es c4
 have hz1:=CS hv.1
 have hz2:=CS hv.2
 have hz3:(⟨#[44]⟩:ByteArray).size=1:=rfl
 refine ⟨x,by
  rfl,by
  show -9223372036854775808<=x/\x<=9223372036854775807
  first|trivial|exact hv.1|exact hv.2,?_⟩
 refine ao (by first|rfl|omega|(simp only [ByteArray.size_append] at *;omega)) λ o9=>?_
 refine ⟨y,by
  rfl,by
  show -9223372036854775808<=y/\y<=9223372036854775807
  first|trivial|exact hv.1|exact hv.2,?_⟩
 refine ao (by first|rfl|omega|(simp only [ByteArray.size_append] at *;omega)) λ o13=>?_
 first|rfl|(rw [Ig (by assumption)])|(rw [BW (by assumption)];rfl)
theorem PO {l:List ByteArray} {s:ByteArray} (h:(∀ x ∈ l,x.size<=1048576)/\s.size<=1048576/\l.length<=1048576) (k:Nat):(A8 (l.take k) s).size<=2199023255552:=by
 have h1:=Jj (m:=1048576) (l:=l.take k) (s:=s) λ x hx=>h.1 x (List.mem_of_mem_take hx)
 rw [IO]
 have h2:(l.take k).length<=1048576:=by rw [List.length_take];omega
 have h3:(1048576+s.size)*(l.take k).length<=2097152*1048576:=Nat.mul_le_mul (by omega) h2
 omega
theorem Al {l:List ByteArray} {k:Nat} (hk:k<l.length):(((AK l).getD k []).getD 0 (.int 0)).s=l.getD k ⟨#[]⟩:=by rw [FA l k hk];rfl
theorem BM {l:List ByteArray} {m:Nat} (h:∀ x ∈ l,x.size<=m) (k:Nat):(l.getD k ⟨#[]⟩).size<=m:=by
 by_cases hk:k<l.length
 ·have e:l.getD k ⟨#[]⟩=l[k]:=by simp [List.getD,hk]
  rw [e];exact h _ (List.getElem_mem hk)
 ·have e:l.getD k ⟨#[]⟩=⟨#[]⟩:=by simp [List.getD,hk]
  rw [e];exact Nat.zero_le _
def CG:Con:={ ι:=(List ByteArray)×ByteArray,pre:=λ i=>(∀ x ∈ i.1,x.size<=1048576)/\i.2.size<=1048576/\i.1.length<=1048576,args:=λ i=>[.one (DC.sl 9 [.str] (AK i.1)),.one (.im (.string i.2))],res:=λ i=>⟨false,[none],[.im (Value.string (A8 i.1 i.2))]⟩ }
theorem Lf:CG.Ok Tryz.prog 24:=by
 refine fok (X:=⟨tt,[],[],25,[]⟩) mixed BG (CTok.nil _) Tryz.func24 (λ (i:(List ByteArray)×ByteArray)=>[(3,.mk 2 (Nat) (λ x1=>{ tm:=[(1,.one (.one (.im (Value.string i.2)))),(8,tX 1),(9,tI (nI ((AK i.1).length))),(10,tI (x1:Int)),(5,.one (.one (.im (Value.string (A8 (i.1.take x1) i.2)))))],en:=[(1,.view 9 [.str] (AK i.1) [])] }) (λ x1=>x1<=i.1.length) (λ x1=>i.1.length-x1) (λ _=>[]))]) ?_
 rintro ⟨l,s⟩ hpre
 have hpre:(∀ x ∈ l,x.size<=1048576)/\s.size<=1048576/\l.length<=1048576:=hpre
 refine BF (q:=let Z5:=Value.string s;let Z3:=nI ((AK l).length);(∃ x1:Nat,(x1<=l.length)/\((rf Z5)/\(rf (vI Z3))/\(vI (0:Int)=vI (x1:Int))/\(Value.string (⟨#[]⟩:ByteArray)=Value.string (A8 (l.take x1) s))/\(rf (AK l))))/\∀ x1:Nat,let Z4:=wR ((x1:Int)+(1:Int));let Z2:=A8 (l.take x1) s;let Z1:=(((AK l).getD x1 []).getD 0 (.int 0));(x1<=l.length)->(ifB ((decide ((x1:Int)<Z3))) ((0<=(x1:Int)/\(x1:Int)<((AK l).length:Int))/\((x1<(AK l).length)/\(ifB ((decide ((x1:Int)>(0:Int)))) ((Z2.size+s.size<=1125899906842624)/\(((Z2++s).size+(Z1.s).size<=1125899906842624)/\(∃ y2:Nat,(y2<=l.length)/\(l.length-y2<l.length-x1)/\((rf Z5)/\(rf (vI Z3))/\(vI Z4=vI (y2:Int))/\(Value.string ((Z2++s)++Z1.s)=Value.string (A8 (l.take y2) s))/\(rf (AK l)))))) ((Z2.size+(Z1.s).size<=1125899906842624)/\(∃ y3:Nat,(y3<=l.length)/\(l.length-y3<l.length-x1)/\((rf Z5)/\(rf (vI Z3))/\(vI Z4=vI (y3:Int))/\(Value.string (Z2++Z1.s)=Value.string (A8 (l.take y3) s))/\(rf (AK l)))))))) ((Value.string Z2=Value.string (A8 l s))))) (by kernel_rfl) ?_
 conv=>zeta
 delta ifB vI wR nI
 have hsl:=AO l
 have hle:=PO hpre
 have hg:=BM hpre.1
 obtain ⟨hp1,hp2,hp3⟩:=hpre
 refine ⟨⟨0,by
  first|trivial|omega|(simp;omega),?_⟩,?_⟩
 ·refine ⟨rfl,rfl,rfl,?_,rfl⟩
  first|rfl|(rw [AO])
 intro (k:Nat) hki1
 have hki1:k<=l.length:=hki1
 refine And.symm ⟨λ c8=>?_,λ c8=>?_⟩
 ·try simp only [nrm] at c8
  rw [show k=l.length by omega,List.take_length]
 try simp only [nrm] at c8
 refine ao (by first|rfl|omega|(have:=hle k;have:=hg k;first|omega|(rw [Al (show k<l.length by omega)];omega)|(rw [Al (show k<l.length by omega),ByteArray.size_append];omega))) λ o9=>?_
 refine ao (by first|rfl|omega|(have:=hle k;have:=hg k;first|omega|(rw [Al (show k<l.length by omega)];omega)|(rw [Al (show k<l.length by omega),ByteArray.size_append];omega))) λ o10=>?_
 refine And.symm ⟨λ c11=>?_,λ c11=>?_⟩
 ·try simp only [nrm] at c11
  refine ao (by first|rfl|omega|(have:=hle k;have:=hg k;first|omega|(rw [Al (show k<l.length by omega)];omega)|(rw [Al (show k<l.length by omega),ByteArray.size_append];omega))) λ o22=>?_
  refine ⟨k+1,by
   first|trivial|omega|(simp;omega),by
   first|omega|(simp;omega),?_⟩
  refine ⟨rfl,rfl,?_,?_,rfl⟩
  ·first|rfl|exact AP (AG (by omega) (by omega))|(rw [Al (by omega),Dk (by omega)];first|(rw [if_pos (by omega)])|(rw [if_neg (by omega)]))
  first|rfl|exact AP (AG (by omega) (by omega))|(rw [Al (by omega),Dk (by omega)];first|(rw [if_pos (by omega)])|(rw [if_neg (by omega)]))
 try simp only [nrm] at c11
 refine ao (by first|rfl|omega|(have:=hle k;have:=hg k;first|omega|(rw [Al (show k<l.length by omega)];omega)|(rw [Al (show k<l.length by omega),ByteArray.size_append];omega))) λ o12=>?_
 refine ao (by first|rfl|omega|(have:=hle k;have:=hg k;first|omega|(rw [Al (show k<l.length by omega)];omega)|(rw [Al (show k<l.length by omega),ByteArray.size_append];omega))) λ o13=>?_
 refine ⟨k+1,by
  first|trivial|omega|(simp;omega),by
  first|omega|(simp;omega),?_⟩
 refine ⟨rfl,rfl,?_,?_,rfl⟩
 ·first|rfl|exact AP (AG (by omega) (by omega))|(rw [Al (by omega),Dk (by omega)];first|(rw [if_pos (by omega)])|(rw [if_neg (by omega)]))
 first|rfl|exact AP (AG (by omega) (by omega))|(rw [Al (by omega),Dk (by omega)];first|(rw [if_pos (by omega)])|(rw [if_neg (by omega)]))
def Bi (l:List V2):ByteArray:=if Ae l=true then Ay l else ⟨#[]⟩
theorem Dn {l:List V2} (h:Ae l=true):Bi l=Ay l:=if_pos h
theorem Jm {l:List V2} (h:Ae l=false):Bi l=⟨#[]⟩:=if_neg (by rw [h];simp)
theorem Bz {l:List V2} (h:Ae l=true):3<=l.length/\l.length<=16/\l.all AX=true:=by
 simp only [Ae,Bool.and_eq_true,FK] at h
 exact ⟨by omega,by omega,h.1.2⟩
def CH:Con:={ ι:=(List V2),pre:=λ i=>True,args:=λ i=>[.one (DC.sl 23 [.int,.int] (AD i))],res:=λ i=>⟨false,[none],[.im (Value.string (Bi i))]⟩ }
theorem N3:CH.Ok Tryz.prog 29:=by
 refine fok (X:=⟨tt,[(43,BS),(28,Ah),(24,CG)],[],24,[]⟩) mixed BG (CTok.cons Id (CTok.cons FB (CTok.cons Lf (CTok.nil _)))) Tryz.func29 (λ (i:(List V2))=>[(5,.mk 3 (Nat) (λ x1=>{ tm:=[(10,tX 1),(11,tI (nI ((AD i).length))),(12,tI (x1:Int)),(3,tX 2)],en:=[(1,.view 23 [.int,.int] (AD i) []),(2,.own 9 [.str] (AK (An (i.take x1))))] }) (λ x1=>x1<=i.length) (λ x1=>i.length-x1) (λ _=>[]))]) ?_
 intro (l:List V2) hpre
 have hpre:True:=hpre
 refine BF (q:=let Z2:=nI ((AD l).length);∃ i1:(List V2),[DA.one (DC.sl 23 [.int,.int] (AD l))]=BS.args i1/\BS.pre i1/\(ifB ((!(Ae i1))) ((Value.string (⟨#[]⟩:ByteArray)=Value.string (Bi l))) ((∃ x1:Nat,(x1<=l.length)/\((rf (vI Z2))/\(vI (0:Int)=vI (x1:Int))/\(rf (AD l))/\(([]:List (List Dat))=(AK (An (l.take x1))))))/\∀ x1:Nat,let Z1:=AK (An (l.take x1));(x1<=l.length)->(ifB ((decide ((x1:Int)<Z2))) ((0<=(x1:Int)/\(x1:Int)<((AD l).length:Int))/\((x1<(AD l).length)/\(∃ i2:Int×Int,[DA.agg [cI (((((AD l).getD x1 []).getD 0 (.int 0))).n),cI (((((AD l).getD x1 []).getD 1 (.int 0))).n)]]=Ah.args i2/\Ah.pre i2/\((Z1.length+([[Dat.str (Ap (i2.1,i2.2))]]:List (List Dat)).length<=2199023255552)/\(∃ y2:Nat,(y2<=l.length)/\(l.length-y2<l.length-x1)/\((rf (vI Z2))/\(vI (wR ((x1:Int)+(1:Int)))=vI (y2:Int))/\(rf (AD l))/\((Z1++([[Dat.str (Ap (i2.1,i2.2))]]:List (List Dat)))=(AK (An (l.take y2)))))))))) (∃ i3:(List ByteArray)×ByteArray,[DA.one (DC.sl 9 [.str] Z1),DA.one (DC.im (Value.string (⟨#[32]⟩:ByteArray)))]=CG.args i3/\CG.pre i3/\((Value.string (A8 i3.1 i3.2)=Value.string (Bi l)))))))) (by kernel_rfl) ?_
 conv=>zeta
 delta ifB vI wR nI
 have hvl:=AE l
 refine ⟨l,by
  rfl,by
  first|trivial|(rw [hk];exact ⟨λ x hx=>Nat.le_trans (Fg hp.2.2 x hx) (by omega),of_decide_eq_true rfl,by rw [A3];omega⟩),?_⟩
 refine ⟨λ c4=>?_,λ c4=>?_⟩
 ·try simp only [nrm] at c4
  first|rfl|(rw [Jm (by assumption)])|(rw [hk,Dn c4];rfl)
 try simp only [nrm] at c4
 have hp:=Bz c4
 refine ⟨⟨0,by
  first|trivial|omega|(simp;omega),?_⟩,?_⟩
 ·refine ⟨rfl,rfl,rfl,?_⟩
  first|rfl|(rw [AE])
 intro (k:Nat) hki6
 have hki6:k<=l.length:=hki6
 refine And.symm ⟨λ c12=>?_,λ c12=>?_⟩
 ·try simp only [nrm] at c12
  have hk:An (l.take k)=An l:=by rw [show k=l.length by omega,List.take_length]
  refine ⟨((An (l.take k)),(⟨#[32]⟩:ByteArray)),by
   rfl,by
   show (∀ x ∈ (An (l.take k)),x.size<=1048576)/\(⟨#[32]⟩:ByteArray).size<=1048576/\(An (l.take k)).length<=1048576
   first|trivial|(rw [hk];exact ⟨λ x hx=>Nat.le_trans (Fg hp.2.2 x hx) (by omega),of_decide_eq_true rfl,by rw [A3];omega⟩),?_⟩
  show Value.string (A8 (An (l.take k)) (⟨#[32]⟩:ByteArray))=Value.string (Bi l)
  first|rfl|(rw [Jm (by assumption)])|(rw [hk,Dn c4];rfl)
 try simp only [nrm] at c12
 have hvx:=Md (l:=l) (k:=k) (by omega)
 have hvy:=Me (l:=l) (k:=k) (by omega)
 have hvv:AX ((l.getD k (0,0)).1,(l.getD k (0,0)).2)=true:=EJ hp.2.2 (show k<l.length by omega)
 refine ao (by first|rfl|omega|(simp only [AE,AO,A3,List.length_take,List.length_cons,List.length_nil];omega)|(simp;omega)) λ o13=>?_
 refine ao (by first|rfl|omega|(simp only [AE,AO,A3,List.length_take,List.length_cons,List.length_nil];omega)|(simp;omega)) λ o14=>?_
 refine ⟨(((((AD l).getD k []).getD 0 (.int 0))).n,((((AD l).getD k []).getD 1 (.int 0))).n),by
  rfl,by
  first|trivial|(rw [hk];exact ⟨λ x hx=>Nat.le_trans (Fg hp.2.2 x hx) (by omega),of_decide_eq_true rfl,by rw [A3];omega⟩),?_⟩
 refine ao (a:=(AK (An (l.take k))).length+([[Dat.str (Ap ((((((AD l).getD k []).getD 0 (.int 0))).n),(((((AD l).getD k []).getD 1 (.int 0))).n)))]]:List (List Dat)).length<=2199023255552) (by first|rfl|omega|(simp only [AE,AO,A3,List.length_take,List.length_cons,List.length_nil];omega)|(simp;omega)) λ o18=>?_
 refine ⟨k+1,by
  first|trivial|omega|(simp;omega),by
  first|omega|(simp;omega),?_⟩
 refine ⟨rfl,?_,rfl,?_⟩
 ·first|rfl|exact AP (AG (by omega) (by omega))|(rw [hvx,hvy,BW hvv];exact Dm (by omega))
 show ((AK (An (l.take k)))++([[Dat.str (Ap ((((((AD l).getD k []).getD 0 (.int 0))).n),(((((AD l).getD k []).getD 1 (.int 0))).n)))]]:List (List Dat)))=(AK (An (l.take (k+1))))
 first|rfl|exact AP (AG (by omega) (by omega))|(rw [hvx,hvy,BW hvv];exact Dm (by omega))
end Go.Proofs.YtcpjekkiejhgpaaGreatDoor
