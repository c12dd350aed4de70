import Derived.Test.YtdgmbbjoifneiaaGreatDoorPyRkB
import Derived.Test.YtdgmbbjoifneiaaGreatDoorPyFmI
import Derived.Test.YtdgmbbjoifneiaaGreatDoorPyRkF
import Derived.Lib.ItoaLen
namespace Go.Proofs.YtdgmbbjoifneiaaGreatDoor
set_option maxRecDepth 100000
set_option linter.unusedVariables false
set_option linter.unusedSimpArgs false
open Go.RowKit
def CG:Con:={ ι:=Int,pre:=λ i=>-9223372036854775808<=i/\i<=9223372036854775807,args:=λ i=>[.one (cI i)],res:=λ i=>⟨false,[none],[.im (Value.string (Bs i))]⟩ }
theorem Pb:CG.Ok Tryz.prog 65:=by
 refine fok (X:=⟨tt,[(64,Fx)],[],5,[]⟩) mixed AP (CTok.cons TP (CTok.nil _)) Tryz.func65 (λ _=>[]) ?_
 intro (n:Int) hpre
 have hpre:-9223372036854775808<=n/\n<=9223372036854775807:=hpre
 refine AO (q:=∃ i1:Int,[DA.one (cI n)]=Fx.args i1/\Fx.pre i1/\((Value.string (Bs i1)=Value.string (Bs n)))) (by kernel_rfl) ?_
 refine ⟨n,by
  rfl,by
  exact hpre,?_⟩
 exact rfl
def E4 (v:V2):ByteArray:=Bs v.1++(⟨#[44]⟩:ByteArray)++Bs v.2
theorem Qh {v:V2} (h:AE v=true):(-9223372036854775808<=v.1/\v.1<=9223372036854775807)/\-9223372036854775808<=v.2/\v.2<=9223372036854775807:=by
 have b:=Ay h
 omega
theorem Tz {x y:Int} (h:(-9223372036854775808<=x/\x<=9223372036854775807)/\-9223372036854775808<=y/\y<=9223372036854775807):(E4 (x,y)).size<=43:=by
 have h1:=G8 h.1
 have h2:=G8 h.2
 simp only [E4,ByteArray.size_append]
 have:(⟨#[44]⟩:ByteArray).size=1:=rfl
 omega
def BM (l:List V2):List ByteArray:=l.map E4
def EX (l:List V2):ByteArray:=G7 (BM l) (⟨#[32]⟩:ByteArray)
def Ct:Con:={ ι:=Int×Int,pre:=λ i=>(-9223372036854775808<=i.1/\i.1<=9223372036854775807)/\-9223372036854775808<=i.2/\i.2<=9223372036854775807,args:=λ i=>[DA.agg [cI i.1,cI i.2]],res:=λ i=>⟨false,[none],[.im (Value.string (E4 (i.1,i.2)))]⟩ }
theorem Pc:Ct.Ok Tryz.prog 44:=by
 refine fok (X:=⟨tt,[(65,CG)],[],11,[]⟩) mixed AP (CTok.cons Pb (CTok.nil _)) Tryz.func44 (λ _=>[]) ?_
 rintro ⟨x,y⟩ hpre
 have hpre:(-9223372036854775808<=x/\x<=9223372036854775807)/\-9223372036854775808<=y/\y<=9223372036854775807:=hpre
 refine AO (q:=∃ i1:Int,let Z1:=Bs i1++(⟨#[44]⟩:ByteArray);[DA.one (cI x)]=CG.args i1/\CG.pre i1/\(((Bs i1).size+(⟨#[44]⟩:ByteArray).size<=1125899906842624)/\(∃ i2:Int,[DA.one (cI y)]=CG.args i2/\CG.pre i2/\((Z1.size+(Bs i2).size<=1125899906842624)/\((Value.string (Z1++Bs i2)=Value.string (E4 (x,y)))))))) (by kernel_rfl) ?_
 conv=>zeta
 have hz1:=G8 hpre.1
 have hz2:=G8 hpre.2
 have hz3:(⟨#[44]⟩:ByteArray).size=1:=rfl
 refine ⟨x,by
  rfl,by
  show -9223372036854775808<=x/\x<=9223372036854775807
  first|exact hpre.1|exact hpre.2,?_⟩
 refine ao (by first|omega|(simp only [ByteArray.size_append];omega)) λ o4=>?_
 refine ⟨y,by
  rfl,by
  show -9223372036854775808<=y/\y<=9223372036854775807
  first|exact hpre.1|exact hpre.2,?_⟩
 refine ao (by first|omega|(simp only [ByteArray.size_append];omega)) λ o8=>?_
 rfl
theorem Ve {v:V2} (h:AE v=true):(E4 v).size<=43:=Tz (x:=v.1) (y:=v.2) (Qh h)
theorem DJ (l:List V2):(BM l).length=l.length:=by simp [BM]
theorem T4 {l:List V2} (h:l.all AE=true):∀ x ∈ BM l,x.size<=43:=by
 intro x hx
 obtain ⟨v,hv,rfl⟩:=List.mem_map.1 hx
 exact Ve (List.all_eq_true.1 h v hv)
theorem KD {l:List V2} (h:l.all AE=true):(Id (BM l) (⟨#[32]⟩:ByteArray)).length<=44*l.length:=by
 have:=RZ (s:=(⟨#[32]⟩:ByteArray)) (T4 h)
 rw [DJ] at this
 exact this
theorem T5 {l:List V2} (h:l.all AE=true):(EX l).size<=44*l.length:=by
 unfold EX;rw [PH];exact KD h
theorem KE {l:List V2} {k:Nat} (hk:k<l.length):Ae (BM (l.take k))++[[Dat.str (E4 (l.getD k (0,0)))]]=Ae (BM (l.take (k+1))):=by
 have e:l.take (k+1)=l.take k++[l.getD k (0,0)]:=by rw [List.take_add_one];simp [List.getD,hk]
 rw [e]
 simp [BM,Ae]
def DB:Con:={ ι:=(List V2),pre:=λ i=>i.all AE=true/\i.length<=1048576,args:=λ i=>[.one (DC.sl 26 [.int,.int] (AA i))],res:=λ i=>⟨false,[none],[.im (Value.string (EX i))]⟩ }
theorem OC:DB.Ok Tryz.prog 25:=by
 refine fok (X:=⟨tt,[(44,Ct),(45,Fy)],[],21,[]⟩) mixed AP (CTok.cons Pc (CTok.cons TQ (CTok.nil _))) Tryz.func25 (λ (i:(List V2))=>[(3,.mk 3 (Nat) (λ x1=>{ tm:=[(7,tX 1),(8,tI (nI ((AA i).length))),(9,tI (x1:Int)),(3,tX 2)],en:=[(1,.view 26 [.int,.int] (AA i) []),(2,.own 9 [.str] (Ae (BM (i.take x1))))] }) (λ x1=>x1<=i.length) (λ x1=>i.length-x1) (λ _=>[]))]) ?_
 intro (l:List V2) hpre
 have hpre:l.all AE=true/\l.length<=1048576:=hpre
 refine AO (q:=let Z2:=nI ((AA l).length);(∃ x1:Nat,(x1<=l.length)/\((rf (vI Z2))/\(vI (0:Int)=vI (x1:Int))/\(rf (AA l))/\(([]:List (List Dat))=(Ae (BM (l.take x1))))))/\∀ x1:Nat,let Z1:=Ae (BM (l.take x1));(x1<=l.length)->(ifB ((decide ((x1:Int)<Z2))) ((0<=(x1:Int)/\(x1:Int)<((AA l).length:Int))/\((x1<(AA l).length)/\(∃ i1:Int×Int,[DA.agg [cI (((((AA l).getD x1 []).getD 0 (.int 0))).n),cI (((((AA l).getD x1 []).getD 1 (.int 0))).n)]]=Ct.args i1/\Ct.pre i1/\((Z1.length+([[Dat.str (E4 (i1.1,i1.2))]]:List (List Dat)).length<=2199023255552)/\(∃ y2:Nat,(y2<=l.length)/\(l.length-y2<l.length-x1)/\((rf (vI Z2))/\(vI (wR ((x1:Int)+(1:Int)))=vI (y2:Int))/\(rf (AA l))/\((Z1++([[Dat.str (E4 (i1.1,i1.2))]]:List (List Dat)))=(Ae (BM (l.take y2)))))))))) (∃ i2:(List ByteArray)×ByteArray,[DA.one (DC.sl 9 [.str] Z1),DA.one (DC.im (Value.string (⟨#[32]⟩:ByteArray)))]=Fy.args i2/\Fy.pre i2/\((Value.string (G7 i2.1 i2.2)=Value.string (EX l)))))) (by kernel_rfl) ?_
 conv=>zeta
 delta ifB vI wR nI
 have hvl:=AB l
 refine ⟨⟨0,by
  first|trivial|omega|(simp;omega),?_⟩,?_⟩
 ·refine ⟨rfl,rfl,rfl,?_⟩
  first|rfl|(rw [AB])
 intro (k:Nat) hki1
 have hki1:k<=l.length:=hki1
 refine And.symm ⟨λ c7=>?_,λ c7=>?_⟩
 ·try simp only [nrm] at c7
  have hk:BM (l.take k)=BM l:=by rw [show k=l.length by omega,List.take_length]
  refine ⟨((BM (l.take k)),(⟨#[32]⟩:ByteArray)),by
   rfl,by
   show (BM (l.take k)).length<=1073741824/\(Id (BM (l.take k)) (⟨#[32]⟩:ByteArray)).length<=140737488355328
   first|(rw [hvx,hvy];exact Qh (AW hpre.1 (by omega)))|(rw [hk];exact ⟨by rw [DJ];omega,by have:=KD hpre.1;omega⟩),?_⟩
  show Value.string (G7 (BM (l.take k)) (⟨#[32]⟩:ByteArray))=Value.string (EX l)
  rw [hk];rfl
 try simp only [nrm] at c7
 have hvx:=AT (l:=l) (k:=k) (by omega)
 have hvy:=AU (l:=l) (k:=k) (by omega)
 refine ao (by first|rfl|omega|(simp only [AB,As,DJ,List.length_take,List.length_cons,List.length_nil];omega)|(simp;omega)) λ o8=>?_
 refine ao (by first|rfl|omega|(simp only [AB,As,DJ,List.length_take,List.length_cons,List.length_nil];omega)|(simp;omega)) λ o9=>?_
 refine ⟨(((((AA l).getD k []).getD 0 (.int 0))).n,((((AA l).getD k []).getD 1 (.int 0))).n),by
  rfl,by
  try dsimp only [Ct]
  first|(rw [hvx,hvy];exact Qh (AW hpre.1 (by omega)))|(rw [hk];exact ⟨by rw [DJ];omega,by have:=KD hpre.1;omega⟩),?_⟩
 refine ao (a:=(Ae (BM (l.take k))).length+([[Dat.str (E4 ((((((AA l).getD k []).getD 0 (.int 0))).n),(((((AA l).getD k []).getD 1 (.int 0))).n)))]]:List (List Dat)).length<=2199023255552) (by first|rfl|omega|(simp only [AB,As,DJ,List.length_take,List.length_cons,List.length_nil];omega)|(simp;omega)) λ o13=>?_
 refine ⟨k+1,by
  first|trivial|omega|(simp;omega),by
  first|omega|(simp;omega),?_⟩
 refine ⟨rfl,?_,rfl,?_⟩
 ·first|rfl|exact AQ (AF (by omega) (by omega))|(rw [hvx,hvy];exact KE (by omega))
 show ((Ae (BM (l.take k)))++([[Dat.str (E4 ((((((AA l).getD k []).getD 0 (.int 0))).n),(((((AA l).getD k []).getD 1 (.int 0))).n)))]]:List (List Dat)))=(Ae (BM (l.take (k+1))))
 first|rfl|exact AQ (AF (by omega) (by omega))|(rw [hvx,hvy];exact KE (by omega))
theorem Vf {l:List ByteArray} {k:Nat} (hk:k<l.length):(((Ae l).getD k []).getD 0 (.int 0)).s=l.getD k ⟨#[]⟩:=by rw [GY l k hk];rfl
theorem MN {l:List ByteArray} {m:Nat} (h:∀ x ∈ l,x.size<=m) (k:Nat):(l.getD k ⟨#[]⟩).size<=m:=by
 by_cases hk:k<l.length
 ·have e:l.getD k ⟨#[]⟩=l[k]:=by simp [List.getD,hk]
  rw [e];exact h _ (List.getElem_mem hk)
 ·have e:l.getD k ⟨#[]⟩=⟨#[]⟩:=by simp [List.getD,hk]
  rw [e];exact Nat.zero_le _
def A8 (l:List V2):ByteArray:=if AI l=true then EX l else ⟨#[]⟩
theorem De {l:List V2} (h:AI l=true):A8 l=EX l:=if_pos h
theorem Le {l:List V2} (h:AI l=false):A8 l=⟨#[]⟩:=if_neg (by rw [h];simp)
theorem Cu {l:List V2} (h:AI l=true):3<=l.length/\l.length<=16/\l.all AE=true:=by
 simp only [AI,Bool.and_eq_true,Dm] at h
 exact ⟨by omega,by omega,h.1.2⟩
def E5:Con:={ ι:=(List V2),pre:=λ i=>True,args:=λ i=>[.one (DC.sl 26 [.int,.int] (AA i))],res:=λ i=>⟨false,[none],[.im (Value.string (A8 i))]⟩ }
theorem Rz:E5.Ok Tryz.prog 8:=by
 refine fok (X:=⟨tt,[(24,AY),(25,DB)],[],8,[]⟩) mixed AP (CTok.cons Ca (CTok.cons OC (CTok.nil _))) Tryz.func8 (λ _=>[]) ?_
 intro (l:List V2) hpre
 have hpre:True:=hpre
 refine AO (q:=let Z1:=DC.sl 26 [.int,.int] (AA l);∃ i1:(List V2),[DA.one Z1]=AY.args i1/\AY.pre i1/\(ifB ((!(AI i1))) ((Value.string (⟨#[]⟩:ByteArray)=Value.string (A8 l))) (∃ i2:(List V2),[DA.one Z1]=DB.args i2/\DB.pre i2/\((Value.string (EX i2)=Value.string (A8 l)))))) (by kernel_rfl) ?_
 conv=>zeta
 delta ifB
 refine ⟨l,by
  rfl,by
  first|trivial|exact ⟨hp.2.2,by omega⟩,?_⟩
 refine ⟨λ c4=>?_,λ c4=>?_⟩
 ·try simp only [nrm] at c4
  first|rfl|(rw [Le (by assumption)])|(rw [De (by assumption)])
 try simp only [nrm] at c4
 have hp:=Cu c4
 refine ⟨l,by
  rfl,by
  show l.all AE=true/\l.length<=1048576
  first|trivial|exact ⟨hp.2.2,by omega⟩,?_⟩
 first|rfl|(rw [Le (by assumption)])|(rw [De (by assumption)])
end Go.Proofs.YtdgmbbjoifneiaaGreatDoor
