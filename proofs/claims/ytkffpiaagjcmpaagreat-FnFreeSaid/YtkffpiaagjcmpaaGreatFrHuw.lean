import Derived.Test.YtkffpiaagjcmpaaGreatFrRkG
import Derived.Test.YtkffpiaagjcmpaaGreatFrNum4
import Derived.RegionTactic
import Derived.Test.YtkffpiaagjcmpaaGreatFrHus
import Derived.Test.YtkffpiaagjcmpaaGreatFrScW
import Derived.Shelf.SlSortCmp.NoneTotal
import Derived.Shelf.SlicesQ.Reverse
import Derived.Lib.SlicesCompact
namespace Go.Proofs.YtkffpiaagjcmpaaGreat
set_option linter.unusedVariables false
set_option linter.unusedSimpArgs false
open Go.RowKit
end Go.Proofs.YtkffpiaagjcmpaaGreat
namespace Go.Proofs.YtkffpiaagjcmpaaGreat
set_option linter.unusedVariables false
set_option linter.unusedSimpArgs false
open Go.RowKit
def EB:Con:={ ι:=Scn,pre:=λ i=>True,args:=λ i=>[DA.agg [cI i.low.1,cI i.low.2,cI i.high.1,cI i.high.2,DC.sl 24 [.int,.int] (AA i.robot),DC.sl 25 [.sl 24 [.int,.int]] (AI i.obst),DC.sl 24 [.int,.int] (AA i.tables)]],res:=λ i=>⟨false,[none],[rcB (AH i)]⟩ }
theorem Vk:EB.Ok Tryz.prog 37:=Bv rfl ⟨_,Tryz.func37,by decide,rfl⟩ (λ _=>Nat.le_of_ble_eq_true rfl) (λ _=>rfl) (λ s=>[.im (.bool (AH s))]) (λ _=>rfl) (λ _=>rfl) (λ i hp w us h=>by
 have h:RdRow w [.int,.int,.int,.int,.sl 24 [.int,.int],.sl 25 [.sl 24 [.int,.int]],.sl 24 [.int,.int]] (WH i) us:=h
 have hl:=(RdRow.lens _ _ _ h).2
 rw [show A3 (EB.args i) us=[.agg us.toArray] from FQ hl]
 refine (D6 i _ w (RdRow.scene h)).mono ?_
 rintro e w' ⟨rfl,hb⟩
 exact ⟨[.bool (AH i)],rfl,Own.leaf (Fp.mk_bool _),hb⟩)
theorem MO {s:Scn} (h:AH s=true):(-200<=s.low.1/\s.low.1<=200)/\(-200<=s.low.2/\s.low.2<=200)/\(-200<=s.high.1/\s.high.1<=200)/\(-200<=s.high.2/\s.high.2<=200):=by
 simp only [AH,Bool.and_eq_true,List.all_cons] at h
 have h1:=EG h.1.1.1.1.1
 have h2:=EG h.1.1.1.1.2.1
 omega
def O1 {α:Type} (p:α->Bool) (l:List α):Int:=match l.findIdx? p with|some k=>(k:Int)|none=>-1
theorem ZV {α:Type} {p:α->Bool} {l:List α} {d:α} {k:Nat} (hk:k<l.length) (h:∀ j,j<k->p (l.getD j d)=false) (hp:p (l.getD k d)=true):O1 p l=(k:Int):=by
 have:l.findIdx? p=some k:=by
  rw [List.findIdx?_eq_some_iff_getElem]
  refine ⟨hk,?_,λ j hj=>?_⟩
  ·simpa [List.getD,hk] using hp
  ·have:=h j hj
   simpa [List.getD,show j<l.length by omega] using this
 unfold O1;rw [this]
theorem Vl {α:Type} {p:α->Bool} {l:List α} {d:α} (h:∀ j,j<l.length->p (l.getD j d)=false):O1 p l=-1:=by
 have:l.findIdx? p=none:=by
  rw [List.findIdx?_eq_none_iff]
  intro x hx
  obtain ⟨j,hj,rfl⟩:=List.getElem_of_mem hx
  have:=h j hj
  simpa [List.getD,hj] using this
 unfold O1;rw [this]
theorem X1 {α:Type} (p:α->Bool) (l:List α):decide (O1 p l≥0)=l.any p:=by
 unfold O1
 cases h:l.findIdx? p with
 | none=>
  rw [List.findIdx?_eq_none_iff] at h
  have:l.any p=false:=by
   rw [List.any_eq_false];intro x hx;rw [h x hx];simp
  rw [this];rfl
 | some k=>
  rw [List.findIdx?_eq_some_iff_getElem] at h
  obtain ⟨hk,hp,_⟩:=h
  have:l.any p=true:=List.any_eq_true.2 ⟨_,List.getElem_mem hk,hp⟩
  rw [this]
  exact decide_eq_true (show (0:Int)<=(k:Int) by omega)
end Go.Proofs.YtkffpiaagjcmpaaGreat
namespace Go.Proofs.YtkffpiaagjcmpaaGreat
set_option maxRecDepth 100000
set_option linter.unusedVariables false
set_option linter.unusedSimpArgs false
open Go.RowKit
def A2:Con:={ ι:=(List V2),pre:=λ i=>True,args:=λ i=>[.one (DC.sl 24 [.int,.int] (AA i))],res:=λ i=>⟨false,[none],[rcB (i.all AD)]⟩ }
theorem Fe:A2.Ok Tryz.prog 36:=Bv rfl ⟨_,Tryz.func36,by decide,rfl⟩ (λ _=>Nat.le_of_ble_eq_true rfl) (λ _=>rfl) (λ l=>[.im (.bool (l.all AD))]) (λ _=>rfl) (λ _=>rfl) (λ i hp w us h=>by
 have h:RdRow w [.sl 24 [.int,.int]] [.sl (AA i)] us:=h
 obtain ⟨v,vs,rfl,h1,h2⟩:=RdRow.cons2 h
 obtain ⟨-,rfl⟩:=RdRow.nil_inv h2
 refine (Jk i v w (Rd.vecs h1)).mono ?_
 rintro e w' ⟨rfl,hb⟩
 exact ⟨[Value.bool (i.all AD)],rfl,Own.leaf (Fp.mk_bool _),hb⟩)
theorem Qv {v:V2} (h:AD v=true) (k:Nat):AD (Bm k v)=true:=Mz h k
theorem Ct (l:List V2) (k:Nat):(AW l k).length=l.length:=by simp [AW]
theorem Hm {l:List V2} {k n:Nat} (hk:k<l.length):AA (AW (l.take k) n)++[[.int (Bm n (l.getD k (0,0))).1,.int (Bm n (l.getD k (0,0))).2]]=AA (AW (l.take (k+1)) n):=by
 rw [Bp l (0,0) k hk]
 simp [AW,AA,Hd]
theorem Vm {k:Int} (h0:0<=k) (h1:k<=3):Int.tmod (IntKind.i64.wrap (Int.tmod k 4+4)) 4=k:=by
 have:k=0∨k=1∨k=2∨k=3:=by omega
 rcases this with rfl|rfl|rfl|rfl <;> rfl
def AB (s:Scn) (h:Int):List V2:=if AH s=true/\0<=h/\h<=3 then AW s.robot h.toNat else []
theorem Cf {s:Scn} {h:Int} (h1:AH s=true) (h2:0<=h/\h<=3):AB s h=AW s.robot h.toNat:=by unfold AB;rw [if_pos ⟨h1,h2⟩]
theorem H9 {s:Scn} {h:Int} (h1:AH s=false∨¬ (0<=h/\h<=3)):AB s h=[]:=by
 unfold AB
 rw [if_neg]
 rintro ⟨a,b⟩
 rcases h1 with h1|h1
 ·rw [h1] at a;cases a
 ·exact h1 b
theorem Jv {s:Scn} (h:AH s=true):AG s.robot=true:=by
 simp only [AH,shape,Bool.and_eq_true] at h
 exact h.1.2.1.1
theorem KP (s:Scn) (h:Int):(AB s h).all AD=true/\(AB s h).length<=16:=by
 unfold AB
 split
 ·next hv=>
  have hp:=CY (Jv hv.1)
  rw [Ct]
  refine ⟨?_,hp.2.1⟩
  rw [List.all_eq_true]
  intro x hx
  simp only [AW,List.mem_map] at hx
  obtain ⟨y,hy,rfl⟩:=hx
  exact Qv (List.all_eq_true.1 hp.2.2 y hy) _
 ·exact ⟨rfl,Nat.zero_le _⟩
theorem S5 {s:Scn} {h:Int} (h1:AH s=true) (h2:0<=h/\h<=3):AB s h≠[]:=by
 rw [Cf h1 h2]
 intro e
 have hp:=CY (Jv h1)
 have:=Ct s.robot h.toNat
 rw [e,List.length_nil] at this
 omega
def DB:Con:={ ι:=Int,pre:=λ i=>True,args:=λ i=>[.one (cI i)],res:=λ i=>⟨false,[none],[rcB (decide (i≥0) && decide (i<=3))]⟩ }
theorem O2:DB.Ok Tryz.prog 38:=by
 refine fok (X:=⟨tt,[(40,CU)],[],5,[]⟩) mixed AN (CTok.cons No (CTok.nil _)) Tryz.func38 (λ _=>[]) ?_
 intro (n:Int) hpre
 have hpre:True:=hpre
 refine AM (q:=∃ i1:Int×Int×Int,[DA.one (cI n),DA.one (cI (0:Int)),DA.one (cI (3:Int))]=CU.args i1/\CU.pre i1/\((vB (decide (i1.1≥i1.2.1) && decide (i1.1<=i1.2.2))=vB (decide (n≥0) && decide (n<=3))))) (by kernel_rfl) ?_
 delta vB
 refine ⟨(n,(0:Int),(3:Int)),by
  rfl,by
  first|trivial|(first|omega|assumption|exact hpre.1|exact hpre.2|(simp;done)),?_⟩
 rfl
def Di:Con:={ ι:=Int×Int×Int,pre:=λ i=>(0<=i.2.2/\i.2.2<=3)/\True/\AD (i.1,i.2.1)=true,args:=λ i=>[DA.agg [cI i.1,cI i.2.1],.one (cI i.2.2)],res:=λ i=>⟨false,[some 2],[rcI ((Bm i.2.2.toNat (i.1,i.2.1)).1),rcI ((Bm i.2.2.toNat (i.1,i.2.1)).2)]⟩ }
theorem Qw:Di.Ok Tryz.prog 79:=by
 refine fok (X:=⟨tt,[],[],19,[]⟩) mixed AN (CTok.nil _) Tryz.func79 (λ (i:Int×Int×Int)=>[(2,.mk 3 (Nat) (λ x1=>{ tm:=[(2,tP 1 0),(4,tP 2 0),(9,tI (nI x1)),(8,tI i.2.2)],en:=[(1,.box [kI ((Bm x1 (i.1,i.2.1)).1),kI ((Bm x1 (i.1,i.2.1)).2)]),(2,.box [kI (0:Int),kI (0:Int)])] }) (λ x1=>x1<=i.2.2.toNat) (λ x1=>i.2.2.toNat-x1) (λ _=>[]))]) ?_
 rintro ⟨x,y,k⟩ hpre
 have hpre:(0<=k/\k<=3)/\True/\AD (x,y)=true:=hpre
 refine AM (q:=let Z2:=vI (0:Int);((4:Int)≠0)/\(((4:Int)≠0)/\((∃ x1:Nat,(x1<=k.toNat)/\((vI (0:Int)=vI (nI x1))/\(vI (Int.tmod (wR ((Int.tmod k (4:Int))+(4:Int))) (4:Int))=vI k)/\(vI x=vI ((Bm x1 (x,y)).1))/\(vI y=vI ((Bm x1 (x,y)).2))/\(rf Z2)/\(rf Z2)))/\∀ x1:Nat,let Z1:=Bm x1 (x,y);(x1<=k.toNat)->(ifB ((decide ((nI x1)<k))) (∃ y2:Nat,(y2<=k.toNat)/\(k.toNat-y2<k.toNat-x1)/\((vI (wR ((nI x1)+(1:Int)))=vI (nI y2))/\(rf (vI k))/\(vI (wR (0-(Z1.2)))=vI ((Bm y2 (x,y)).1))/\(vI (Z1.1)=vI ((Bm y2 (x,y)).2))/\(rf Z2)/\(rf Z2))) ((vI (Z1.1)=vI ((Bm k.toNat (x,y)).1))/\(vI (Z1.2)=vI ((Bm k.toNat (x,y)).2))))))) (by kernel_rfl) ?_
 conv=>zeta
 delta ifB vI wR nI
 have hq:=λ j=>BW (Qv hpre.2.2 j)
 have hw:=Vm hpre.1.1 hpre.1.2
 refine ao (by first|rfl|omega|(simp;done)|(simp;omega)) λ o1=>?_
 refine ao (by first|rfl|omega|(simp;done)|(simp;omega)) λ o2=>?_
 refine ⟨⟨0,by
  first|trivial|omega|(simp;omega),?_⟩,?_⟩
 ·refine ⟨?_,?_,?_,?_,rfl,rfl⟩
  ·first|rfl|(rw [hw])
  ·first|rfl|(rw [hw])
  ·first|rfl|(rw [hw])
  first|rfl|(rw [hw])
 intro (j:Nat) hki3
 have hki3:j<=k.toNat:=hki3
 refine And.symm ⟨λ c11=>?_,λ c11=>?_⟩
 ·try simp only [nrm] at c11
  refine ⟨?_,?_⟩
  ·rw [show k.toNat=j by omega]
  rw [show k.toNat=j by omega]
 try simp only [nrm] at c11
 refine ⟨j+1,by
  first|trivial|omega|(simp;omega),by
  first|omega|(simp;omega),?_⟩
 refine ⟨?_,rfl,?_,?_,rfl,rfl⟩
 ·first|rfl|exact AR (AE (by omega) (by omega))|exact AR (show IntKind.i64.wrap (0-(Bm j (x,y)).2)=-(Bm j (x,y)).2 from by have:=hq j;rw [AE (by omega) (by omega)];omega)|exact AR (by rw [AE (by omega) (by omega)];omega)
 ·first|rfl|exact AR (AE (by omega) (by omega))|exact AR (show IntKind.i64.wrap (0-(Bm j (x,y)).2)=-(Bm j (x,y)).2 from by have:=hq j;rw [AE (by omega) (by omega)];omega)|exact AR (by rw [AE (by omega) (by omega)];omega)
 first|rfl|exact AR (AE (by omega) (by omega))|exact AR (show IntKind.i64.wrap (0-(Bm j (x,y)).2)=-(Bm j (x,y)).2 from by have:=hq j;rw [AE (by omega) (by omega)];omega)|exact AR (by rw [AE (by omega) (by omega)];omega)
def DD:Con:={ ι:=(List V2)×Int,pre:=λ i=>(0<=i.2/\i.2<=3)/\i.1.length<=1048576/\i.1.all AD=true,args:=λ i=>[.one (DC.sl 24 [.int,.int] (AA i.1)),.one (cI i.2)],res:=λ i=>⟨false,[none],[.own 24 [.int,.int] (AA (AW i.1 i.2.toNat))]⟩ }
theorem O3:DD.Ok Tryz.prog 39:=by
 refine fok (X:=⟨tt,[(36,A2),(79,Di)],[],26,[]⟩) mixed AN (CTok.cons Fe (CTok.cons Qw (CTok.nil _))) Tryz.func39 (λ (i:(List V2)×Int)=>[(5,.mk 3 (Nat) (λ x1=>{ tm:=[(12,tX 1),(13,tI (nI ((AA i.1).length))),(14,tI (nI x1)),(1,tI i.2),(5,tX 2)],en:=[(1,.view 24 [.int,.int] (AA i.1) []),(2,.own 24 [.int,.int] (AA (AW (i.1.take x1) i.2.toNat)))] }) (λ x1=>x1<=i.1.length) (λ x1=>i.1.length-x1) (λ _=>[]))]) ?_
 rintro ⟨l,h⟩ hpre
 have hpre:(0<=h/\h<=3)/\l.length<=1048576/\l.all AD=true:=hpre
 refine AM (q:=let Z3:=nI ((AA l).length);∃ i1:(List V2),[DA.one (DC.sl 24 [.int,.int] (AA l))]=A2.args i1/\A2.pre i1/\(ifB ((!(i1.all AD))) ((([]:List (List Dat))=AA (AW l h.toNat))) ((∃ x1:Nat,(x1<=l.length)/\((rf (vI Z3))/\(vI (0:Int)=vI (nI x1))/\(rf (vI h))/\(rf (AA l))/\(([]:List (List Dat))=(AA (AW (l.take x1) h.toNat)))))/\∀ x1:Nat,let Z2:=AA (AW (l.take x1) h.toNat);(x1<=l.length)->(ifB ((decide ((nI x1)<Z3))) ((0<=(nI x1)/\(nI x1)<((AA l).length:Int))/\((x1<(AA l).length)/\(∃ i2:Int×Int×Int,let Z1:=Bm i2.2.2.toNat (i2.1,i2.2.1);[DA.agg [cI (((((AA l).getD x1 []).getD 0 (.int 0))).n),cI (((((AA l).getD x1 []).getD 1 (.int 0))).n)],DA.one (cI h)]=Di.args i2/\Di.pre i2/\((Z2.length+([[Dat.int (Z1.1),Dat.int (Z1.2)]]:List (List Dat)).length<=2199023255552)/\(∃ y2:Nat,(y2<=l.length)/\(l.length-y2<l.length-x1)/\((rf (vI Z3))/\(vI (wR ((nI x1)+(1:Int)))=vI (nI y2))/\(rf (vI h))/\(rf (AA l))/\((Z2++([[Dat.int (Z1.1),Dat.int (Z1.2)]]:List (List Dat)))=(AA (AW (l.take y2) h.toNat))))))))) ((Z2=AA (AW l h.toNat))))))) (by kernel_rfl) ?_
 conv=>zeta
 delta ifB vI wR nI
 have hvl:=AC l
 refine ⟨l,by
  rfl,by
  first|trivial|exact ⟨hpre.1,trivial,Ak hpre.2.2 (by omega)⟩,?_⟩
 refine ⟨λ c4=>?_,λ c4=>?_⟩
 ·try simp only [nrm] at c4
  rw [hpre.2.2] at c4
  cases c4 -- done
 try simp only [nrm] at c4
 refine ⟨⟨0,by
  first|trivial|omega|(simp;omega),?_⟩,?_⟩
 ·refine ⟨rfl,?_,rfl,rfl,?_⟩
  ·first|rfl|(rw [AC])
  first|rfl|(rw [AC])
 intro (k:Nat) hki6
 have hki6:k<=l.length:=hki6
 refine And.symm ⟨λ c13=>?_,λ c13=>?_⟩
 ·try simp only [nrm] at c13
  rw [show k=l.length by omega,List.take_length]
 try simp only [nrm] at c13
 refine ao (by first|omega|(simp only [AC,Ct,List.length_take,List.length_cons,List.length_nil];omega)) λ o14=>?_
 refine ao (by first|omega|(simp only [AC,Ct,List.length_take,List.length_cons,List.length_nil];omega)) λ o15=>?_
 refine ⟨((l.getD k (0,0)).1,(l.getD k (0,0)).2,h),by
  rw [Ai (by omega),Aj (by omega)];rfl,by
  first|trivial|exact ⟨hpre.1,trivial,Ak hpre.2.2 (by omega)⟩,?_⟩
 refine ao (a:=(AA (AW (l.take k) h.toNat)).length+([[Dat.int ((Bm h.toNat (((l.getD k (0,0)).1),((l.getD k (0,0)).2))).1),Dat.int ((Bm h.toNat (((l.getD k (0,0)).1),((l.getD k (0,0)).2))).2)]]:List (List Dat)).length<=2199023255552) (by first|omega|(simp only [AC,Ct,List.length_take,List.length_cons,List.length_nil];omega)) λ o19=>?_
 refine ⟨k+1,by
  first|trivial|omega|(simp;omega),by
  first|omega|(simp;omega),?_⟩
 refine ⟨rfl,?_,rfl,rfl,?_⟩
 ·first|rfl|exact AR (AE (by omega) (by omega))|exact Hm (by omega)
 first|rfl|exact AR (AE (by omega) (by omega))|exact Hm (by omega)
def As:Con:={ ι:=Scn×Int,pre:=λ i=>True,args:=λ i=>[DA.agg [cI i.1.low.1,cI i.1.low.2,cI i.1.high.1,cI i.1.high.2,DC.sl 24 [.int,.int] (AA i.1.robot),DC.sl 25 [.sl 24 [.int,.int]] (AI i.1.obst),DC.sl 24 [.int,.int] (AA i.1.tables)],.one (cI i.2)],res:=λ i=>⟨false,[none],[.own 24 [.int,.int] (AA (AB i.1 i.2))]⟩ }
theorem EW:As.Ok Tryz.prog 9:=by
 refine fok (X:=⟨tt,[(37,EB),(38,DB),(39,DD)],[],17,[]⟩) mixed AN (CTok.cons Vk (CTok.cons O2 (CTok.cons O3 (CTok.nil _)))) Tryz.func9 (λ _=>[]) ?_
 rintro ⟨s,h⟩ hpre
 have hpre:True:=hpre
 refine AM (q:=let Z1:=(([]:List (List Dat))=AA (AB s h));∃ i1:Scn,[DA.agg [cI s.low.1,cI s.low.2,cI s.high.1,cI s.high.2,DC.sl 24 [.int,.int] (AA s.robot),DC.sl 25 [.sl 24 [.int,.int]] (AI s.obst),DC.sl 24 [.int,.int] (AA s.tables)]]=EB.args i1/\EB.pre i1/\(ifB ((!(!(AH i1)))) (∃ i2:Int,[DA.one (cI h)]=DB.args i2/\DB.pre i2/\(ifB ((!(decide (i2≥0) && decide (i2<=3)))) Z1 (∃ i3:(List V2)×Int,[DA.one (DC.sl 24 [.int,.int] (AA s.robot)),DA.one (cI h)]=DD.args i3/\DD.pre i3/\((AA (AW i3.1 i3.2.toNat)=AA (AB s h)))))) Z1)) (by kernel_rfl) ?_
 conv=>zeta
 delta ifB
 refine ⟨s,by
  rfl,by
  first|trivial|exact ⟨by omega,by omega,hP.2.2⟩,?_⟩
 refine And.symm ⟨λ c4=>?_,λ c4=>?_⟩
 ·try simp only [nrm] at c4
  have hE:=H9 (h:=h) (.inl c4)
  first|(rw [hE];done)|(rw [hE];rfl)
 try simp only [nrm] at c4
 refine ⟨h,by
  rfl,by
  first|trivial|exact ⟨by omega,by omega,hP.2.2⟩,?_⟩
 refine ⟨λ c8=>?_,λ c8=>?_⟩
 ·try simp only [nrm] at c8
  have hE:=H9 (s:=s) (h:=h) (.inr (by omega))
  first|(rw [hE];done)|(rw [hE];rfl)
 try simp only [nrm] at c8
 have hE:=Cf c4 (show 0<=h/\h<=3 by omega)
 have hP:=CY (Jv c4)
 refine ⟨(s.robot,h),by
  rfl,by
  show (0<=h/\h<=3)/\s.robot.length<=1048576/\s.robot.all AD=true
  first|trivial|exact ⟨by omega,by omega,hP.2.2⟩,?_⟩
 show AA (AW s.robot h.toNat)=AA (AB s h)
 first|(rw [hE];done)|(rw [hE];rfl)
def orQ (p:Pq):Pq:=if p.good=true then p else ⟨Fr.none,Fr.none⟩
def mvQ (p:Pq) (v:V2):Pq:=orQ ⟨Fr.add p.x (Fr.ofInt v.1),Fr.add p.y (Fr.ofInt v.2)⟩
def Bs:Con:={ ι:=Pq,pre:=λ i=>True,args:=λ i=>[dP i],res:=λ i=>⟨false,[none],[rcB i.good]⟩ }
theorem OB:Bs.Ok Tryz.prog 48:=by
 refine fok (X:=⟨tt,[(91,AT)],[],11,[]⟩) mixed AN (CTok.cons FC (CTok.nil _)) Tryz.func48 (λ _=>[]) ?_
 intro (p:Pq) hpre
 have hpre:True:=hpre
 refine AM (q:=∃ i1:Fr,[dF p.x]=AT.args i1/\AT.pre i1/\(ifB (i1.good) (∃ i2:Fr,[dF p.y]=AT.args i2/\AT.pre i2/\((vB i2.good=vB p.good))) ((vB false=vB p.good)))) (by kernel_rfl) ?_
 delta ifB vB
 refine ⟨p.x,by
  rfl,by
  first|trivial|(first|omega|assumption|exact hpre.1|exact hpre.2|(simp;done)),?_⟩
 refine And.symm ⟨λ c4=>?_,λ c4=>?_⟩
 ·try simp only [nrm] at c4
  exact congrArg Value.bool (by unfold Pq.good;rw [c4];first|rfl|(rw [Bool.true_and]))
 try simp only [nrm] at c4
 refine ⟨p.y,by
  rfl,by
  first|trivial|(first|omega|assumption|exact hpre.1|exact hpre.2|(simp;done)),?_⟩
 exact congrArg Value.bool (by unfold Pq.good;rw [c4];first|rfl|(rw [Bool.true_and]))
def Am:Con:={ ι:=Pq,pre:=λ i=>True,args:=λ i=>[dP i],mu:=[1,2,4,5],gone:=[0,1,2,3],new:=λ i=>[],res:=λ i=>⟨false,[some 6],[rcB (decide ((orQ i).x.z<0)),.own 3 [.int] (L (orQ i).x.z.natAbs),.own 3 [.int] (L (orQ i).x.d),rcB (decide ((orQ i).y.z<0)),.own 3 [.int] (L (orQ i).y.z.natAbs),.own 3 [.int] (L (orQ i).y.d)]⟩ }
set_option maxHeartbeats 1000000 in
theorem Vn (b0 b3 : Bool) (a1 a2 a4 a5 : Option Addr) (n1 n2 n4 n5 c1 c2 c4 c5 : Nat) (g : Bool) (w : World)
    (hg : ∀ w1, Below w.heap.size w w1 → Calls Tryz.prog 48 #[.agg #[.bool b0, .slice a1 n1 c1, .slice a2 n2 c2, .bool b3, .slice a4 n4 c4, .slice a5 n5 c5]] w1 fun e w' => e = .returned (.bool g) ∧ Below w1.heap.size w1 w') :
    Calls Tryz.prog 90 #[.agg #[.bool b0, .slice a1 n1 c1, .slice a2 n2 c2, .bool b3, .slice a4 n4 c4, .slice a5 n5 c5]] w fun e w' =>
      e = .returned (if g = true then .agg #[.bool b0, .slice a1 n1 c1, .slice a2 n2 c2, .bool b3, .slice a4 n4 c4, .slice a5 n5 c5] else .agg #[.bool false, .slice none 0 0, .slice none 0 0, .bool false, .slice none 0 0, .slice none 0 0]) ∧ Below w.heap.size w w' := by
  have HG := Lib.hid hg
  clear hg
  go_enter Tryz.func90, Tryz.ntmps90
  go_wp2_with fail
  refine (HG.out _ (by (repeat (first | with_reducible exact Below.refl _ _ | with_reducible assumption | with_reducible refine Below.drew ?_ | with_reducible refine Below.setCell ?_ ?_ _ | with_reducible refine Below.alloc ?_ ?_ _)); all_goals first | (simp; done) | (simp; omega) | omega)).mono ?_
  rintro e w1 ⟨rfl, h1⟩
  have B1 : Below w.heap.size w w1 := Below.trans (by (repeat (first | with_reducible exact Below.refl _ _ | with_reducible assumption | with_reducible refine Below.drew ?_ | with_reducible refine Below.setCell ?_ ?_ _ | with_reducible refine Below.alloc ?_ ?_ _)); all_goals first | (simp; done) | (simp; omega) | omega) (h1.mono (by first | (simp; done) | (simp; omega) | omega))
  have S1 := h1.size
  have T1 := B1.size
  try simp at S1
  obtain ⟨k1, f1⟩ := EJ h1
  try simp at k1
  try simp at f1
  have Hc1 := Lib.hid h1
  clear h1
  have u1_0 : w.heap.size < w1.heap.size := by omega
  have u1_1 : w.heap.size + 1 < w1.heap.size := by omega
  cases g
  · have qs : ∀ i, i < 6 → (w1.cell? ⟨w.heap.size + 1, 0 + i, none⟩).isSome = true := fun i hi => by
      have : i = 0 ∨ i = 1 ∨ i = 2 ∨ i = 3 ∨ i = 4 ∨ i = 5 := by omega
      rcases this with rfl | rfl | rfl | rfl | rfl | rfl <;> go_simp
    have q0 : ((((((w1.setCell ⟨w.heap.size + 1, 0, none⟩ (.bool false)).setCell ⟨w.heap.size + 1, 1, none⟩ (.slice none 0 0)).setCell ⟨w.heap.size + 1, 2, none⟩ (.slice none 0 0)).setCell ⟨w.heap.size + 1, 3, none⟩ (.bool false)).setCell ⟨w.heap.size + 1, 4, none⟩ (.slice none 0 0)).setCell ⟨w.heap.size + 1, 5, none⟩ (.slice none 0 0)).cell? ⟨w.heap.size + 1, 0, none⟩ = some (.bool false) := (by have q := Bg (w.heap.size + 1) [.bool false, .slice none 0 0, .slice none 0 0, .bool false, .slice none 0 0, .slice none 0 0] w1 0 qs 0 (by simp); rw [Nat.zero_add] at q; exact q); have q1 : ((((((w1.setCell ⟨w.heap.size + 1, 0, none⟩ (.bool false)).setCell ⟨w.heap.size + 1, 1, none⟩ (.slice none 0 0)).setCell ⟨w.heap.size + 1, 2, none⟩ (.slice none 0 0)).setCell ⟨w.heap.size + 1, 3, none⟩ (.bool false)).setCell ⟨w.heap.size + 1, 4, none⟩ (.slice none 0 0)).setCell ⟨w.heap.size + 1, 5, none⟩ (.slice none 0 0)).cell? ⟨w.heap.size + 1, 1, none⟩ = some (.slice none 0 0) := (by have q := Bg (w.heap.size + 1) [.bool false, .slice none 0 0, .slice none 0 0, .bool false, .slice none 0 0, .slice none 0 0] w1 0 qs 1 (by simp); rw [Nat.zero_add] at q; exact q); have q2 : ((((((w1.setCell ⟨w.heap.size + 1, 0, none⟩ (.bool false)).setCell ⟨w.heap.size + 1, 1, none⟩ (.slice none 0 0)).setCell ⟨w.heap.size + 1, 2, none⟩ (.slice none 0 0)).setCell ⟨w.heap.size + 1, 3, none⟩ (.bool false)).setCell ⟨w.heap.size + 1, 4, none⟩ (.slice none 0 0)).setCell ⟨w.heap.size + 1, 5, none⟩ (.slice none 0 0)).cell? ⟨w.heap.size + 1, 2, none⟩ = some (.slice none 0 0) := (by have q := Bg (w.heap.size + 1) [.bool false, .slice none 0 0, .slice none 0 0, .bool false, .slice none 0 0, .slice none 0 0] w1 0 qs 2 (by simp); rw [Nat.zero_add] at q; exact q); have q3 : ((((((w1.setCell ⟨w.heap.size + 1, 0, none⟩ (.bool false)).setCell ⟨w.heap.size + 1, 1, none⟩ (.slice none 0 0)).setCell ⟨w.heap.size + 1, 2, none⟩ (.slice none 0 0)).setCell ⟨w.heap.size + 1, 3, none⟩ (.bool false)).setCell ⟨w.heap.size + 1, 4, none⟩ (.slice none 0 0)).setCell ⟨w.heap.size + 1, 5, none⟩ (.slice none 0 0)).cell? ⟨w.heap.size + 1, 3, none⟩ = some (.bool false) := (by have q := Bg (w.heap.size + 1) [.bool false, .slice none 0 0, .slice none 0 0, .bool false, .slice none 0 0, .slice none 0 0] w1 0 qs 3 (by simp); rw [Nat.zero_add] at q; exact q); have q4 : ((((((w1.setCell ⟨w.heap.size + 1, 0, none⟩ (.bool false)).setCell ⟨w.heap.size + 1, 1, none⟩ (.slice none 0 0)).setCell ⟨w.heap.size + 1, 2, none⟩ (.slice none 0 0)).setCell ⟨w.heap.size + 1, 3, none⟩ (.bool false)).setCell ⟨w.heap.size + 1, 4, none⟩ (.slice none 0 0)).setCell ⟨w.heap.size + 1, 5, none⟩ (.slice none 0 0)).cell? ⟨w.heap.size + 1, 4, none⟩ = some (.slice none 0 0) := (by have q := Bg (w.heap.size + 1) [.bool false, .slice none 0 0, .slice none 0 0, .bool false, .slice none 0 0, .slice none 0 0] w1 0 qs 4 (by simp); rw [Nat.zero_add] at q; exact q); have q5 : ((((((w1.setCell ⟨w.heap.size + 1, 0, none⟩ (.bool false)).setCell ⟨w.heap.size + 1, 1, none⟩ (.slice none 0 0)).setCell ⟨w.heap.size + 1, 2, none⟩ (.slice none 0 0)).setCell ⟨w.heap.size + 1, 3, none⟩ (.bool false)).setCell ⟨w.heap.size + 1, 4, none⟩ (.slice none 0 0)).setCell ⟨w.heap.size + 1, 5, none⟩ (.slice none 0 0)).cell? ⟨w.heap.size + 1, 5, none⟩ = some (.slice none 0 0) := (by have q := Bg (w.heap.size + 1) [.bool false, .slice none 0 0, .slice none 0 0, .bool false, .slice none 0 0, .slice none 0 0] w1 0 qs 5 (by simp); rw [Nat.zero_add] at q; exact q)
    have HQ := Lib.hid (And.intro q0 (And.intro q1 (And.intro q2 (And.intro q3 (And.intro q4 q5)))))
    clear q0 q1 q2 q3 q4 q5 qs
    go_wp2
    obtain ⟨q0, q1, q2, q3, q4, q5⟩ := HQ.out
    exact bodyPost_ret (v := .agg #[.bool false, .slice none 0 0, .slice none 0 0, .bool false, .slice none 0 0, .slice none 0 0]) (by simp [results, Tryz.results90, go_sem, q0, q1, q2, q3, q4, q5]) rfl ⟨rfl, (by (repeat (first | with_reducible exact Below.refl _ _ | with_reducible assumption | with_reducible refine Below.drew ?_ | with_reducible refine Below.setCell ?_ ?_ _ | with_reducible refine Below.alloc ?_ ?_ _)); all_goals first | (simp; done) | (simp; omega) | omega)⟩
  · have qs : ∀ i, i < 6 → (w1.cell? ⟨w.heap.size + 1, 0 + i, none⟩).isSome = true := fun i hi => by
      have : i = 0 ∨ i = 1 ∨ i = 2 ∨ i = 3 ∨ i = 4 ∨ i = 5 := by omega
      rcases this with rfl | rfl | rfl | rfl | rfl | rfl <;> go_simp
    have q0 : ((((((w1.setCell ⟨w.heap.size + 1, 0, none⟩ (.bool b0)).setCell ⟨w.heap.size + 1, 1, none⟩ (.slice a1 n1 c1)).setCell ⟨w.heap.size + 1, 2, none⟩ (.slice a2 n2 c2)).setCell ⟨w.heap.size + 1, 3, none⟩ (.bool b3)).setCell ⟨w.heap.size + 1, 4, none⟩ (.slice a4 n4 c4)).setCell ⟨w.heap.size + 1, 5, none⟩ (.slice a5 n5 c5)).cell? ⟨w.heap.size + 1, 0, none⟩ = some (.bool b0) := (by have q := Bg (w.heap.size + 1) [.bool b0, .slice a1 n1 c1, .slice a2 n2 c2, .bool b3, .slice a4 n4 c4, .slice a5 n5 c5] w1 0 qs 0 (by simp); rw [Nat.zero_add] at q; exact q); have q1 : ((((((w1.setCell ⟨w.heap.size + 1, 0, none⟩ (.bool b0)).setCell ⟨w.heap.size + 1, 1, none⟩ (.slice a1 n1 c1)).setCell ⟨w.heap.size + 1, 2, none⟩ (.slice a2 n2 c2)).setCell ⟨w.heap.size + 1, 3, none⟩ (.bool b3)).setCell ⟨w.heap.size + 1, 4, none⟩ (.slice a4 n4 c4)).setCell ⟨w.heap.size + 1, 5, none⟩ (.slice a5 n5 c5)).cell? ⟨w.heap.size + 1, 1, none⟩ = some (.slice a1 n1 c1) := (by have q := Bg (w.heap.size + 1) [.bool b0, .slice a1 n1 c1, .slice a2 n2 c2, .bool b3, .slice a4 n4 c4, .slice a5 n5 c5] w1 0 qs 1 (by simp); rw [Nat.zero_add] at q; exact q); have q2 : ((((((w1.setCell ⟨w.heap.size + 1, 0, none⟩ (.bool b0)).setCell ⟨w.heap.size + 1, 1, none⟩ (.slice a1 n1 c1)).setCell ⟨w.heap.size + 1, 2, none⟩ (.slice a2 n2 c2)).setCell ⟨w.heap.size + 1, 3, none⟩ (.bool b3)).setCell ⟨w.heap.size + 1, 4, none⟩ (.slice a4 n4 c4)).setCell ⟨w.heap.size + 1, 5, none⟩ (.slice a5 n5 c5)).cell? ⟨w.heap.size + 1, 2, none⟩ = some (.slice a2 n2 c2) := (by have q := Bg (w.heap.size + 1) [.bool b0, .slice a1 n1 c1, .slice a2 n2 c2, .bool b3, .slice a4 n4 c4, .slice a5 n5 c5] w1 0 qs 2 (by simp); rw [Nat.zero_add] at q; exact q); have q3 : ((((((w1.setCell ⟨w.heap.size + 1, 0, none⟩ (.bool b0)).setCell ⟨w.heap.size + 1, 1, none⟩ (.slice a1 n1 c1)).setCell ⟨w.heap.size + 1, 2, none⟩ (.slice a2 n2 c2)).setCell ⟨w.heap.size + 1, 3, none⟩ (.bool b3)).setCell ⟨w.heap.size + 1, 4, none⟩ (.slice a4 n4 c4)).setCell ⟨w.heap.size + 1, 5, none⟩ (.slice a5 n5 c5)).cell? ⟨w.heap.size + 1, 3, none⟩ = some (.bool b3) := (by have q := Bg (w.heap.size + 1) [.bool b0, .slice a1 n1 c1, .slice a2 n2 c2, .bool b3, .slice a4 n4 c4, .slice a5 n5 c5] w1 0 qs 3 (by simp); rw [Nat.zero_add] at q; exact q); have q4 : ((((((w1.setCell ⟨w.heap.size + 1, 0, none⟩ (.bool b0)).setCell ⟨w.heap.size + 1, 1, none⟩ (.slice a1 n1 c1)).setCell ⟨w.heap.size + 1, 2, none⟩ (.slice a2 n2 c2)).setCell ⟨w.heap.size + 1, 3, none⟩ (.bool b3)).setCell ⟨w.heap.size + 1, 4, none⟩ (.slice a4 n4 c4)).setCell ⟨w.heap.size + 1, 5, none⟩ (.slice a5 n5 c5)).cell? ⟨w.heap.size + 1, 4, none⟩ = some (.slice a4 n4 c4) := (by have q := Bg (w.heap.size + 1) [.bool b0, .slice a1 n1 c1, .slice a2 n2 c2, .bool b3, .slice a4 n4 c4, .slice a5 n5 c5] w1 0 qs 4 (by simp); rw [Nat.zero_add] at q; exact q); have q5 : ((((((w1.setCell ⟨w.heap.size + 1, 0, none⟩ (.bool b0)).setCell ⟨w.heap.size + 1, 1, none⟩ (.slice a1 n1 c1)).setCell ⟨w.heap.size + 1, 2, none⟩ (.slice a2 n2 c2)).setCell ⟨w.heap.size + 1, 3, none⟩ (.bool b3)).setCell ⟨w.heap.size + 1, 4, none⟩ (.slice a4 n4 c4)).setCell ⟨w.heap.size + 1, 5, none⟩ (.slice a5 n5 c5)).cell? ⟨w.heap.size + 1, 5, none⟩ = some (.slice a5 n5 c5) := (by have q := Bg (w.heap.size + 1) [.bool b0, .slice a1 n1 c1, .slice a2 n2 c2, .bool b3, .slice a4 n4 c4, .slice a5 n5 c5] w1 0 qs 5 (by simp); rw [Nat.zero_add] at q; exact q)
    have HQ := Lib.hid (And.intro q0 (And.intro q1 (And.intro q2 (And.intro q3 (And.intro q4 q5)))))
    clear q0 q1 q2 q3 q4 q5 qs
    go_wp2
    obtain ⟨q0, q1, q2, q3, q4, q5⟩ := HQ.out
    exact bodyPost_ret (v := .agg #[.bool b0, .slice a1 n1 c1, .slice a2 n2 c2, .bool b3, .slice a4 n4 c4, .slice a5 n5 c5]) (by simp [results, Tryz.results90, go_sem, q0, q1, q2, q3, q4, q5]) rfl ⟨rfl, (by (repeat (first | with_reducible exact Below.refl _ _ | with_reducible assumption | with_reducible refine Below.drew ?_ | with_reducible refine Below.setCell ?_ ?_ _ | with_reducible refine Below.alloc ?_ ?_ _)); all_goals first | (simp; done) | (simp; omega) | omega)⟩
theorem ACD {us:List Value} (h:us.length=6):∃ u0 u1 u2 u3 u4 u5,us=[u0,u1,u2,u3,u4,u5]:=
 match us,h with
 | [_,_,_,_,_,_],_=>⟨_,_,_,_,_,_,rfl⟩
theorem Qx (p : Pq) (us : List Value) (mb : Nat → List Nat) (F : Nat → Prop) (w : World) (h : ArgsAt F w Am.mu mb ((Am.args p).flatMap DA.cells) us) (w1 : World) (hb : Below w.heap.size w w1) :
    Calls Tryz.prog 48 #[.agg us.toArray] w1 fun e w' => e = .returned (.bool p.good) ∧ Below w1.heap.size w1 w' := by
  have hrow : ArgsAt (fun b => b < w.heap.size) w1 [] mb ((Bs.args p).flatMap DA.cells) us := by
    refine ⟨h.len, fun b hb' => Nat.lt_of_lt_of_le hb' hb.size, fun q d u hd hu _ => ?_, fun j q hj => by simp at hj, fun i j b _ hi => by simp at hi, fun j b hj => by simp at hj, h.st.keep hb.size (fun b hm => hb.block b (h.st.1 b hm)), fun j b hj => by simp at hj⟩
    by_cases hq : q ∈ Am.mu
    · obtain ⟨j, hj, hjq⟩ := List.getElem_of_mem hq
      obtain ⟨e, ts, rows, u', e1, e2, f1, _⟩ := h.own j q (by rw [← hjq]; exact List.getElem?_eq_getElem hj)
      have e1' : d = .sl e ts rows := Option.some.inj (hd.symm.trans e1)
      have e2' : u = u' := Option.some.inj (hu.symm.trans e2)
      subst e1' e2'
      exact (RdS.of_fp _ _ _ _ (f1.below hb)).mono (fun b hb' => Fp.lt _ _ _ _ f1 b hb')
    · have := h.rd q d u hd hu hq
      cases d with
      | im v => exact this
      | sl e ts rows =>
        have hc : q = 0 ∨ q = 3 := by
          have hlt := (List.getElem?_eq_some_iff.1 hd).1
          have h6 : ((Am.args p).flatMap DA.cells).length = 6 := rfl
          have : ((Bs.args p).flatMap DA.cells).length = 6 := rfl
          have hm : Am.mu = [1, 2, 4, 5] := rfl
          rw [hm] at hq
          simp only [List.mem_cons, List.not_mem_nil, or_false, not_or] at hq
          omega
        rcases hc with rfl | rfl <;> cases hd
      | ro d => exact absurd hd (by
          have hlt := (List.getElem?_eq_some_iff.1 hd).1
          intro hd
          have : ((Bs.args p).flatMap DA.cells).all (fun d => match d with | .ro _ => false | _ => true) = true := rfl
          have := List.all_eq_true.1 this _ (List.mem_of_getElem? hd)
          simp at this)
  have hv : A3 (Bs.args p) us = [.agg us.toArray] := FQ (cells := (Bs.args p).flatMap DA.cells) h.len
  have := OB.calls p trivial _ w1 us mb hrow
  rw [hv] at this
  refine this.mono ?_
  rintro e w' ⟨rs, bs, rfl, hp⟩
  have hr := hp.res
  match rs, hr with
  | [u], hr =>
    obtain ⟨rfl, _⟩ := hr
    exact ⟨rfl, hp.os, hp.tape, hp.output, hp.size, fun k hk => hp.keep k hk fun j hj => absurd hj (Nat.not_lt_zero j)⟩
set_option maxHeartbeats 400000 in
theorem S6:Am.Ok Tryz.prog 90 where
 enter:=⟨_,Tryz.func90,by decide,rfl⟩
 small:=λ _=>Nat.le_of_ble_eq_true rfl
 calls:=by
  intro p _ F w us mb h
  have hg:=Qx p us mb F w h
  have hv:A3 (Am.args p) us=[.agg us.toArray]:=FQ (cells:=(Am.args p).flatMap DA.cells) h.len
  rw [hv]
  obtain ⟨u0,u1,u2,u3,u4,u5,rfl⟩:∃ u0 u1 u2 u3 u4 u5,us=[u0,u1,u2,u3,u4,u5]:=ACD h.len
  have r0:u0=.bool (decide (p.x.z<0)):=h.rd 0 _ _ rfl rfl (by decide)
  have r3:u3=.bool (decide (p.y.z<0)):=h.rd 3 _ _ rfl rfl (by decide)
  obtain ⟨_,_,_,_,e1,e2,f1,m1⟩:=h.own 0 1 rfl
  cases e1;cases e2
  obtain ⟨_,_,_,_,e1,e2,f2,m2⟩:=h.own 1 2 rfl
  cases e1;cases e2
  obtain ⟨_,_,_,_,e1,e2,f4,m4⟩:=h.own 2 4 rfl
  cases e1;cases e2
  obtain ⟨_,_,_,_,e1,e2,f5,m5⟩:=h.own 3 5 rfl
  cases e1;cases e2
  have dis:=h.dis
  have hl:Am.mu.length=4:=rfl
  obtain ⟨_,a1,c1,hd1,rfl,-⟩:=Rd.sl_inv (Fp.rd _ _ _ _ f1)
  cases hd1
  obtain ⟨_,a2,c2,hd2,rfl,-⟩:=Rd.sl_inv (Fp.rd _ _ _ _ f2)
  cases hd2
  obtain ⟨_,a4,c4,hd4,rfl,-⟩:=Rd.sl_inv (Fp.rd _ _ _ _ f4)
  cases hd4
  obtain ⟨_,a5,c5,hd5,rfl,-⟩:=Rd.sl_inv (Fp.rd _ _ _ _ f5)
  cases hd5
  subst r0 r3
  refine (Vn _ _ a1 a2 a4 a5 _ _ _ _ c1 c2 c4 c5 p.good w hg).mono ?_
  rintro e w' ⟨rfl,hb⟩
  cases hgd:p.good with
  | true=>
   have hE:orQ p=p:=by unfold orQ;rw [hgd];rfl
   refine ⟨[.bool (decide (p.x.z<0)),.slice a1 _ c1,.slice a2 _ c2,.bool (decide (p.y.z<0)),.slice a4 _ c4,.slice a5 _ c5],mb 0++(mb 1++(mb 2++(mb 3++[]))),rfl,⟨?_,?_,?_,?_,hb.os,hb.tape,hb.output,hb.size,λ b hb' _=>hb.block b hb'⟩⟩
   ·show A6 F w w' _ (Am.res p).cells _ _
    simp only [Am,hE]
    exact ⟨rfl,_,_,rfl,f1.below hb,_,_,rfl,f2.below hb,rfl,_,_,rfl,f4.below hb,_,_,rfl,f5.below hb,rfl⟩
   ·rw [List.append_nil]
    rw [List.nodup_append,List.nodup_append,List.nodup_append]
    refine ⟨m1,⟨m2,⟨m4,m5,λ x hx y hy e=>?_⟩,λ x hx y hy e=>?_⟩,λ x hx y hy e=>?_⟩
    ·subst e;exact dis 2 3 x (by decide) (by decide) (by decide) hx hy
    ·subst e
     rw [List.mem_append] at hy
     rcases hy with hy|hy
     ·exact dis 1 2 x (by decide) (by decide) (by decide) hx hy
     ·exact dis 1 3 x (by decide) (by decide) (by decide) hx hy
    ·subst e
     rw [List.mem_append,List.mem_append] at hy
     rcases hy with hy|hy|hy
     ·exact dis 0 1 x (by decide) (by decide) (by decide) hx hy
     ·exact dis 0 2 x (by decide) (by decide) (by decide) hx hy
     ·exact dis 0 3 x (by decide) (by decide) (by decide) hx hy
   ·intro b hb'
    simp only [List.mem_append,List.not_mem_nil,or_false] at hb'
    rcases hb' with hb' | hb' | hb' | hb'
    ·exact .inr ⟨0,by decide,by decide,hb'⟩
    ·exact .inr ⟨1,by decide,by decide,hb'⟩
    ·exact .inr ⟨2,by decide,by decide,hb'⟩
    ·exact .inr ⟨3,by decide,by decide,hb'⟩
   ·intro j q e ts rows u hj hq
    exfalso
    have hlt:=(List.getElem?_eq_some_iff.1 hq).1
    rw [hl] at hlt
    have:j=0∨j=1∨j=2∨j=3:=by omega
    rcases this with rfl|rfl|rfl|rfl <;> exact hj (by decide)
  | false=>
   have hE:orQ p=⟨Fr.none,Fr.none⟩:=by unfold orQ;rw [hgd];rfl
   have hL:L (Fr.none).z.natAbs=[]:=GP
   have hL2:L (Fr.none).d=[]:=GP
   refine ⟨[.bool false,.slice none 0 0,.slice none 0 0,.bool false,.slice none 0 0,.slice none 0 0],[]++([]++([]++([]++[]))),rfl,⟨?_,by simp,by simp,?_,hb.os,hb.tape,hb.output,hb.size,λ b hb' _=>hb.block b hb'⟩⟩
   ·show A6 F w w' _ (Am.res p).cells _ _
    simp only [Am,hE,hL,hL2]
    have hn:∀ e:Nat,Fp w' (.sl e [.int]) (.sl []) (.slice none 0 0) []:=λ e=>by
     simp only [Fp]
     exact ⟨[],[],World.ownsRow_nil _ _ _ _,rfl,rfl,by simp,by simp,by simp [Value.ownBlock]⟩
    exact ⟨rfl,_,_,rfl,hn _,_,_,rfl,hn _,rfl,_,_,rfl,hn _,_,_,rfl,hn _,rfl⟩
   ·intro j q e ts rows u hj hq
    exfalso
    have hlt:=(List.getElem?_eq_some_iff.1 hq).1
    rw [hl] at hlt
    have:j=0∨j=1∨j=2∨j=3:=by omega
    rcases this with rfl|rfl|rfl|rfl <;> exact hj (by decide)
def DP:Con:={ ι:=Pq×Int×Int,pre:=λ i=>(-9223372036854775808<=i.2.1/\i.2.1<=9223372036854775807)/\-9223372036854775808<=i.2.2/\i.2.2<=9223372036854775807,args:=λ i=>[dP i.1,DA.agg [cI i.2.1,cI i.2.2]],res:=λ i=>⟨false,[some 6],[rcB (decide ((mvQ i.1 (i.2.1,i.2.2)).x.z<0)),.own 3 [.int] (L (mvQ i.1 (i.2.1,i.2.2)).x.z.natAbs),.own 3 [.int] (L (mvQ i.1 (i.2.1,i.2.2)).x.d),rcB (decide ((mvQ i.1 (i.2.1,i.2.2)).y.z<0)),.own 3 [.int] (L (mvQ i.1 (i.2.1,i.2.2)).y.z.natAbs),.own 3 [.int] (L (mvQ i.1 (i.2.1,i.2.2)).y.d)]⟩ }
theorem S7:DP.Ok Tryz.prog 47:=by
 refine fok (X:=⟨tt,[(46,Ae),(63,Br),(90,Am)],[],19,[]⟩) mixed AN (CTok.cons Ju (CTok.cons N7 (CTok.cons S6 (CTok.nil _)))) Tryz.func47 (λ _=>[]) ?_
 rintro ⟨p,x,y⟩ hpre
 have hpre:(-9223372036854775808<=x/\x<=9223372036854775807)/\-9223372036854775808<=y/\y<=9223372036854775807:=hpre
 refine AM (q:=∃ i1:Int,[DA.one (cI x)]=Ae.args i1/\Ae.pre i1/\(∃ i2:Fr×Fr,let Z1:=Fr.add i2.1 i2.2;[dF p.x,dF (Fr.ofInt i1)]=Br.args i2/\Br.pre i2/\(∃ i3:Int,[DA.one (cI y)]=Ae.args i3/\Ae.pre i3/\(∃ i4:Fr×Fr,let Z2:=Fr.add i4.1 i4.2;[dF p.y,dF (Fr.ofInt i3)]=Br.args i4/\Br.pre i4/\(∃ i5:Pq,[DA.agg [cB (decide (Z1.z<0)),cS (L Z1.z.natAbs),cS (L Z1.d),cB (decide (Z2.z<0)),cS (L Z2.z.natAbs),cS (L Z2.d)]]=Am.args i5/\Am.pre i5/\((eqD ((orQ i5).x) ((mvQ p (x,y)).x) ((eqC ((orQ i5).y) ((mvQ p (x,y)).y)))))))))) (by kernel_rfl) ?_
 conv=>zeta
 refine ⟨x,by
  rfl,by
  show -9223372036854775808<=x/\x<=9223372036854775807
  first|trivial|exact hpre.1|exact hpre.2,?_⟩
 refine ⟨(p.x,(Fr.ofInt x)),by
  rfl,by
  first|trivial|exact hpre.1|exact hpre.2,?_⟩
 refine ⟨y,by
  rfl,by
  show -9223372036854775808<=y/\y<=9223372036854775807
  first|trivial|exact hpre.1|exact hpre.2,?_⟩
 refine ⟨(p.y,(Fr.ofInt y)),by
  rfl,by
  first|trivial|exact hpre.1|exact hpre.2,?_⟩
 refine ⟨(⟨Fr.add p.x (Fr.ofInt x),Fr.add p.y (Fr.ofInt y)⟩:Pq),by
  rfl,by
  first|trivial|exact hpre.1|exact hpre.2,?_⟩
 refine Xt ?_ (MG ?_)
 ·rfl
 rfl
def KQ (r:RatD) (s:Fr):Fr:=if okR r=true then Fr.add (frR r) s else Fr.none
theorem OC {r:RatD} {s:Fr} (h:okR r=true):KQ r s=Fr.add (frR r) s:=by unfold KQ;rw [if_pos h]
theorem Qy {r:RatD} {s:Fr} (h:okR r=false):KQ r s=Fr.none:=by unfold KQ;rw [if_neg (by rw [h];simp)]
def mvR (p:PtD) (v:V2):Pq:=orQ ⟨KQ p.x (Fr.ofInt v.1),KQ p.y (Fr.ofInt v.2)⟩
theorem Kv {p:PtD} (h:okP p=true) (v:V2):mvR p v=mvQ (pqR p) v:=by
 have h2:=ML h
 unfold mvR mvQ
 rw [OC h2.1,OC h2.2];rfl
theorem X2 {p:Pq} (h:p.good=false):orQ p=⟨Fr.none,Fr.none⟩:=by unfold orQ;rw [if_neg (by rw [h];simp)]
theorem AAv {p:PtD} (h:okP p=false) (v:V2):(mvR p v).good=false:=by
 have:(⟨KQ p.x (Fr.ofInt v.1),KQ p.y (Fr.ofInt v.2)⟩:Pq).good=false:=by
  unfold okP at h
  rw [Bool.and_eq_false_iff] at h
  unfold Pq.good
  rcases h with h|h
  ·rw [Qy h];rfl
  ·rw [Qy h];exact Bool.and_false _
 unfold mvR
 rw [X2 this];rfl
def IA (p:PtD) (l:List V2):List (List Dat):=l.map λ v=>Qs (mvR p v)
def IB (s:Scn) (h:Int) (p:PtD):List (List Dat):=if (AB s h).all (λ v=>(mvR p v).good)=true then IA p (AB s h) else []
theorem Ir (p:PtD) (l:List V2):(IA p l).length=l.length:=by simp [IA]
theorem Vo {p:PtD} {l:List V2} {k:Nat} (hk:k<l.length):IA p (l.take k)++[Qs (mvR p (l.getD k (0,0)))]=IA p (l.take (k+1)):=by
 rw [Bp l (0,0) k hk];simp [IA]
theorem UT {s:Scn} {h:Int} {p:PtD} (e:AB s h=[]):IB s h p=[]:=by unfold IB IA;rw [e];simp
theorem UU {s:Scn} {h:Int} {p:PtD} {k:Nat} (hk:k<(AB s h).length) (hb:(mvR p ((AB s h).getD k (0,0))).good=false):IB s h p=[]:=by
 unfold IB
 rw [if_neg]
 intro hall
 have:=List.all_eq_true.1 hall ((AB s h).getD k (0,0)) (by simp [List.getD,hk])
 rw [hb] at this;cases this
theorem AAw {s:Scn} {h:Int} {p:PtD} (hb:okP p=false):IB s h p=[]:=by
 by_cases e:AB s h=[]
 ·exact UT e
 ·exact UU (k:=0) (List.length_pos_iff.2 e) (AAv hb _)
theorem ZW {s:Scn} {h:Int} {p:PtD} (hg:∀ j,j<(AB s h).length->(mvR p ((AB s h).getD j (0,0))).good=true):IB s h p=IA p (AB s h):=by
 unfold IB
 rw [if_pos]
 rw [List.all_eq_true]
 intro x hx
 obtain ⟨j,hj,rfl⟩:=List.getElem_of_mem hx
 have:=hg j hj
 simpa [List.getD,hj] using this
theorem X3 {l:List V2} (h:AA l=[]):l=[]:=by
 have:=AC l
 rw [h] at this
 exact List.eq_nil_of_length_eq_zero this.symm
def Dj:Con:={ ι:=Scn×Int×PtD,pre:=λ i=>i.2.2.has,args:=λ i=>[DA.agg [cI i.1.low.1,cI i.1.low.2,cI i.1.high.1,cI i.1.high.2,DC.sl 24 [.int,.int] (AA i.1.robot),DC.sl 25 [.sl 24 [.int,.int]] (AI i.1.obst),DC.sl 24 [.int,.int] (AA i.1.tables)],.one (cI i.2.1),DA.agg [cB i.2.2.x.neg,cS i.2.2.x.num,cS i.2.2.x.den,cB i.2.2.y.neg,cS i.2.2.y.num,cS i.2.2.y.den]],res:=λ i=>⟨false,[none],[.own 42 [.bool,.sl 3 [.int],.sl 3 [.int],.bool,.sl 3 [.int],.sl 3 [.int]] (IB i.1 i.2.1 i.2.2)]⟩ }
theorem Qz:Dj.Ok Tryz.prog 14:=by
 refine fok (X:=⟨tt,[(9,As),(43,BG),(47,DP),(48,Bs)],[],42,[]⟩) mixed AN (CTok.cons EW (CTok.cons Ip (CTok.cons S7 (CTok.cons OB (CTok.nil _))))) Tryz.func14 (λ (i:Scn×Int×PtD)=>let Z1:=AB i.1 i.2.1;[(6,.mk 8 (Nat) (λ x1=>{ tm:=[(5,tP 1 0),(24,tX 6),(25,tI (nI ((AA Z1).length))),(26,tI (nI x1)),(8,tX 7)],en:=[(1,.box [kB i.2.2.x.neg,.ext 2,.ext 3,kB i.2.2.y.neg,.ext 4,.ext 5]),(2,eV i.2.2.x.num),(3,eV i.2.2.x.den),(4,eV i.2.2.y.num),(5,eV i.2.2.y.den),(6,.own 24 [.int,.int] (AA Z1)),(7,.own 42 z41 (IA i.2.2 (Z1.take x1)))] }) (λ x1=>x1<=Z1.length/\∀ j,j<x1->(mvR i.2.2 (Z1.getD j (0,0))).good=true) (λ x1=>Z1.length-x1) (λ _=>[]))]) ?_
 rintro ⟨s,h,p⟩ hpre
 have hpre:p.has:=hpre
 refine AM (q:=let Z6:=List Dat;let Z3:=(([]:List Z6)=IB s h p);let Z2:=AB s h;let Z4:=AA Z2;let Z8:=nI (Z4.length);∃ i1:Scn×Int,let Z7:=AB i1.1 i1.2;[DA.agg [cI s.low.1,cI s.low.2,cI s.high.1,cI s.high.2,DC.sl 24 [.int,.int] (AA s.robot),DC.sl 25 [.sl 24 [.int,.int]] (AI s.obst),DC.sl 24 [.int,.int] (AA s.tables)],DA.one (cI h)]=As.args i1/\As.pre i1/\(∀ b2:Bool,(b2=true->AA Z7=[])->(ifB ((!b2)) (∃ i3:(List Z6),[DA.one (DC.sl 42 z41 ([[Dat.bool p.x.neg,Dat.sl p.x.num,Dat.sl p.x.den,Dat.bool p.y.neg,Dat.sl p.y.num,Dat.sl p.y.den]]:List Z6))]=BG.args i3/\BG.pre i3/\(ifB ((!(!(i3.any (λ r=>!(okP (DO r))))))) Z3 ((∃ x1:Nat,(x1<=Z2.length/\∀ j,j<x1->(mvR p (Z2.getD j (0,0))).good=true)/\((vI (nI ((AA Z7).length))=vI Z8)/\(vI (0:Int)=vI (nI x1))/\(rf (vB p.x.neg))/\(rf (vB p.y.neg))/\(rf (p.x.num))/\(rf (p.x.den))/\(rf (p.y.num))/\(rf (p.y.den))/\(AA Z7=Z4)/\(([]:List Z6)=(IA p (Z2.take x1)))))/\∀ x1:Nat,let Z5:=IA p (Z2.take x1);(x1<=Z2.length/\∀ j,j<x1->(mvR p (Z2.getD j (0,0))).good=true)->(ifB ((decide ((nI x1)<Z8))) ((0<=(nI x1)/\(nI x1)<(Z4.length:Int))/\((x1<Z4.length)/\(∃ i4:Pq×Int×Int,let Z1:=mvQ i4.1 (i4.2.1,i4.2.2);[DA.agg [cB p.x.neg,cS p.x.num,cS p.x.den,cB p.y.neg,cS p.y.num,cS p.y.den],DA.agg [cI ((((Z4.getD x1 []).getD 0 (.int 0))).n),cI ((((Z4.getD x1 []).getD 1 (.int 0))).n)]]=DP.args i4/\DP.pre i4/\(∃ i5:Pq,[dP (Z1)]=Bs.args i5/\Bs.pre i5/\(ifB ((!i5.good)) Z3 ((Z5.length+([[Dat.bool (decide (Z1.x.z<0)),Dat.sl (L Z1.x.z.natAbs),Dat.sl (L Z1.x.d),Dat.bool (decide (Z1.y.z<0)),Dat.sl (L Z1.y.z.natAbs),Dat.sl (L Z1.y.d)]]:List Z6).length<=1073741824)/\(∃ y2:Nat,(y2<=Z2.length/\∀ j,j<y2->(mvR p (Z2.getD j (0,0))).good=true)/\(Z2.length-y2<Z2.length-x1)/\((rf (vI Z8))/\(vI (wR ((nI x1)+(1:Int)))=vI (nI y2))/\(rf (vB p.x.neg))/\(rf (vB p.y.neg))/\(rf (p.x.num))/\(rf (p.x.den))/\(rf (p.y.num))/\(rf (p.y.den))/\(rf Z4)/\((Z5++([[Dat.bool (decide (Z1.x.z<0)),Dat.sl (L Z1.x.z.natAbs),Dat.sl (L Z1.x.d),Dat.bool (decide (Z1.y.z<0)),Dat.sl (L Z1.y.z.natAbs),Dat.sl (L Z1.y.d)]]:List Z6))=(IA p (Z2.take y2))))))))))) ((Z5=IB s h p)))))) Z3))) (by kernel_rfl) ?_
 conv=>zeta
 delta ifB vB vI wR nI
 have hrv:=KP s h
 have hvl:=AC (AB s h)
 refine ⟨(s,h),by
  rfl,by
  first|trivial|exact hpre,?_⟩
 intro b2 q4
 refine And.symm ⟨λ c5=>?_,λ c5=>?_⟩
 ·try simp only [nrm] at c5
  have hE:=UT (p:=p) (X3 (q4 c5))
  rw [hE]
 try simp only [nrm] at c5
 refine ⟨([[Dat.bool p.x.neg,Dat.sl p.x.num,Dat.sl p.x.den,Dat.bool p.y.neg,Dat.sl p.y.num,Dat.sl p.y.den]]:List (List Dat)),by
  rfl,by
  try dsimp only [BG]
  exact ⟨by show 1<=_;decide,UQ hpre⟩,?_⟩
 refine ⟨λ c9=>?_,λ c9=>?_⟩
 ·try simp only [nrm] at c9
  have c9:okP p=false:=by have h:=(ZT p).symm.trans c9;simpa using h
  have hE:=AAw (s:=s) (h:=h) c9
  rw [hE]
 try simp only [nrm] at c9
 have c9:okP p=true:=by have h:=(ZT p).symm.trans c9;simpa using h
 obtain ⟨e1,e2,e3,e4,e5,e6,e7,e8⟩:=Xx hpre c9
 refine ⟨⟨0,by
  exact ⟨Nat.zero_le _,λ j hj=>absurd hj (Nat.not_lt_zero j)⟩,?_⟩,?_⟩
 ·refine ⟨rfl,?_,rfl,rfl,rfl,rfl,rfl,rfl,rfl,?_⟩
  ·first|rfl|(simp;done)
  first|rfl|(simp;done)
 intro (k:Nat) hki11
 have hki11:k<=(AB s h).length/\∀ j,j<k->(mvR p ((AB s h).getD j (0,0))).good=true:=hki11
 refine And.symm ⟨λ c23=>?_,λ c23=>?_⟩
 ·try simp only [nrm] at c23
  rw [ZW (λ j hj=>hki11.2 j (by omega)),show k=(AB s h).length by omega,List.take_length]
 try simp only [nrm] at c23
 refine ao (by first|omega|(simp only [Ir,List.length_take,List.length_cons,List.length_nil];omega)) λ o24=>?_
 refine ao (by first|omega|(simp only [Ir,List.length_take,List.length_cons,List.length_nil];omega)) λ o25=>?_
 refine ⟨(pqR p,((AB s h).getD k (0,0)).1,((AB s h).getD k (0,0)).2),by
  rw [e1,e2,e3,e4,e5,e6,Ai (by omega),Aj (by omega)];rfl,by
  try dsimp only [DP]
  exact Oz hrv.1 (by omega),?_⟩
 refine ⟨(mvQ (pqR p) ((((AB s h).getD k (0,0)).1),(((AB s h).getD k (0,0)).2))),by
  rfl,by
  first|trivial|exact hpre,?_⟩
 refine ⟨λ c32=>?_,λ c32=>?_⟩
 ·try simp only [nrm] at c32
  have hE:=UU (s:=s) (h:=h) (p:=p) (k:=k) (by omega) (by rw [Kv c9];exact c32)
  rw [hE]
 try simp only [nrm] at c32
 refine ao (a:=(IA p ((AB s h).take k)).length+([[Dat.bool (decide ((mvQ (pqR p) ((((AB s h).getD k (0,0)).1),(((AB s h).getD k (0,0)).2))).x.z<0)),Dat.sl (L (mvQ (pqR p) ((((AB s h).getD k (0,0)).1),(((AB s h).getD k (0,0)).2))).x.z.natAbs),Dat.sl (L (mvQ (pqR p) ((((AB s h).getD k (0,0)).1),(((AB s h).getD k (0,0)).2))).x.d),Dat.bool (decide ((mvQ (pqR p) ((((AB s h).getD k (0,0)).1),(((AB s h).getD k (0,0)).2))).y.z<0)),Dat.sl (L (mvQ (pqR p) ((((AB s h).getD k (0,0)).1),(((AB s h).getD k (0,0)).2))).y.z.natAbs),Dat.sl (L (mvQ (pqR p) ((((AB s h).getD k (0,0)).1),(((AB s h).getD k (0,0)).2))).y.d)]]:List (List Dat)).length<=1073741824) (by first|omega|(simp only [Ir,List.length_take,List.length_cons,List.length_nil];omega)) λ o34=>?_
 refine ⟨k+1,by
  exact ⟨by omega,Kq hki11.2 (by rw [Kv c9];exact c32)⟩,by
  first|omega|(simp;omega),?_⟩
 refine ⟨rfl,?_,rfl,rfl,rfl,rfl,rfl,rfl,rfl,?_⟩
 ·first|rfl|exact AR (AE (by omega) (by omega))
 show ((IA p ((AB s h).take k))++([[Dat.bool (decide ((mvQ (pqR p) ((((AB s h).getD k (0,0)).1),(((AB s h).getD k (0,0)).2))).x.z<0)),Dat.sl (L (mvQ (pqR p) ((((AB s h).getD k (0,0)).1),(((AB s h).getD k (0,0)).2))).x.z.natAbs),Dat.sl (L (mvQ (pqR p) ((((AB s h).getD k (0,0)).1),(((AB s h).getD k (0,0)).2))).x.d),Dat.bool (decide ((mvQ (pqR p) ((((AB s h).getD k (0,0)).1),(((AB s h).getD k (0,0)).2))).y.z<0)),Dat.sl (L (mvQ (pqR p) ((((AB s h).getD k (0,0)).1),(((AB s h).getD k (0,0)).2))).y.z.natAbs),Dat.sl (L (mvQ (pqR p) ((((AB s h).getD k (0,0)).1),(((AB s h).getD k (0,0)).2))).y.d)]]:List (List Dat)))=(IA p ((AB s h).take (k+1)))
 rw [← Vo (show k<(AB s h).length by omega),Kv c9];rfl
end Go.Proofs.YtkffpiaagjcmpaaGreat
namespace Go.Proofs.YtkffpiaagjcmpaaGreat
set_option linter.unusedVariables false
set_option linter.unusedSimpArgs false
open Go.RowKit Go.Sort Go.Shelf
theorem GV:∀ (l:List V2) (j:Nat),j<l.length*2->(l.map AY).flatten[j]?=some ((AY (l.getD (j/2) (0,0)))[j%2]!)
 | [],j,h=>by simp at h
 | a::l,0,_=>by simp [AY]
 | a::l,1,_=>by simp [AY]
 | a::l,j+2,h=>by
  have ih:=GV l j (by simp only [List.length_cons] at h;omega)
  have e:(j+2)/2=j/2+1:=by omega
  have e2:(j+2)%2=j%2:=by omega
  rw [e,e2,List.getD_cons_succ,← ih]
  simp [AY]
theorem MP (l:List V2):(l.map AY).flatten.length=l.length*2:=by
 induction l with
 | nil=>rfl
 | cons a l ih=>simp only [List.map_cons,List.flatten_cons,List.length_append,ih,List.length_cons];simp [AY];omega
theorem O4 {w:World} {e:Nat} {l:List V2} {v:Value} {bs:List Nat} (h:Fp w (.sl e [.int,.int]) (.sl (AA l)) v bs) :
  (v=.slice none 0 0/\l=[]/\bs=[])∨∃ g cap cur,v=.slice (some ⟨g,0,none⟩) l.length cap/\w.heap[g]?=some (.cells cur e (0,0))/\l.length<=cap/\cap<=maxLen/\cur.size=cap*2/\cur.toList.take (l.length*2)=(l.map AY).flatten/\bs=[g]:=by
 simp only [Fp] at h
 obtain ⟨rows,bss,⟨h0,h1⟩,h2,h3,h4,h5,rfl⟩:=h
 rw [AC] at h2 h3 h5
 have hr:rows=l.map AY/\bss.flatten=[]:=by
  have key:∀ k,k<l.length->rows.getD k []=AY (l.getD k (0,0))/\bss.getD k []=[]:=by
   intro k hk
   have:=h5 k hk
   rw [Ii hk] at this
   unfold Hd at this
   generalize rows.getD k []=r at *
   generalize bss.getD k []=z at *
   match r,this with
   | [],t=>exact absurd t (by simp [FpRow])
   | [_],t=>exact absurd t (by simp [FpRow])
   | [x,y],t=>
    simp only [FpRow,Fp] at t
    obtain ⟨b1,b2,rfl,⟨rfl,rfl⟩,b3,b4,rfl,⟨rfl,rfl⟩,rfl⟩:=t
    exact ⟨rfl,rfl⟩
   | _::_::_::_,t=>exact absurd t (by simp [FpRow])
  constructor
  ·apply List.ext_getElem
   ·rw [h2,List.length_map]
   ·intro k hk hk2
    have:=(key k (by omega)).1
    simp only [List.getD,hk,List.getElem?_eq_getElem,Option.getD_some] at this
    rw [this]
    simp [List.getElem_map,List.getD,show k<l.length by omega]
  ·rw [List.flatten_eq_nil_iff]
   intro x hx
   obtain ⟨k,hk,rfl⟩:=List.getElem_of_mem hx
   have:=(key k (by omega)).2
   simpa [List.getD,hk] using this
 obtain ⟨rfl,hb⟩:=hr
 rw [List.length_map] at h1
 rcases h1 with ⟨rfl,hn⟩|⟨g,cap,cur,rfl,_,q1,q2,q3,q4,q5⟩
 ·exact .inl ⟨rfl,List.eq_nil_of_length_eq_zero hn,by rw [hb];rfl⟩
 ·exact .inr ⟨g,cap,cur,rfl,q1,q2,q3,q4,q5,by rw [hb];rfl⟩
theorem X4 {w:World} {e:Nat} {l:List V2} {g cap:Nat} {cur:Array Value} (h1:w.heap[g]?=some (.cells cur e (0,0))) (h2:l.length<=cap) (h3:cap<=maxLen) (h4:cur.size=cap*2) (h5:cur.toList.take (l.length*2)=(l.map AY).flatten) :
  Fp w (.sl e [.int,.int]) (.sl (AA l)) (.slice (some ⟨g,0,none⟩) l.length cap) [g]:=by
 simp only [Fp]
 refine ⟨l.map AY,l.map λ _=>[],⟨?_,.inr ⟨g,cap,cur,by rw [List.length_map],Nat.zero_le _,h1,by rw [List.length_map];exact h2,h3,h4,by rw [List.length_map];exact h5⟩⟩,by simp [AA],by simp [AA],?_,?_,?_⟩
 ·rw [MP,List.length_map];rfl
 ·intro r hr
  simp only [List.mem_map] at hr
  obtain ⟨x,_,rfl⟩:=hr
  rfl
 ·intro k hk
  rw [AC] at hk
  rw [Ii hk]
  simp [List.getD,hk,Hd,AY,FpRow,Fp]
 ·simp [Value.ownBlock]
theorem FD {w:World} {g e:Nat} {cur:Array Value} {fr:Nat×Nat} (h:w.heap[g]?=some (.cells cur e fr)) (j:Nat):w.cell? ⟨g,j,none⟩=cur[j]?:=by
 simp [World.cell?,h]
theorem Q0 {w:World} {e:Nat} {l:List V2} {g cap:Nat} {cur:Array Value} (h1:w.heap[g]?=some (.cells cur e (0,0))) (h2:l.length<=cap) (h4:cur.size=cap*2) (h5:cur.toList.take (l.length*2)=(l.map AY).flatten):HoldsK AY 2 w g 0 l.toArray:=by
 intro j hj
 have hj2:j<l.length*2:=by simpa using hj
 refine ⟨?_,?_⟩
 ·rw [FD h1,Nat.zero_add,get_flatK _ _ _ _ (by simpa using hj2)]
  have:=GV l j hj2
  rw [← h5,List.getElem?_take,if_pos hj2] at this
  rw [Array.getElem?_toList] at this
  rw [this]
  congr 2
  simp [List.getD,show j/2<l.length by omega]
 ·simp [World.frozen?,h1]
theorem X5 {w:World} {e:Nat} {l:List V2} {g cap:Nat} {cur:Array Value} {fr:Nat×Nat} (h1:w.heap[g]?=some (.cells cur e fr)) (h2:l.length<=cap) (h4:cur.size=cap*2) (hH:HoldsK AY 2 w g 0 l.toArray):cur.toList.take (l.length*2)=(l.map AY).flatten:=by
 apply List.ext_getElem?
 intro j
 by_cases hj:j<l.length*2
 ·rw [GV l j hj,List.getElem?_take,if_pos hj,Array.getElem?_toList]
  have:=(hH j (by simpa using hj)).1
  rw [FD h1,Nat.zero_add,get_flatK _ _ _ _ (by simpa using hj)] at this
  rw [this]
  congr 2
  simp [List.getD,show j/2<l.length by omega]
 ·rw [List.getElem?_eq_none (by simp only [List.length_take];omega),List.getElem?_eq_none (by rw [MP];omega)]
theorem OD {α:Type} [Inhabited α] (enc:α->List Value) (w:World) (g n:Nat) (D:Array α) (os:Array Obj) {cur:Array Value} {e:Nat} {fr:Nat×Nat} (h1:w.heap[g]?=some (.cells cur e fr)) :
  (∃ cur',(grow (putRowK enc 2 (Sort.ahead w n) g 0 D) os).heap[g]?=some (.cells cur' e fr)/\cur'.size=cur.size)/\(∀ b,b<w.heap.size->b≠g->(grow (putRowK enc 2 (Sort.ahead w n) g 0 D) os).heap[b]?=w.heap[b]?)/\w.heap.size<=(grow (putRowK enc 2 (Sort.ahead w n) g 0 D) os).heap.size:=by
 have hs:(putRowK enc 2 (Sort.ahead w n) g 0 D).heap.size=w.heap.size:=by simp [putRowK,putRow,mapBlock,Sort.ahead]
 have hg:g<w.heap.size:=(Array.getElem?_eq_some_iff.1 h1).1
 have hold:∀ b,b<w.heap.size->(grow (putRowK enc 2 (Sort.ahead w n) g 0 D) os).heap[b]?=(w.heap.modify g (onCells (putCells id 0 (flatK enc 2 D))))[b]?:=by
  intro b hb
  rw [Sort.heap_grow_old _ _ (by rw [hs];exact hb)]
  rfl
 refine ⟨⟨putCells id 0 (flatK enc 2 D) cur,?_,?_⟩,?_,?_⟩
 ·rw [hold g hg,Array.getElem?_modify,if_pos rfl,h1];rfl
 ·simp [putCells]
 ·intro b hb hne
  rw [hold b hb,Array.getElem?_modify,if_neg (λ e=>hne e.symm)]
 ·rw [Sort.size_grow,hs];omega
abbrev VV:Type:={ v:V2 // AD v=true }
instance:Inhabited VV:=⟨⟨(0,0),by decide⟩⟩
def KR (x:VV):List Value:=AY x.1
def cfV (x y:VV):Int:=if x.1.1=y.1.1 then x.1.2-y.1.2 else x.1.1-y.1.1
def Fy:(l:List V2)->l.all AD=true->List VV
 | [],_=>[]
 | a::t,h=>⟨a,by simp only [List.all_cons,Bool.and_eq_true] at h;exact h.1⟩::Fy t (by simp only [List.all_cons,Bool.and_eq_true] at h;exact h.2)
theorem G6:∀ (l:List V2) (h:l.all AD=true),(Fy l h).map (·.1)=l
 | [],_=>rfl
 | a::t,h=>by simp only [Fy,List.map_cons];rw [G6 t]
theorem MQ (x y:VV):ltOf cfV x y=AV x.1 y.1:=by
 unfold ltOf cfV AV
 by_cases h:x.1.1=y.1.1
 ·rw [if_pos h]
  simp [h]
  by_cases h2:x.1.2<y.1.2
  ·simp [h2];omega
  ·simp [h2];omega
 ·rw [if_neg h]
  simp [h]
  by_cases h2:x.1.1<y.1.1
  ·simp [h2];omega
  ·simp [h2];omega
theorem ACE:SWO (ltOf cfV) where
 irrefl x:=by rw [MQ];exact K7 _
 trans x y z h1 h2:=by rw [MQ] at *;exact K8 h1 h2
 ntrans x y z h1 h2:=by
  rw [MQ] at *
  have e:=M8 z.1 y.1 x.1 (by unfold leV;rw [h2];rfl) (by unfold leV;rw [h1];rfl)
  unfold leV at e
  simpa using e
theorem ACF (x y:VV) (h1:ltOf cfV x y=false) (h2:ltOf cfV y x=false):x=y:=by
 rw [MQ] at *
 exact Subtype.ext (K9 h1 h2)
theorem Q1 (m:List VV):flatK KR 2 m.toArray=flatK AY 2 (m.map (·.1)).toArray:=by
 unfold flatK
 simp only [List.size_toArray,List.length_map]
 apply Array.ext
 ·simp
 ·intro i h1 h2
  have hi:i<m.length*2:=by simpa using h1
  have h3:i/2<m.length:=by omega
  simp [KR,h3]
theorem X6 (l:List V2) (h:l.all AD=true):((Fy l h).mergeSort λ x y=>!(ltOf cfV) y x).map (·.1)=Bu l:=by
 rw [List.map_mergeSort (s:=leV) (f:=λ x:VV=>x.1) (by intro a _ b _;rw [MQ];rfl),G6];rfl
theorem OE (x:V2):∀ l:List V2,A4 (l++[x])=if l.getLast?=some x then A4 l else A4 l++[x]
 | []=>by simp [A4]
 | [a]=>by
  by_cases h:a=x
  ·subst h;simp [A4]
  ·simp [A4,h]
 | a::b::t=>by
  have ih:=OE x (b::t)
  have e:(a::b::t).getLast?=(b::t).getLast?:=by simp [List.getLast?_cons_cons]
  rw [e]
  show A4 (a::b::(t++[x]))=_
  by_cases h:a=b
  ·subst h
   have e1:A4 (a::a::(t++[x]))=A4 (a::(t++[x])):=by conv=>lhs;unfold A4;rw [if_pos rfl]
   have e2:A4 (a::a::t)=A4 (a::t):=by conv=>lhs;unfold A4;rw [if_pos rfl]
   rw [e1,e2];exact ih
  ·have e1:A4 (a::b::(t++[x]))=a::A4 (b::(t++[x])):=by conv=>lhs;unfold A4;rw [if_neg h]
   have e2:A4 (a::b::t)=a::A4 (b::t):=by conv=>lhs;unfold A4;rw [if_neg h]
   rw [e1,e2]
   have ih' : A4 (b::(t++[x]))=_:=ih
   rw [ih']
   split <;> rfl
theorem Is (l:List V2):∀ m,m<=l.length->Lib.compactUpTo l.toArray m=A4 (l.take m)
 | 0,_=>by simp [Lib.compactUpTo,A4]
 | m+1,h=>by
  have ih:=Is l m (by omega)
  have hx:(l.toArray)[m]! = l[m]:=by simp [show m<l.length by omega]
  have e:l.take (m+1)=l.take m++[l[m]]:=by rw [List.take_add_one];simp [show m<l.length by omega]
  rw [Lib.compactUpTo_succ,ih,e,OE,hx]
  by_cases h0:m=0
  ·subst h0;simp [Lib.keeps,A4]
  ·have hy:(l.toArray)[m-1]! = l[m-1]:=by simp [show m-1<l.length by omega]
   have hl:(l.take m).getLast?=some l[m-1]:=by
    rw [List.getLast?_eq_getElem?,List.length_take,Nat.min_eq_left (by omega)]
    simp [show m-1<m by omega,show m-1<l.length by omega]
   rw [hl]
   by_cases hq:l[m-1]=l[m]
   ·have:Lib.keeps l.toArray m=false:=Lib.keeps_neg (by omega) (by rw [hx,hy,hq])
    rw [this];simp [hq]
   ·have:Lib.keeps l.toArray m=true:=Lib.keeps_pos (by rw [hx,hy];exact λ e=>hq e.symm)
    rw [this];simp [hq]
end Go.Proofs.YtkffpiaagjcmpaaGreat
