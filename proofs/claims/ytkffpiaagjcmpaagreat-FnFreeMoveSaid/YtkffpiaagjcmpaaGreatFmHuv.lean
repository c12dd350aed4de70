import Derived.Test.YtkffpiaagjcmpaaGreatFmRkG
import Derived.Test.YtkffpiaagjcmpaaGreatFmNum4
import Derived.RegionTactic
import Derived.Test.YtkffpiaagjcmpaaGreatFmHus
import Derived.Test.YtkffpiaagjcmpaaGreatFmScW
import Derived.Shelf.SlSortCmp.NoneTotal
import Derived.Shelf.SlicesQ.Reverse
import Derived.Lib.SlicesCompact
import Derived.Deep.LoopGhost
import Derived.WalkKit
namespace Go.Proofs.YtkffpiaagjcmpaaGreat
set_option linter.unusedVariables false
set_option linter.unusedSimpArgs false
open Go.RowKit
end Go.Proofs.YtkffpiaagjcmpaaGreat
namespace Go.Proofs.YtkffpiaagjcmpaaGreat
set_option linter.unusedVariables false
set_option linter.unusedSimpArgs false
open Go.RowKit
def FO:Con:={ ι:=Scn,pre:=λ i=>True,args:=λ i=>[DA.agg [cI i.low.1,cI i.low.2,cI i.high.1,cI i.high.2,DC.sl 24 [.int,.int] (AA i.robot),DC.sl 25 [.sl 24 [.int,.int]] (AK i.obst),DC.sl 24 [.int,.int] (AA i.tables)]],res:=λ i=>⟨false,[none],[rcB (AL i)]⟩ }
theorem XN:FO.Ok Tryz.prog 37:=C3 rfl ⟨_,Tryz.func37,by decide,rfl⟩ (λ _=>Nat.le_of_ble_eq_true rfl) (λ _=>rfl) (λ s=>[.im (.bool (AL s))]) (λ _=>rfl) (λ _=>rfl) (λ i hp w us h=>by
 have h:RdRow w [.int,.int,.int,.int,.sl 24 [.int,.int],.sl 25 [.sl 24 [.int,.int]],.sl 24 [.int,.int]] (Xr i) us:=h
 have hl:=(RdRow.lens _ _ _ h).2
 rw [show BN (FO.args i) us=[.agg us.toArray] from Gf hl]
 refine (FK i _ w (RdRow.scene h)).mono ?_
 rintro e w' ⟨rfl,hb⟩
 exact ⟨[.bool (AL i)],rfl,Own.leaf (Fp.mk_bool _),hb⟩)
theorem N4 {s:Scn} (h:AL s=true):(-200<=s.low.1/\s.low.1<=200)/\(-200<=s.low.2/\s.low.2<=200)/\(-200<=s.high.1/\s.high.1<=200)/\(-200<=s.high.2/\s.high.2<=200):=by
 simp only [AL,Bool.and_eq_true,List.all_cons] at h
 have h1:=FT h.1.1.1.1.1
 have h2:=FT h.1.1.1.1.2.1
 omega
def MD {α:Type} (p:α->Bool) (l:List α):Int:=match l.findIdx? p with|some k=>(k:Int)|none=>-1
theorem V0 {α:Type} {p:α->Bool} {l:List α} {d:α} {k:Nat} (hk:k<l.length) (h:∀ j,j<k->p (l.getD j d)=false) (hp:p (l.getD k d)=true):MD p l=(k:Int):=by
 have:l.findIdx? p=some k:=by
  rw [List.findIdx?_eq_some_iff_getElem]
  refine ⟨hk,?_,λ j hj=>?_⟩
  ·simpa [List.getD,hk] using hp
  ·have:=h j hj
   simpa [List.getD,show j<l.length by omega] using this
 unfold MD;rw [this]
theorem Ps {α:Type} {p:α->Bool} {l:List α} {d:α} (h:∀ j,j<l.length->p (l.getD j d)=false):MD p l=-1:=by
 have:l.findIdx? p=none:=by
  rw [List.findIdx?_eq_none_iff]
  intro x hx
  obtain ⟨j,hj,rfl⟩:=List.getElem_of_mem hx
  have:=h j hj
  simpa [List.getD,hj] using this
 unfold MD;rw [this]
theorem Sg {α:Type} (p:α->Bool) (l:List α):decide (MD p l≥0)=l.any p:=by
 unfold MD
 cases h:l.findIdx? p with
 | none=>
  rw [List.findIdx?_eq_none_iff] at h
  have:l.any p=false:=by
   rw [List.any_eq_false];intro x hx;rw [h x hx];simp
  rw [this];rfl
 | some k=>
  rw [List.findIdx?_eq_some_iff_getElem] at h
  obtain ⟨hk,hp,_⟩:=h
  have:l.any p=true:=List.any_eq_true.2 ⟨_,List.getElem_mem hk,hp⟩
  rw [this]
  exact decide_eq_true (show (0:Int)<=(k:Int) by omega)
end Go.Proofs.YtkffpiaagjcmpaaGreat
namespace Go.Proofs.YtkffpiaagjcmpaaGreat
set_option maxRecDepth 100000
set_option linter.unusedVariables false
set_option linter.unusedSimpArgs false
open Go.RowKit
def Bq:Con:={ ι:=(List V2),pre:=λ i=>True,args:=λ i=>[.one (DC.sl 24 [.int,.int] (AA i))],res:=λ i=>⟨false,[none],[rcB (i.all AF)]⟩ }
theorem JM:Bq.Ok Tryz.prog 36:=C3 rfl ⟨_,Tryz.func36,by decide,rfl⟩ (λ _=>Nat.le_of_ble_eq_true rfl) (λ _=>rfl) (λ l=>[.im (.bool (l.all AF))]) (λ _=>rfl) (λ _=>rfl) (λ i hp w us h=>by
 have h:RdRow w [.sl 24 [.int,.int]] [.sl (AA i)] us:=h
 obtain ⟨v,vs,rfl,h1,h2⟩:=RdRow.cons2 h
 obtain ⟨-,rfl⟩:=RdRow.nil_inv h2
 refine (K9 i v w (Rd.vecs h1)).mono ?_
 rintro e w' ⟨rfl,hb⟩
 exact ⟨[Value.bool (i.all AF)],rfl,Own.leaf (Fp.mk_bool _),hb⟩)
theorem Si {v:V2} (h:AF v=true) (k:Nat):AF (CU k v)=true:=Ob h k
theorem C9 (l:List V2) (k:Nat):(Ag l k).length=l.length:=by simp [Ag]
theorem I0 {l:List V2} {k n:Nat} (hk:k<l.length):AA (Ag (l.take k) n)++[[.int (CU n (l.getD k (0,0))).1,.int (CU n (l.getD k (0,0))).2]]=AA (Ag (l.take (k+1)) n):=by
 rw [D2 l (0,0) k hk]
 simp [Ag,AA,Iu]
theorem XO {k:Int} (h0:0<=k) (h1:k<=3):Int.tmod (IntKind.i64.wrap (Int.tmod k 4+4)) 4=k:=by
 have:k=0∨k=1∨k=2∨k=3:=by omega
 rcases this with rfl|rfl|rfl|rfl <;> rfl
def AD (s:Scn) (h:Int):List V2:=if AL s=true/\0<=h/\h<=3 then Ag s.robot h.toNat else []
theorem Cv {s:Scn} {h:Int} (h1:AL s=true) (h2:0<=h/\h<=3):AD s h=Ag s.robot h.toNat:=by unfold AD;rw [if_pos ⟨h1,h2⟩]
theorem JN {s:Scn} {h:Int} (h1:AL s=false∨¬ (0<=h/\h<=3)):AD s h=[]:=by
 unfold AD
 rw [if_neg]
 rintro ⟨a,b⟩
 rcases h1 with h1|h1
 ·rw [h1] at a;cases a
 ·exact h1 b
theorem LO {s:Scn} (h:AL s=true):AJ s.robot=true:=by
 simp only [AL,shape,Bool.and_eq_true] at h
 exact h.1.2.1.1
theorem Sj (s:Scn) (h:Int):(AD s h).all AF=true/\(AD s h).length<=16:=by
 unfold AD
 split
 ·next hv=>
  have hp:=Ce (LO hv.1)
  rw [C9]
  refine ⟨?_,hp.2.1⟩
  rw [List.all_eq_true]
  intro x hx
  simp only [Ag,List.mem_map] at hx
  obtain ⟨y,hy,rfl⟩:=hx
  exact Si (List.all_eq_true.1 hp.2.2 y hy) _
 ·exact ⟨rfl,Nat.zero_le _⟩
theorem Ul {s:Scn} {h:Int} (h1:AL s=true) (h2:0<=h/\h<=3):AD s h≠[]:=by
 rw [Cv h1 h2]
 intro e
 have hp:=Ce (LO h1)
 have:=C9 s.robot h.toNat
 rw [e,List.length_nil] at this
 omega
def EN:Con:={ ι:=Int,pre:=λ i=>True,args:=λ i=>[.one (cI i)],res:=λ i=>⟨false,[none],[rcB (decide (i≥0) && decide (i<=3))]⟩ }
theorem Qj:EN.Ok Tryz.prog 38:=by
 refine fok (X:=⟨tt,[(40,DU)],[],5,[]⟩) mixed AI (CTok.cons PE (CTok.nil _)) Tryz.func38 (λ _=>[]) ?_
 intro (n:Int) hpre
 have hpre:True:=hpre
 refine AH (q:=∃ i1:Int×Int×Int,[DA.one (cI n),DA.one (cI (0:Int)),DA.one (cI (3:Int))]=DU.args i1/\DU.pre i1/\((vB (decide (i1.1≥i1.2.1) && decide (i1.1<=i1.2.2))=vB (decide (n≥0) && decide (n<=3))))) (by kernel_rfl) ?_
 delta vB
 refine ⟨(n,(0:Int),(3:Int)),by
  rfl,by
  first|trivial|(first|omega|assumption|exact hpre.1|exact hpre.2|(simp;done)),?_⟩
 rfl
def Es:Con:={ ι:=Int×Int×Int,pre:=λ i=>(0<=i.2.2/\i.2.2<=3)/\True/\AF (i.1,i.2.1)=true,args:=λ i=>[DA.agg [cI i.1,cI i.2.1],.one (cI i.2.2)],res:=λ i=>⟨false,[some 2],[rcI ((CU i.2.2.toNat (i.1,i.2.1)).1),rcI ((CU i.2.2.toNat (i.1,i.2.1)).2)]⟩ }
theorem Sk:Es.Ok Tryz.prog 79:=by
 refine fok (X:=⟨tt,[],[],19,[]⟩) mixed AI (CTok.nil _) Tryz.func79 (λ (i:Int×Int×Int)=>[(2,.mk 3 (Nat) (λ x1=>{ tm:=[(2,tP 1 0),(4,tP 2 0),(9,tI (nI x1)),(8,tI i.2.2)],en:=[(1,.box [kI ((CU x1 (i.1,i.2.1)).1),kI ((CU x1 (i.1,i.2.1)).2)]),(2,.box [kI (0:Int),kI (0:Int)])] }) (λ x1=>x1<=i.2.2.toNat) (λ x1=>i.2.2.toNat-x1) (λ _=>[]))]) ?_
 rintro ⟨x,y,k⟩ hpre
 have hpre:(0<=k/\k<=3)/\True/\AF (x,y)=true:=hpre
 refine AH (q:=let Z2:=vI (0:Int);((4:Int)≠0)/\(((4:Int)≠0)/\((∃ x1:Nat,(x1<=k.toNat)/\((vI (0:Int)=vI (nI x1))/\(vI (Int.tmod (wR ((Int.tmod k (4:Int))+(4:Int))) (4:Int))=vI k)/\(vI x=vI ((CU x1 (x,y)).1))/\(vI y=vI ((CU x1 (x,y)).2))/\(rf Z2)/\(rf Z2)))/\∀ x1:Nat,let Z1:=CU x1 (x,y);(x1<=k.toNat)->(ifB ((decide ((nI x1)<k))) (∃ y2:Nat,(y2<=k.toNat)/\(k.toNat-y2<k.toNat-x1)/\((vI (wR ((nI x1)+(1:Int)))=vI (nI y2))/\(rf (vI k))/\(vI (wR (0-(Z1.2)))=vI ((CU y2 (x,y)).1))/\(vI (Z1.1)=vI ((CU y2 (x,y)).2))/\(rf Z2)/\(rf Z2))) ((vI (Z1.1)=vI ((CU k.toNat (x,y)).1))/\(vI (Z1.2)=vI ((CU k.toNat (x,y)).2))))))) (by kernel_rfl) ?_
 conv=>zeta
 delta ifB vI wR nI
 have hq:=λ j=>CJ (Si hpre.2.2 j)
 have hw:=XO hpre.1.1 hpre.1.2
 refine ao (by first|rfl|omega|(simp;done)|(simp;omega)) λ o1=>?_
 refine ao (by first|rfl|omega|(simp;done)|(simp;omega)) λ o2=>?_
 refine ⟨⟨0,by
  first|trivial|omega|(simp;omega),?_⟩,?_⟩
 ·refine ⟨?_,?_,?_,?_,rfl,rfl⟩
  ·first|rfl|(rw [hw])
  ·first|rfl|(rw [hw])
  ·first|rfl|(rw [hw])
  first|rfl|(rw [hw])
 intro (j:Nat) hki3
 have hki3:j<=k.toNat:=hki3
 refine And.symm ⟨λ c11=>?_,λ c11=>?_⟩
 ·try simp only [nrm] at c11
  refine ⟨?_,?_⟩
  ·rw [show k.toNat=j by omega]
  rw [show k.toNat=j by omega]
 try simp only [nrm] at c11
 refine ⟨j+1,by
  first|trivial|omega|(simp;omega),by
  first|omega|(simp;omega),?_⟩
 refine ⟨?_,rfl,?_,?_,rfl,rfl⟩
 ·first|rfl|exact Aa (AB (by omega) (by omega))|exact Aa (show IntKind.i64.wrap (0-(CU j (x,y)).2)=-(CU j (x,y)).2 from by have:=hq j;rw [AB (by omega) (by omega)];omega)|exact Aa (by rw [AB (by omega) (by omega)];omega)
 ·first|rfl|exact Aa (AB (by omega) (by omega))|exact Aa (show IntKind.i64.wrap (0-(CU j (x,y)).2)=-(CU j (x,y)).2 from by have:=hq j;rw [AB (by omega) (by omega)];omega)|exact Aa (by rw [AB (by omega) (by omega)];omega)
 first|rfl|exact Aa (AB (by omega) (by omega))|exact Aa (show IntKind.i64.wrap (0-(CU j (x,y)).2)=-(CU j (x,y)).2 from by have:=hq j;rw [AB (by omega) (by omega)];omega)|exact Aa (by rw [AB (by omega) (by omega)];omega)
def EO:Con:={ ι:=(List V2)×Int,pre:=λ i=>(0<=i.2/\i.2<=3)/\i.1.length<=1048576/\i.1.all AF=true,args:=λ i=>[.one (DC.sl 24 [.int,.int] (AA i.1)),.one (cI i.2)],res:=λ i=>⟨false,[none],[.own 24 [.int,.int] (AA (Ag i.1 i.2.toNat))]⟩ }
theorem Qk:EO.Ok Tryz.prog 39:=by
 refine fok (X:=⟨tt,[(36,Bq),(79,Es)],[],26,[]⟩) mixed AI (CTok.cons JM (CTok.cons Sk (CTok.nil _))) Tryz.func39 (λ (i:(List V2)×Int)=>[(5,.mk 3 (Nat) (λ x1=>{ tm:=[(12,tX 1),(13,tI (nI ((AA i.1).length))),(14,tI (nI x1)),(1,tI i.2),(5,tX 2)],en:=[(1,.view 24 [.int,.int] (AA i.1) []),(2,.own 24 [.int,.int] (AA (Ag (i.1.take x1) i.2.toNat)))] }) (λ x1=>x1<=i.1.length) (λ x1=>i.1.length-x1) (λ _=>[]))]) ?_
 rintro ⟨l,h⟩ hpre
 have hpre:(0<=h/\h<=3)/\l.length<=1048576/\l.all AF=true:=hpre
 refine AH (q:=let Z3:=nI ((AA l).length);∃ i1:(List V2),[DA.one (DC.sl 24 [.int,.int] (AA l))]=Bq.args i1/\Bq.pre i1/\(ifB ((!(i1.all AF))) ((([]:List (List Dat))=AA (Ag l h.toNat))) ((∃ x1:Nat,(x1<=l.length)/\((rf (vI Z3))/\(vI (0:Int)=vI (nI x1))/\(rf (vI h))/\(rf (AA l))/\(([]:List (List Dat))=(AA (Ag (l.take x1) h.toNat)))))/\∀ x1:Nat,let Z2:=AA (Ag (l.take x1) h.toNat);(x1<=l.length)->(ifB ((decide ((nI x1)<Z3))) ((0<=(nI x1)/\(nI x1)<((AA l).length:Int))/\((x1<(AA l).length)/\(∃ i2:Int×Int×Int,let Z1:=CU i2.2.2.toNat (i2.1,i2.2.1);[DA.agg [cI (((((AA l).getD x1 []).getD 0 (.int 0))).n),cI (((((AA l).getD x1 []).getD 1 (.int 0))).n)],DA.one (cI h)]=Es.args i2/\Es.pre i2/\((Z2.length+([[Dat.int (Z1.1),Dat.int (Z1.2)]]:List (List Dat)).length<=2199023255552)/\(∃ y2:Nat,(y2<=l.length)/\(l.length-y2<l.length-x1)/\((rf (vI Z3))/\(vI (wR ((nI x1)+(1:Int)))=vI (nI y2))/\(rf (vI h))/\(rf (AA l))/\((Z2++([[Dat.int (Z1.1),Dat.int (Z1.2)]]:List (List Dat)))=(AA (Ag (l.take y2) h.toNat))))))))) ((Z2=AA (Ag l h.toNat))))))) (by kernel_rfl) ?_
 conv=>zeta
 delta ifB vI wR nI
 have hvl:=AC l
 refine ⟨l,by
  rfl,by
  first|trivial|exact ⟨hpre.1,trivial,A3 hpre.2.2 (by omega)⟩,?_⟩
 refine ⟨λ c4=>?_,λ c4=>?_⟩
 ·try simp only [nrm] at c4
  rw [hpre.2.2] at c4
  cases c4 -- done
 try simp only [nrm] at c4
 refine ⟨⟨0,by
  first|trivial|omega|(simp;omega),?_⟩,?_⟩
 ·refine ⟨rfl,?_,rfl,rfl,?_⟩
  ·first|rfl|(rw [AC])
  first|rfl|(rw [AC])
 intro (k:Nat) hki6
 have hki6:k<=l.length:=hki6
 refine And.symm ⟨λ c13=>?_,λ c13=>?_⟩
 ·try simp only [nrm] at c13
  rw [show k=l.length by omega,List.take_length]
 try simp only [nrm] at c13
 refine ao (by first|omega|(simp only [AC,C9,List.length_take,List.length_cons,List.length_nil];omega)) λ o14=>?_
 refine ao (by first|omega|(simp only [AC,C9,List.length_take,List.length_cons,List.length_nil];omega)) λ o15=>?_
 refine ⟨((l.getD k (0,0)).1,(l.getD k (0,0)).2,h),by
  rw [BD (by omega),BE (by omega)];rfl,by
  first|trivial|exact ⟨hpre.1,trivial,A3 hpre.2.2 (by omega)⟩,?_⟩
 refine ao (a:=(AA (Ag (l.take k) h.toNat)).length+([[Dat.int ((CU h.toNat (((l.getD k (0,0)).1),((l.getD k (0,0)).2))).1),Dat.int ((CU h.toNat (((l.getD k (0,0)).1),((l.getD k (0,0)).2))).2)]]:List (List Dat)).length<=2199023255552) (by first|omega|(simp only [AC,C9,List.length_take,List.length_cons,List.length_nil];omega)) λ o19=>?_
 refine ⟨k+1,by
  first|trivial|omega|(simp;omega),by
  first|omega|(simp;omega),?_⟩
 refine ⟨rfl,?_,rfl,rfl,?_⟩
 ·first|rfl|exact Aa (AB (by omega) (by omega))|exact I0 (by omega)
 first|rfl|exact Aa (AB (by omega) (by omega))|exact I0 (by omega)
def Aq:Con:={ ι:=Scn×Int,pre:=λ i=>True,args:=λ i=>[DA.agg [cI i.1.low.1,cI i.1.low.2,cI i.1.high.1,cI i.1.high.2,DC.sl 24 [.int,.int] (AA i.1.robot),DC.sl 25 [.sl 24 [.int,.int]] (AK i.1.obst),DC.sl 24 [.int,.int] (AA i.1.tables)],.one (cI i.2)],res:=λ i=>⟨false,[none],[.own 24 [.int,.int] (AA (AD i.1 i.2))]⟩ }
theorem H7:Aq.Ok Tryz.prog 9:=by
 refine fok (X:=⟨tt,[(37,FO),(38,EN),(39,EO)],[],17,[]⟩) mixed AI (CTok.cons XN (CTok.cons Qj (CTok.cons Qk (CTok.nil _)))) Tryz.func9 (λ _=>[]) ?_
 rintro ⟨s,h⟩ hpre
 have hpre:True:=hpre
 refine AH (q:=let Z1:=(([]:List (List Dat))=AA (AD s h));∃ i1:Scn,[DA.agg [cI s.low.1,cI s.low.2,cI s.high.1,cI s.high.2,DC.sl 24 [.int,.int] (AA s.robot),DC.sl 25 [.sl 24 [.int,.int]] (AK s.obst),DC.sl 24 [.int,.int] (AA s.tables)]]=FO.args i1/\FO.pre i1/\(ifB ((!(!(AL i1)))) (∃ i2:Int,[DA.one (cI h)]=EN.args i2/\EN.pre i2/\(ifB ((!(decide (i2≥0) && decide (i2<=3)))) Z1 (∃ i3:(List V2)×Int,[DA.one (DC.sl 24 [.int,.int] (AA s.robot)),DA.one (cI h)]=EO.args i3/\EO.pre i3/\((AA (Ag i3.1 i3.2.toNat)=AA (AD s h)))))) Z1)) (by kernel_rfl) ?_
 conv=>zeta
 delta ifB
 refine ⟨s,by
  rfl,by
  first|trivial|exact ⟨by omega,by omega,hP.2.2⟩,?_⟩
 refine And.symm ⟨λ c4=>?_,λ c4=>?_⟩
 ·try simp only [nrm] at c4
  have hE:=JN (h:=h) (.inl c4)
  first|(rw [hE];done)|(rw [hE];rfl)
 try simp only [nrm] at c4
 refine ⟨h,by
  rfl,by
  first|trivial|exact ⟨by omega,by omega,hP.2.2⟩,?_⟩
 refine ⟨λ c8=>?_,λ c8=>?_⟩
 ·try simp only [nrm] at c8
  have hE:=JN (s:=s) (h:=h) (.inr (by omega))
  first|(rw [hE];done)|(rw [hE];rfl)
 try simp only [nrm] at c8
 have hE:=Cv c4 (show 0<=h/\h<=3 by omega)
 have hP:=Ce (LO c4)
 refine ⟨(s.robot,h),by
  rfl,by
  show (0<=h/\h<=3)/\s.robot.length<=1048576/\s.robot.all AF=true
  first|trivial|exact ⟨by omega,by omega,hP.2.2⟩,?_⟩
 show AA (Ag s.robot h.toNat)=AA (AD s h)
 first|(rw [hE];done)|(rw [hE];rfl)
def orQ (p:Pq):Pq:=if p.good=true then p else ⟨Fr.none,Fr.none⟩
def ED:Con:={ ι:=Pq,pre:=λ i=>True,args:=λ i=>[dP i],res:=λ i=>⟨false,[none],[rcB i.good]⟩ }
theorem XP:ED.Ok Tryz.prog 48:=by
 refine fok (X:=⟨tt,[(91,AT)],[],11,[]⟩) mixed AI (CTok.cons EA (CTok.nil _)) Tryz.func48 (λ _=>[]) ?_
 intro (p:Pq) hpre
 have hpre:True:=hpre
 refine AH (q:=∃ i1:Fr,[dF p.x]=AT.args i1/\AT.pre i1/\(ifB (i1.good) (∃ i2:Fr,[dF p.y]=AT.args i2/\AT.pre i2/\((vB i2.good=vB p.good))) ((vB false=vB p.good)))) (by kernel_rfl) ?_
 delta ifB vB
 refine ⟨p.x,by
  rfl,by
  first|trivial|(first|omega|assumption|exact hpre.1|exact hpre.2|(simp;done)),?_⟩
 refine And.symm ⟨λ c4=>?_,λ c4=>?_⟩
 ·try simp only [nrm] at c4
  exact congrArg Value.bool (by unfold Pq.good;rw [c4];first|rfl|(rw [Bool.true_and]))
 try simp only [nrm] at c4
 refine ⟨p.y,by
  rfl,by
  first|trivial|(first|omega|assumption|exact hpre.1|exact hpre.2|(simp;done)),?_⟩
 exact congrArg Value.bool (by unfold Pq.good;rw [c4];first|rfl|(rw [Bool.true_and]))
def Ax:Con:={ ι:=Pq,pre:=λ i=>True,args:=λ i=>[dP i],mu:=[1,2,4,5],gone:=[0,1,2,3],new:=λ i=>[],res:=λ i=>⟨false,[some 6],[rcB (decide ((orQ i).x.z<0)),.own 3 [.int] (L (orQ i).x.z.natAbs),.own 3 [.int] (L (orQ i).x.d),rcB (decide ((orQ i).y.z<0)),.own 3 [.int] (L (orQ i).y.z.natAbs),.own 3 [.int] (L (orQ i).y.d)]⟩ }
set_option maxHeartbeats 1000000 in
theorem XQ (b0 b3 : Bool) (a1 a2 a4 a5 : Option Addr) (n1 n2 n4 n5 c1 c2 c4 c5 : Nat) (g : Bool) (w : World)
    (hg : ∀ w1, Below w.heap.size w w1 → Calls Tryz.prog 48 #[.agg #[.bool b0, .slice a1 n1 c1, .slice a2 n2 c2, .bool b3, .slice a4 n4 c4, .slice a5 n5 c5]] w1 fun e w' => e = .returned (.bool g) ∧ Below w1.heap.size w1 w') :
    Calls Tryz.prog 90 #[.agg #[.bool b0, .slice a1 n1 c1, .slice a2 n2 c2, .bool b3, .slice a4 n4 c4, .slice a5 n5 c5]] w fun e w' =>
      e = .returned (if g = true then .agg #[.bool b0, .slice a1 n1 c1, .slice a2 n2 c2, .bool b3, .slice a4 n4 c4, .slice a5 n5 c5] else .agg #[.bool false, .slice none 0 0, .slice none 0 0, .bool false, .slice none 0 0, .slice none 0 0]) ∧ Below w.heap.size w w' := by
  have HG := Lib.hid hg
  clear hg
  go_enter Tryz.func90, Tryz.ntmps90
  go_wp2_with fail
  refine (HG.out _ (by (repeat (first | with_reducible exact Below.refl _ _ | with_reducible assumption | with_reducible refine Below.drew ?_ | with_reducible refine Below.setCell ?_ ?_ _ | with_reducible refine Below.alloc ?_ ?_ _)); all_goals first | (simp; done) | (simp; omega) | omega)).mono ?_
  rintro e w1 ⟨rfl, h1⟩
  have B1 : Below w.heap.size w w1 := Below.trans (by (repeat (first | with_reducible exact Below.refl _ _ | with_reducible assumption | with_reducible refine Below.drew ?_ | with_reducible refine Below.setCell ?_ ?_ _ | with_reducible refine Below.alloc ?_ ?_ _)); all_goals first | (simp; done) | (simp; omega) | omega) (h1.mono (by first | (simp; done) | (simp; omega) | omega))
  have S1 := h1.size
  have T1 := B1.size
  try simp at S1
  obtain ⟨k1, f1⟩ := FW h1
  try simp at k1
  try simp at f1
  have Hc1 := Lib.hid h1
  clear h1
  have u1_0 : w.heap.size < w1.heap.size := by omega
  have u1_1 : w.heap.size + 1 < w1.heap.size := by omega
  cases g
  · have qs : ∀ i, i < 6 → (w1.cell? ⟨w.heap.size + 1, 0 + i, none⟩).isSome = true := fun i hi => by
      have : i = 0 ∨ i = 1 ∨ i = 2 ∨ i = 3 ∨ i = 4 ∨ i = 5 := by omega
      rcases this with rfl | rfl | rfl | rfl | rfl | rfl <;> go_simp
    have q0 : ((((((w1.setCell ⟨w.heap.size + 1, 0, none⟩ (.bool false)).setCell ⟨w.heap.size + 1, 1, none⟩ (.slice none 0 0)).setCell ⟨w.heap.size + 1, 2, none⟩ (.slice none 0 0)).setCell ⟨w.heap.size + 1, 3, none⟩ (.bool false)).setCell ⟨w.heap.size + 1, 4, none⟩ (.slice none 0 0)).setCell ⟨w.heap.size + 1, 5, none⟩ (.slice none 0 0)).cell? ⟨w.heap.size + 1, 0, none⟩ = some (.bool false) := (by have q := CM (w.heap.size + 1) [.bool false, .slice none 0 0, .slice none 0 0, .bool false, .slice none 0 0, .slice none 0 0] w1 0 qs 0 (by simp); rw [Nat.zero_add] at q; exact q); have q1 : ((((((w1.setCell ⟨w.heap.size + 1, 0, none⟩ (.bool false)).setCell ⟨w.heap.size + 1, 1, none⟩ (.slice none 0 0)).setCell ⟨w.heap.size + 1, 2, none⟩ (.slice none 0 0)).setCell ⟨w.heap.size + 1, 3, none⟩ (.bool false)).setCell ⟨w.heap.size + 1, 4, none⟩ (.slice none 0 0)).setCell ⟨w.heap.size + 1, 5, none⟩ (.slice none 0 0)).cell? ⟨w.heap.size + 1, 1, none⟩ = some (.slice none 0 0) := (by have q := CM (w.heap.size + 1) [.bool false, .slice none 0 0, .slice none 0 0, .bool false, .slice none 0 0, .slice none 0 0] w1 0 qs 1 (by simp); rw [Nat.zero_add] at q; exact q); have q2 : ((((((w1.setCell ⟨w.heap.size + 1, 0, none⟩ (.bool false)).setCell ⟨w.heap.size + 1, 1, none⟩ (.slice none 0 0)).setCell ⟨w.heap.size + 1, 2, none⟩ (.slice none 0 0)).setCell ⟨w.heap.size + 1, 3, none⟩ (.bool false)).setCell ⟨w.heap.size + 1, 4, none⟩ (.slice none 0 0)).setCell ⟨w.heap.size + 1, 5, none⟩ (.slice none 0 0)).cell? ⟨w.heap.size + 1, 2, none⟩ = some (.slice none 0 0) := (by have q := CM (w.heap.size + 1) [.bool false, .slice none 0 0, .slice none 0 0, .bool false, .slice none 0 0, .slice none 0 0] w1 0 qs 2 (by simp); rw [Nat.zero_add] at q; exact q); have q3 : ((((((w1.setCell ⟨w.heap.size + 1, 0, none⟩ (.bool false)).setCell ⟨w.heap.size + 1, 1, none⟩ (.slice none 0 0)).setCell ⟨w.heap.size + 1, 2, none⟩ (.slice none 0 0)).setCell ⟨w.heap.size + 1, 3, none⟩ (.bool false)).setCell ⟨w.heap.size + 1, 4, none⟩ (.slice none 0 0)).setCell ⟨w.heap.size + 1, 5, none⟩ (.slice none 0 0)).cell? ⟨w.heap.size + 1, 3, none⟩ = some (.bool false) := (by have q := CM (w.heap.size + 1) [.bool false, .slice none 0 0, .slice none 0 0, .bool false, .slice none 0 0, .slice none 0 0] w1 0 qs 3 (by simp); rw [Nat.zero_add] at q; exact q); have q4 : ((((((w1.setCell ⟨w.heap.size + 1, 0, none⟩ (.bool false)).setCell ⟨w.heap.size + 1, 1, none⟩ (.slice none 0 0)).setCell ⟨w.heap.size + 1, 2, none⟩ (.slice none 0 0)).setCell ⟨w.heap.size + 1, 3, none⟩ (.bool false)).setCell ⟨w.heap.size + 1, 4, none⟩ (.slice none 0 0)).setCell ⟨w.heap.size + 1, 5, none⟩ (.slice none 0 0)).cell? ⟨w.heap.size + 1, 4, none⟩ = some (.slice none 0 0) := (by have q := CM (w.heap.size + 1) [.bool false, .slice none 0 0, .slice none 0 0, .bool false, .slice none 0 0, .slice none 0 0] w1 0 qs 4 (by simp); rw [Nat.zero_add] at q; exact q); have q5 : ((((((w1.setCell ⟨w.heap.size + 1, 0, none⟩ (.bool false)).setCell ⟨w.heap.size + 1, 1, none⟩ (.slice none 0 0)).setCell ⟨w.heap.size + 1, 2, none⟩ (.slice none 0 0)).setCell ⟨w.heap.size + 1, 3, none⟩ (.bool false)).setCell ⟨w.heap.size + 1, 4, none⟩ (.slice none 0 0)).setCell ⟨w.heap.size + 1, 5, none⟩ (.slice none 0 0)).cell? ⟨w.heap.size + 1, 5, none⟩ = some (.slice none 0 0) := (by have q := CM (w.heap.size + 1) [.bool false, .slice none 0 0, .slice none 0 0, .bool false, .slice none 0 0, .slice none 0 0] w1 0 qs 5 (by simp); rw [Nat.zero_add] at q; exact q)
    have HQ := Lib.hid (And.intro q0 (And.intro q1 (And.intro q2 (And.intro q3 (And.intro q4 q5)))))
    clear q0 q1 q2 q3 q4 q5 qs
    go_wp2
    obtain ⟨q0, q1, q2, q3, q4, q5⟩ := HQ.out
    exact bodyPost_ret (v := .agg #[.bool false, .slice none 0 0, .slice none 0 0, .bool false, .slice none 0 0, .slice none 0 0]) (by simp [results, Tryz.results90, go_sem, q0, q1, q2, q3, q4, q5]) rfl ⟨rfl, (by (repeat (first | with_reducible exact Below.refl _ _ | with_reducible assumption | with_reducible refine Below.drew ?_ | with_reducible refine Below.setCell ?_ ?_ _ | with_reducible refine Below.alloc ?_ ?_ _)); all_goals first | (simp; done) | (simp; omega) | omega)⟩
  · have qs : ∀ i, i < 6 → (w1.cell? ⟨w.heap.size + 1, 0 + i, none⟩).isSome = true := fun i hi => by
      have : i = 0 ∨ i = 1 ∨ i = 2 ∨ i = 3 ∨ i = 4 ∨ i = 5 := by omega
      rcases this with rfl | rfl | rfl | rfl | rfl | rfl <;> go_simp
    have q0 : ((((((w1.setCell ⟨w.heap.size + 1, 0, none⟩ (.bool b0)).setCell ⟨w.heap.size + 1, 1, none⟩ (.slice a1 n1 c1)).setCell ⟨w.heap.size + 1, 2, none⟩ (.slice a2 n2 c2)).setCell ⟨w.heap.size + 1, 3, none⟩ (.bool b3)).setCell ⟨w.heap.size + 1, 4, none⟩ (.slice a4 n4 c4)).setCell ⟨w.heap.size + 1, 5, none⟩ (.slice a5 n5 c5)).cell? ⟨w.heap.size + 1, 0, none⟩ = some (.bool b0) := (by have q := CM (w.heap.size + 1) [.bool b0, .slice a1 n1 c1, .slice a2 n2 c2, .bool b3, .slice a4 n4 c4, .slice a5 n5 c5] w1 0 qs 0 (by simp); rw [Nat.zero_add] at q; exact q); have q1 : ((((((w1.setCell ⟨w.heap.size + 1, 0, none⟩ (.bool b0)).setCell ⟨w.heap.size + 1, 1, none⟩ (.slice a1 n1 c1)).setCell ⟨w.heap.size + 1, 2, none⟩ (.slice a2 n2 c2)).setCell ⟨w.heap.size + 1, 3, none⟩ (.bool b3)).setCell ⟨w.heap.size + 1, 4, none⟩ (.slice a4 n4 c4)).setCell ⟨w.heap.size + 1, 5, none⟩ (.slice a5 n5 c5)).cell? ⟨w.heap.size + 1, 1, none⟩ = some (.slice a1 n1 c1) := (by have q := CM (w.heap.size + 1) [.bool b0, .slice a1 n1 c1, .slice a2 n2 c2, .bool b3, .slice a4 n4 c4, .slice a5 n5 c5] w1 0 qs 1 (by simp); rw [Nat.zero_add] at q; exact q); have q2 : ((((((w1.setCell ⟨w.heap.size + 1, 0, none⟩ (.bool b0)).setCell ⟨w.heap.size + 1, 1, none⟩ (.slice a1 n1 c1)).setCell ⟨w.heap.size + 1, 2, none⟩ (.slice a2 n2 c2)).setCell ⟨w.heap.size + 1, 3, none⟩ (.bool b3)).setCell ⟨w.heap.size + 1, 4, none⟩ (.slice a4 n4 c4)).setCell ⟨w.heap.size + 1, 5, none⟩ (.slice a5 n5 c5)).cell? ⟨w.heap.size + 1, 2, none⟩ = some (.slice a2 n2 c2) := (by have q := CM (w.heap.size + 1) [.bool b0, .slice a1 n1 c1, .slice a2 n2 c2, .bool b3, .slice a4 n4 c4, .slice a5 n5 c5] w1 0 qs 2 (by simp); rw [Nat.zero_add] at q; exact q); have q3 : ((((((w1.setCell ⟨w.heap.size + 1, 0, none⟩ (.bool b0)).setCell ⟨w.heap.size + 1, 1, none⟩ (.slice a1 n1 c1)).setCell ⟨w.heap.size + 1, 2, none⟩ (.slice a2 n2 c2)).setCell ⟨w.heap.size + 1, 3, none⟩ (.bool b3)).setCell ⟨w.heap.size + 1, 4, none⟩ (.slice a4 n4 c4)).setCell ⟨w.heap.size + 1, 5, none⟩ (.slice a5 n5 c5)).cell? ⟨w.heap.size + 1, 3, none⟩ = some (.bool b3) := (by have q := CM (w.heap.size + 1) [.bool b0, .slice a1 n1 c1, .slice a2 n2 c2, .bool b3, .slice a4 n4 c4, .slice a5 n5 c5] w1 0 qs 3 (by simp); rw [Nat.zero_add] at q; exact q); have q4 : ((((((w1.setCell ⟨w.heap.size + 1, 0, none⟩ (.bool b0)).setCell ⟨w.heap.size + 1, 1, none⟩ (.slice a1 n1 c1)).setCell ⟨w.heap.size + 1, 2, none⟩ (.slice a2 n2 c2)).setCell ⟨w.heap.size + 1, 3, none⟩ (.bool b3)).setCell ⟨w.heap.size + 1, 4, none⟩ (.slice a4 n4 c4)).setCell ⟨w.heap.size + 1, 5, none⟩ (.slice a5 n5 c5)).cell? ⟨w.heap.size + 1, 4, none⟩ = some (.slice a4 n4 c4) := (by have q := CM (w.heap.size + 1) [.bool b0, .slice a1 n1 c1, .slice a2 n2 c2, .bool b3, .slice a4 n4 c4, .slice a5 n5 c5] w1 0 qs 4 (by simp); rw [Nat.zero_add] at q; exact q); have q5 : ((((((w1.setCell ⟨w.heap.size + 1, 0, none⟩ (.bool b0)).setCell ⟨w.heap.size + 1, 1, none⟩ (.slice a1 n1 c1)).setCell ⟨w.heap.size + 1, 2, none⟩ (.slice a2 n2 c2)).setCell ⟨w.heap.size + 1, 3, none⟩ (.bool b3)).setCell ⟨w.heap.size + 1, 4, none⟩ (.slice a4 n4 c4)).setCell ⟨w.heap.size + 1, 5, none⟩ (.slice a5 n5 c5)).cell? ⟨w.heap.size + 1, 5, none⟩ = some (.slice a5 n5 c5) := (by have q := CM (w.heap.size + 1) [.bool b0, .slice a1 n1 c1, .slice a2 n2 c2, .bool b3, .slice a4 n4 c4, .slice a5 n5 c5] w1 0 qs 5 (by simp); rw [Nat.zero_add] at q; exact q)
    have HQ := Lib.hid (And.intro q0 (And.intro q1 (And.intro q2 (And.intro q3 (And.intro q4 q5)))))
    clear q0 q1 q2 q3 q4 q5 qs
    go_wp2
    obtain ⟨q0, q1, q2, q3, q4, q5⟩ := HQ.out
    exact bodyPost_ret (v := .agg #[.bool b0, .slice a1 n1 c1, .slice a2 n2 c2, .bool b3, .slice a4 n4 c4, .slice a5 n5 c5]) (by simp [results, Tryz.results90, go_sem, q0, q1, q2, q3, q4, q5]) rfl ⟨rfl, (by (repeat (first | with_reducible exact Below.refl _ _ | with_reducible assumption | with_reducible refine Below.drew ?_ | with_reducible refine Below.setCell ?_ ?_ _ | with_reducible refine Below.alloc ?_ ?_ _)); all_goals first | (simp; done) | (simp; omega) | omega)⟩
theorem AEH {us:List Value} (h:us.length=6):∃ u0 u1 u2 u3 u4 u5,us=[u0,u1,u2,u3,u4,u5]:=
 match us,h with
 | [_,_,_,_,_,_],_=>⟨_,_,_,_,_,_,rfl⟩
theorem Sl (p : Pq) (us : List Value) (mb : Nat → List Nat) (F : Nat → Prop) (w : World) (h : ArgsAt F w Ax.mu mb ((Ax.args p).flatMap DA.cells) us) (w1 : World) (hb : Below w.heap.size w w1) :
    Calls Tryz.prog 48 #[.agg us.toArray] w1 fun e w' => e = .returned (.bool p.good) ∧ Below w1.heap.size w1 w' := by
  have hrow : ArgsAt (fun b => b < w.heap.size) w1 [] mb ((ED.args p).flatMap DA.cells) us := by
    refine ⟨h.len, fun b hb' => Nat.lt_of_lt_of_le hb' hb.size, fun q d u hd hu _ => ?_, fun j q hj => by simp at hj, fun i j b _ hi => by simp at hi, fun j b hj => by simp at hj, h.st.keep hb.size (fun b hm => hb.block b (h.st.1 b hm)), fun j b hj => by simp at hj⟩
    by_cases hq : q ∈ Ax.mu
    · obtain ⟨j, hj, hjq⟩ := List.getElem_of_mem hq
      obtain ⟨e, ts, rows, u', e1, e2, f1, _⟩ := h.own j q (by rw [← hjq]; exact List.getElem?_eq_getElem hj)
      have e1' : d = .sl e ts rows := Option.some.inj (hd.symm.trans e1)
      have e2' : u = u' := Option.some.inj (hu.symm.trans e2)
      subst e1' e2'
      exact (RdS.of_fp _ _ _ _ (f1.below hb)).mono (fun b hb' => Fp.lt _ _ _ _ f1 b hb')
    · have := h.rd q d u hd hu hq
      cases d with
      | im v => exact this
      | sl e ts rows =>
        have hc : q = 0 ∨ q = 3 := by
          have hlt := (List.getElem?_eq_some_iff.1 hd).1
          have h6 : ((Ax.args p).flatMap DA.cells).length = 6 := rfl
          have : ((ED.args p).flatMap DA.cells).length = 6 := rfl
          have hm : Ax.mu = [1, 2, 4, 5] := rfl
          rw [hm] at hq
          simp only [List.mem_cons, List.not_mem_nil, or_false, not_or] at hq
          omega
        rcases hc with rfl | rfl <;> cases hd
      | ro d => exact absurd hd (by
          have hlt := (List.getElem?_eq_some_iff.1 hd).1
          intro hd
          have : ((ED.args p).flatMap DA.cells).all (fun d => match d with | .ro _ => false | _ => true) = true := rfl
          have := List.all_eq_true.1 this _ (List.mem_of_getElem? hd)
          simp at this)
  have hv : BN (ED.args p) us = [.agg us.toArray] := Gf (cells := (ED.args p).flatMap DA.cells) h.len
  have := XP.calls p trivial _ w1 us mb hrow
  rw [hv] at this
  refine this.mono ?_
  rintro e w' ⟨rs, bs, rfl, hp⟩
  have hr := hp.res
  match rs, hr with
  | [u], hr =>
    obtain ⟨rfl, _⟩ := hr
    exact ⟨rfl, hp.os, hp.tape, hp.output, hp.size, fun k hk => hp.keep k hk fun j hj => absurd hj (Nat.not_lt_zero j)⟩
set_option maxHeartbeats 400000 in
theorem Um:Ax.Ok Tryz.prog 90 where
 enter:=⟨_,Tryz.func90,by decide,rfl⟩
 small:=λ _=>Nat.le_of_ble_eq_true rfl
 calls:=by
  intro p _ F w us mb h
  have hg:=Sl p us mb F w h
  have hv:BN (Ax.args p) us=[.agg us.toArray]:=Gf (cells:=(Ax.args p).flatMap DA.cells) h.len
  rw [hv]
  obtain ⟨u0,u1,u2,u3,u4,u5,rfl⟩:∃ u0 u1 u2 u3 u4 u5,us=[u0,u1,u2,u3,u4,u5]:=AEH h.len
  have r0:u0=.bool (decide (p.x.z<0)):=h.rd 0 _ _ rfl rfl (by decide)
  have r3:u3=.bool (decide (p.y.z<0)):=h.rd 3 _ _ rfl rfl (by decide)
  obtain ⟨_,_,_,_,e1,e2,f1,m1⟩:=h.own 0 1 rfl
  cases e1;cases e2
  obtain ⟨_,_,_,_,e1,e2,f2,m2⟩:=h.own 1 2 rfl
  cases e1;cases e2
  obtain ⟨_,_,_,_,e1,e2,f4,m4⟩:=h.own 2 4 rfl
  cases e1;cases e2
  obtain ⟨_,_,_,_,e1,e2,f5,m5⟩:=h.own 3 5 rfl
  cases e1;cases e2
  have dis:=h.dis
  have hl:Ax.mu.length=4:=rfl
  obtain ⟨_,a1,c1,hd1,rfl,-⟩:=Rd.sl_inv (Fp.rd _ _ _ _ f1)
  cases hd1
  obtain ⟨_,a2,c2,hd2,rfl,-⟩:=Rd.sl_inv (Fp.rd _ _ _ _ f2)
  cases hd2
  obtain ⟨_,a4,c4,hd4,rfl,-⟩:=Rd.sl_inv (Fp.rd _ _ _ _ f4)
  cases hd4
  obtain ⟨_,a5,c5,hd5,rfl,-⟩:=Rd.sl_inv (Fp.rd _ _ _ _ f5)
  cases hd5
  subst r0 r3
  refine (XQ _ _ a1 a2 a4 a5 _ _ _ _ c1 c2 c4 c5 p.good w hg).mono ?_
  rintro e w' ⟨rfl,hb⟩
  cases hgd:p.good with
  | true=>
   have hE:orQ p=p:=by unfold orQ;rw [hgd];rfl
   refine ⟨[.bool (decide (p.x.z<0)),.slice a1 _ c1,.slice a2 _ c2,.bool (decide (p.y.z<0)),.slice a4 _ c4,.slice a5 _ c5],mb 0++(mb 1++(mb 2++(mb 3++[]))),rfl,⟨?_,?_,?_,?_,hb.os,hb.tape,hb.output,hb.size,λ b hb' _=>hb.block b hb'⟩⟩
   ·show BP F w w' _ (Ax.res p).cells _ _
    simp only [Ax,hE]
    exact ⟨rfl,_,_,rfl,f1.below hb,_,_,rfl,f2.below hb,rfl,_,_,rfl,f4.below hb,_,_,rfl,f5.below hb,rfl⟩
   ·rw [List.append_nil]
    rw [List.nodup_append,List.nodup_append,List.nodup_append]
    refine ⟨m1,⟨m2,⟨m4,m5,λ x hx y hy e=>?_⟩,λ x hx y hy e=>?_⟩,λ x hx y hy e=>?_⟩
    ·subst e;exact dis 2 3 x (by decide) (by decide) (by decide) hx hy
    ·subst e
     rw [List.mem_append] at hy
     rcases hy with hy|hy
     ·exact dis 1 2 x (by decide) (by decide) (by decide) hx hy
     ·exact dis 1 3 x (by decide) (by decide) (by decide) hx hy
    ·subst e
     rw [List.mem_append,List.mem_append] at hy
     rcases hy with hy|hy|hy
     ·exact dis 0 1 x (by decide) (by decide) (by decide) hx hy
     ·exact dis 0 2 x (by decide) (by decide) (by decide) hx hy
     ·exact dis 0 3 x (by decide) (by decide) (by decide) hx hy
   ·intro b hb'
    simp only [List.mem_append,List.not_mem_nil,or_false] at hb'
    rcases hb' with hb' | hb' | hb' | hb'
    ·exact .inr ⟨0,by decide,by decide,hb'⟩
    ·exact .inr ⟨1,by decide,by decide,hb'⟩
    ·exact .inr ⟨2,by decide,by decide,hb'⟩
    ·exact .inr ⟨3,by decide,by decide,hb'⟩
   ·intro j q e ts rows u hj hq
    exfalso
    have hlt:=(List.getElem?_eq_some_iff.1 hq).1
    rw [hl] at hlt
    have:j=0∨j=1∨j=2∨j=3:=by omega
    rcases this with rfl|rfl|rfl|rfl <;> exact hj (by decide)
  | false=>
   have hE:orQ p=⟨Fr.none,Fr.none⟩:=by unfold orQ;rw [hgd];rfl
   have hL:L (Fr.none).z.natAbs=[]:=D5
   have hL2:L (Fr.none).d=[]:=D5
   refine ⟨[.bool false,.slice none 0 0,.slice none 0 0,.bool false,.slice none 0 0,.slice none 0 0],[]++([]++([]++([]++[]))),rfl,⟨?_,by simp,by simp,?_,hb.os,hb.tape,hb.output,hb.size,λ b hb' _=>hb.block b hb'⟩⟩
   ·show BP F w w' _ (Ax.res p).cells _ _
    simp only [Ax,hE,hL,hL2]
    have hn:∀ e:Nat,Fp w' (.sl e [.int]) (.sl []) (.slice none 0 0) []:=λ e=>by
     simp only [Fp]
     exact ⟨[],[],World.ownsRow_nil _ _ _ _,rfl,rfl,by simp,by simp,by simp [Value.ownBlock]⟩
    exact ⟨rfl,_,_,rfl,hn _,_,_,rfl,hn _,rfl,_,_,rfl,hn _,_,_,rfl,hn _,rfl⟩
   ·intro j q e ts rows u hj hq
    exfalso
    have hlt:=(List.getElem?_eq_some_iff.1 hq).1
    rw [hl] at hlt
    have:j=0∨j=1∨j=2∨j=3:=by omega
    rcases this with rfl|rfl|rfl|rfl <;> exact hj (by decide)
end Go.Proofs.YtkffpiaagjcmpaaGreat
namespace Go.Proofs.YtkffpiaagjcmpaaGreat
set_option linter.unusedVariables false
set_option linter.unusedSimpArgs false
open Go.RowKit Go.Sort Go.Shelf
theorem H8:∀ (l:List V2) (j:Nat),j<l.length*2->(l.map Ai).flatten[j]?=some ((Ai (l.getD (j/2) (0,0)))[j%2]!)
 | [],j,h=>by simp at h
 | a::l,0,_=>by simp [Ai]
 | a::l,1,_=>by simp [Ai]
 | a::l,j+2,h=>by
  have ih:=H8 l j (by simp only [List.length_cons] at h;omega)
  have e:(j+2)/2=j/2+1:=by omega
  have e2:(j+2)%2=j%2:=by omega
  rw [e,e2,List.getD_cons_succ,← ih]
  simp [Ai]
theorem N5 (l:List V2):(l.map Ai).flatten.length=l.length*2:=by
 induction l with
 | nil=>rfl
 | cons a l ih=>simp only [List.map_cons,List.flatten_cons,List.length_append,ih,List.length_cons];simp [Ai];omega
theorem Ql {w:World} {e:Nat} {l:List V2} {v:Value} {bs:List Nat} (h:Fp w (.sl e [.int,.int]) (.sl (AA l)) v bs) :
  (v=.slice none 0 0/\l=[]/\bs=[])∨∃ g cap cur,v=.slice (some ⟨g,0,none⟩) l.length cap/\w.heap[g]?=some (.cells cur e (0,0))/\l.length<=cap/\cap<=maxLen/\cur.size=cap*2/\cur.toList.take (l.length*2)=(l.map Ai).flatten/\bs=[g]:=by
 simp only [Fp] at h
 obtain ⟨rows,bss,⟨h0,h1⟩,h2,h3,h4,h5,rfl⟩:=h
 rw [AC] at h2 h3 h5
 have hr:rows=l.map Ai/\bss.flatten=[]:=by
  have key:∀ k,k<l.length->rows.getD k []=Ai (l.getD k (0,0))/\bss.getD k []=[]:=by
   intro k hk
   have:=h5 k hk
   rw [Jy hk] at this
   unfold Iu at this
   generalize rows.getD k []=r at *
   generalize bss.getD k []=z at *
   match r,this with
   | [],t=>exact absurd t (by simp [FpRow])
   | [_],t=>exact absurd t (by simp [FpRow])
   | [x,y],t=>
    simp only [FpRow,Fp] at t
    obtain ⟨b1,b2,rfl,⟨rfl,rfl⟩,b3,b4,rfl,⟨rfl,rfl⟩,rfl⟩:=t
    exact ⟨rfl,rfl⟩
   | _::_::_::_,t=>exact absurd t (by simp [FpRow])
  constructor
  ·apply List.ext_getElem
   ·rw [h2,List.length_map]
   ·intro k hk hk2
    have:=(key k (by omega)).1
    simp only [List.getD,hk,List.getElem?_eq_getElem,Option.getD_some] at this
    rw [this]
    simp [List.getElem_map,List.getD,show k<l.length by omega]
  ·rw [List.flatten_eq_nil_iff]
   intro x hx
   obtain ⟨k,hk,rfl⟩:=List.getElem_of_mem hx
   have:=(key k (by omega)).2
   simpa [List.getD,hk] using this
 obtain ⟨rfl,hb⟩:=hr
 rw [List.length_map] at h1
 rcases h1 with ⟨rfl,hn⟩|⟨g,cap,cur,rfl,_,q1,q2,q3,q4,q5⟩
 ·exact .inl ⟨rfl,List.eq_nil_of_length_eq_zero hn,by rw [hb];rfl⟩
 ·exact .inr ⟨g,cap,cur,rfl,q1,q2,q3,q4,q5,by rw [hb];rfl⟩
theorem Zj {w:World} {e:Nat} {l:List V2} {g cap:Nat} {cur:Array Value} (h1:w.heap[g]?=some (.cells cur e (0,0))) (h2:l.length<=cap) (h3:cap<=maxLen) (h4:cur.size=cap*2) (h5:cur.toList.take (l.length*2)=(l.map Ai).flatten) :
  Fp w (.sl e [.int,.int]) (.sl (AA l)) (.slice (some ⟨g,0,none⟩) l.length cap) [g]:=by
 simp only [Fp]
 refine ⟨l.map Ai,l.map λ _=>[],⟨?_,.inr ⟨g,cap,cur,by rw [List.length_map],Nat.zero_le _,h1,by rw [List.length_map];exact h2,h3,h4,by rw [List.length_map];exact h5⟩⟩,by simp [AA],by simp [AA],?_,?_,?_⟩
 ·rw [N5,List.length_map];rfl
 ·intro r hr
  simp only [List.mem_map] at hr
  obtain ⟨x,_,rfl⟩:=hr
  rfl
 ·intro k hk
  rw [AC] at hk
  rw [Jy hk]
  simp [List.getD,hk,Iu,Ai,FpRow,Fp]
 ·simp [Value.ownBlock]
theorem GT {w:World} {g e:Nat} {cur:Array Value} {fr:Nat×Nat} (h:w.heap[g]?=some (.cells cur e fr)) (j:Nat):w.cell? ⟨g,j,none⟩=cur[j]?:=by
 simp [World.cell?,h]
theorem Sm {w:World} {e:Nat} {l:List V2} {g cap:Nat} {cur:Array Value} (h1:w.heap[g]?=some (.cells cur e (0,0))) (h2:l.length<=cap) (h4:cur.size=cap*2) (h5:cur.toList.take (l.length*2)=(l.map Ai).flatten):HoldsK Ai 2 w g 0 l.toArray:=by
 intro j hj
 have hj2:j<l.length*2:=by simpa using hj
 refine ⟨?_,?_⟩
 ·rw [GT h1,Nat.zero_add,get_flatK _ _ _ _ (by simpa using hj2)]
  have:=H8 l j hj2
  rw [← h5,List.getElem?_take,if_pos hj2] at this
  rw [Array.getElem?_toList] at this
  rw [this]
  congr 2
  simp [List.getD,show j/2<l.length by omega]
 ·simp [World.frozen?,h1]
theorem Zk {w:World} {e:Nat} {l:List V2} {g cap:Nat} {cur:Array Value} {fr:Nat×Nat} (h1:w.heap[g]?=some (.cells cur e fr)) (h2:l.length<=cap) (h4:cur.size=cap*2) (hH:HoldsK Ai 2 w g 0 l.toArray):cur.toList.take (l.length*2)=(l.map Ai).flatten:=by
 apply List.ext_getElem?
 intro j
 by_cases hj:j<l.length*2
 ·rw [H8 l j hj,List.getElem?_take,if_pos hj,Array.getElem?_toList]
  have:=(hH j (by simpa using hj)).1
  rw [GT h1,Nat.zero_add,get_flatK _ _ _ _ (by simpa using hj)] at this
  rw [this]
  congr 2
  simp [List.getD,show j/2<l.length by omega]
 ·rw [List.getElem?_eq_none (by simp only [List.length_take];omega),List.getElem?_eq_none (by rw [N5];omega)]
theorem Pt {α:Type} [Inhabited α] (enc:α->List Value) (w:World) (g n:Nat) (D:Array α) (os:Array Obj) {cur:Array Value} {e:Nat} {fr:Nat×Nat} (h1:w.heap[g]?=some (.cells cur e fr)) :
  (∃ cur',(grow (putRowK enc 2 (Sort.ahead w n) g 0 D) os).heap[g]?=some (.cells cur' e fr)/\cur'.size=cur.size)/\(∀ b,b<w.heap.size->b≠g->(grow (putRowK enc 2 (Sort.ahead w n) g 0 D) os).heap[b]?=w.heap[b]?)/\w.heap.size<=(grow (putRowK enc 2 (Sort.ahead w n) g 0 D) os).heap.size:=by
 have hs:(putRowK enc 2 (Sort.ahead w n) g 0 D).heap.size=w.heap.size:=by simp [putRowK,putRow,mapBlock,Sort.ahead]
 have hg:g<w.heap.size:=(Array.getElem?_eq_some_iff.1 h1).1
 have hold:∀ b,b<w.heap.size->(grow (putRowK enc 2 (Sort.ahead w n) g 0 D) os).heap[b]?=(w.heap.modify g (onCells (putCells id 0 (flatK enc 2 D))))[b]?:=by
  intro b hb
  rw [Sort.heap_grow_old _ _ (by rw [hs];exact hb)]
  rfl
 refine ⟨⟨putCells id 0 (flatK enc 2 D) cur,?_,?_⟩,?_,?_⟩
 ·rw [hold g hg,Array.getElem?_modify,if_pos rfl,h1];rfl
 ·simp [putCells]
 ·intro b hb hne
  rw [hold b hb,Array.getElem?_modify,if_neg (λ e=>hne e.symm)]
 ·rw [Sort.size_grow,hs];omega
abbrev VV:Type:={ v:V2 // AF v=true }
instance:Inhabited VV:=⟨⟨(0,0),by decide⟩⟩
def L3 (x:VV):List Value:=Ai x.1
def cfV (x y:VV):Int:=if x.1.1=y.1.1 then x.1.2-y.1.2 else x.1.1-y.1.1
def Hc:(l:List V2)->l.all AF=true->List VV
 | [],_=>[]
 | a::t,h=>⟨a,by simp only [List.all_cons,Bool.and_eq_true] at h;exact h.1⟩::Hc t (by simp only [List.all_cons,Bool.and_eq_true] at h;exact h.2)
theorem Ii:∀ (l:List V2) (h:l.all AF=true),(Hc l h).map (·.1)=l
 | [],_=>rfl
 | a::t,h=>by simp only [Hc,List.map_cons];rw [Ii t]
theorem N6 (x y:VV):ltOf cfV x y=Af x.1 y.1:=by
 unfold ltOf cfV Af
 by_cases h:x.1.1=y.1.1
 ·rw [if_pos h]
  simp [h]
  by_cases h2:x.1.2<y.1.2
  ·simp [h2];omega
  ·simp [h2];omega
 ·rw [if_neg h]
  simp [h]
  by_cases h2:x.1.1<y.1.1
  ·simp [h2];omega
  ·simp [h2];omega
theorem AEI:SWO (ltOf cfV) where
 irrefl x:=by rw [N6];exact Nn _
 trans x y z h1 h2:=by rw [N6] at *;exact No h1 h2
 ntrans x y z h1 h2:=by
  rw [N6] at *
  have e:=Pa z.1 y.1 x.1 (by unfold leV;rw [h2];rfl) (by unfold leV;rw [h1];rfl)
  unfold leV at e
  simpa using e
theorem AEJ (x y:VV) (h1:ltOf cfV x y=false) (h2:ltOf cfV y x=false):x=y:=by
 rw [N6] at *
 exact Subtype.ext (Np h1 h2)
theorem Sn (m:List VV):flatK L3 2 m.toArray=flatK Ai 2 (m.map (·.1)).toArray:=by
 unfold flatK
 simp only [List.size_toArray,List.length_map]
 apply Array.ext
 ·simp
 ·intro i h1 h2
  have hi:i<m.length*2:=by simpa using h1
  have h3:i/2<m.length:=by omega
  simp [L3,h3]
theorem Zl (l:List V2) (h:l.all AF=true):((Hc l h).mergeSort λ x y=>!(ltOf cfV) y x).map (·.1)=Ci l:=by
 rw [List.map_mergeSort (s:=leV) (f:=λ x:VV=>x.1) (by intro a _ b _;rw [N6];rfl),Ii];rfl
theorem Pu (x:V2):∀ l:List V2,BT (l++[x])=if l.getLast?=some x then BT l else BT l++[x]
 | []=>by simp [BT]
 | [a]=>by
  by_cases h:a=x
  ·subst h;simp [BT]
  ·simp [BT,h]
 | a::b::t=>by
  have ih:=Pu x (b::t)
  have e:(a::b::t).getLast?=(b::t).getLast?:=by simp [List.getLast?_cons_cons]
  rw [e]
  show BT (a::b::(t++[x]))=_
  by_cases h:a=b
  ·subst h
   have e1:BT (a::a::(t++[x]))=BT (a::(t++[x])):=by conv=>lhs;unfold BT;rw [if_pos rfl]
   have e2:BT (a::a::t)=BT (a::t):=by conv=>lhs;unfold BT;rw [if_pos rfl]
   rw [e1,e2];exact ih
  ·have e1:BT (a::b::(t++[x]))=a::BT (b::(t++[x])):=by conv=>lhs;unfold BT;rw [if_neg h]
   have e2:BT (a::b::t)=a::BT (b::t):=by conv=>lhs;unfold BT;rw [if_neg h]
   rw [e1,e2]
   have ih' : BT (b::(t++[x]))=_:=ih
   rw [ih']
   split <;> rfl
theorem KA (l:List V2):∀ m,m<=l.length->Lib.compactUpTo l.toArray m=BT (l.take m)
 | 0,_=>by simp [Lib.compactUpTo,BT]
 | m+1,h=>by
  have ih:=KA l m (by omega)
  have hx:(l.toArray)[m]! = l[m]:=by simp [show m<l.length by omega]
  have e:l.take (m+1)=l.take m++[l[m]]:=by rw [List.take_add_one];simp [show m<l.length by omega]
  rw [Lib.compactUpTo_succ,ih,e,Pu,hx]
  by_cases h0:m=0
  ·subst h0;simp [Lib.keeps,BT]
  ·have hy:(l.toArray)[m-1]! = l[m-1]:=by simp [show m-1<l.length by omega]
   have hl:(l.take m).getLast?=some l[m-1]:=by
    rw [List.getLast?_eq_getElem?,List.length_take,Nat.min_eq_left (by omega)]
    simp [show m-1<m by omega,show m-1<l.length by omega]
   rw [hl]
   by_cases hq:l[m-1]=l[m]
   ·have:Lib.keeps l.toArray m=false:=Lib.keeps_neg (by omega) (by rw [hx,hy,hq])
    rw [this];simp [hq]
   ·have:Lib.keeps l.toArray m=true:=Lib.keeps_pos (by rw [hx,hy];exact λ e=>hq e.symm)
    rw [this];simp [hq]
end Go.Proofs.YtkffpiaagjcmpaaGreat
namespace Go.Proofs.YtkffpiaagjcmpaaGreat
set_option linter.unusedVariables false
set_option linter.unusedSimpArgs false
open Go.RowKit Go.Sort Go.Shelf Go.Lib
theorem XR {P:Program} (w:World) (t e ty:TypeId) (ht:P.underlying t=some (.slice e)) (hv:∀ w,(zeroValue e).run P w=.ok (.agg #[.int .i64 0,.int .i64 0]) w) (b o n c:Nat) (hn:0<n)
  (hc:∀ j,j<n*2->(w.cell? ⟨b,o+j,none⟩).isSome=true) (hf:∀ j,j<n*2->w.frozen? ⟨b,o+j,none⟩=false) :
  (Builtin.clear_ #[t] ty #[.slice (some ⟨b,o,none⟩) n c]).run P w=.ok (.tuple #[]) (w.setCells b o (Builtin.zeroCells (Value.agg #[.int .i64 0,.int .i64 0]).cells n).toList):=by
 have hl:(Builtin.zeroCells (Value.agg #[.int .i64 0,.int .i64 0]).cells n).toList.length=n*2:=by simp [Builtin.zeroCells,Value.cells]
 have hst:=run_storeCells_cells (P:=P) b o (Builtin.zeroCells (Value.agg #[.int .i64 0,.int .i64 0]).cells n).toList 0 w (by rw [hl];simpa using hc) (by rw [hl];simpa using hf) (by
  intro v hv'
  simp only [Builtin.zeroCells,Array.toList_map,List.mem_map] at hv'
  obtain ⟨i,_,rfl⟩:=hv'
  have hs:(Value.agg #[.int .i64 0,.int .i64 0]).cells=#[.int .i64 0,.int .i64 0]:=rfl
  rw [hs]
  have:i%2=0∨i%2=1:=by omega
  show (#[Value.int .i64 0,Value.int .i64 0][i%2]!).oneCell'=true
  rcases this with e|e <;> rw [e] <;> rfl)
 simp only [Nat.add_zero] at hst
 obtain ⟨m,rfl⟩:∃ m,n=m+1:=⟨n-1,by omega⟩
 simp [Builtin.clear_,run_underlying ht,hv,hst]
def Sh (w w' : World) (g:Nat):Prop:=∀ cur e fr,w.heap[g]?=some (.cells cur e fr)->∃ cur',w'.heap[g]?=some (.cells cur' e fr)/\cur'.size=cur.size
theorem Sh.refl (w:World) (g:Nat):Sh w w g:=λ cur e fr h=>⟨cur,h,rfl⟩
theorem Sh.trans {a b c:World} {g:Nat} (h:Sh a b g) (k:Sh b c g):Sh a c g:=λ cur e fr hx=>by
 obtain ⟨c1,h1,h2⟩:=h cur e fr hx
 obtain ⟨c2,h3,h4⟩:=k c1 e fr h1
 exact ⟨c2,h3,h4.trans h2⟩
theorem Sh.below {w w' : World} {g:Nat} (hb:Below w.heap.size w w') (hg:g<w.heap.size):Sh w w' g:=λ cur e fr h=>⟨cur,by rw [hb.block g hg];exact h,rfl⟩
theorem Sh.setCell (w:World) (g o:Nat) (v:Value):Sh w (w.setCell ⟨g,o,none⟩ v) g:=λ cur e fr h=>by
 rw [setCell_eq]
 refine ⟨cur.setIfInBounds o v,?_,by simp⟩
 simp only [mapBlock,Array.getElem?_modify,if_pos,h];rfl
theorem Sh.setCells (g:Nat):∀ (cs:List Value) (w:World) (o:Nat),Sh w (w.setCells g o cs) g
 | [],w,o=>Sh.refl _ _
 | c::cs,w,o=>(Sh.setCell w g o c).trans (Sh.setCells g cs (w.setCell ⟨g,o,none⟩ c) (o+1))
def RowA (w:World) (g off:Nat) (d:Array V2):Prop:=∀ j,j<d.size->w.cell? ⟨g,off+j*2,none⟩=some (.int .i64 (d[j]!).1)/\w.cell? ⟨g,off+j*2+1,none⟩=some (.int .i64 (d[j]!).2)/\w.frozen? ⟨g,off+j*2,none⟩=false/\w.frozen? ⟨g,off+j*2+1,none⟩=false
theorem H9 (g:Nat):∀ (cs:List Value) (w:World) (o:Nat),OnlyIn (λ b=>b=g) w (w.setCells g o cs)
 | [],w,o=>OnlyIn.refl _ _
 | c::cs,w,o=>by
  have h1:OnlyIn (λ b=>b=g) w (w.setCell ⟨g,o,none⟩ c):=OnlyIn.setCell (OnlyIn.refl _ _) (show (⟨g,o,none⟩:Addr).block=g from rfl) c
  exact h1.trans (H9 g cs (w.setCell ⟨g,o,none⟩ c) (o+1))
theorem RowA.below {w w' : World} {g off:Nat} {d:Array V2} (h:RowA w g off d) (hb:Below w.heap.size w w') (hg:g<w.heap.size):RowA w' g off d:=λ j hj=>by
 have e:=hb.block g hg
 have h:=h j hj
 simp only [World.cell?,World.frozen?,e] at h ⊢
 exact h
theorem G6 (g:Nat):∀ (cs:List Value) (w:World) (o a:Nat),a<o->(w.setCells g o cs).cell? ⟨g,a,none⟩=w.cell? ⟨g,a,none⟩
 | [],w,o,a,_=>rfl
 | c::cs,w,o,a,h=>by
  show ((w.setCell ⟨g,o,none⟩ c).setCells g (o+1) cs).cell? ⟨g,a,none⟩=_
  rw [G6 g cs _ (o+1) a (by omega)]
  go_simp
theorem RowA.set {w:World} {g off i:Nat} {d:Array V2} (h:RowA w g off d) (hi:i<d.size) (a b:Int):RowA ((w.setCell ⟨g,off+i*2,none⟩ (.int .i64 a)).setCell ⟨g,off+i*2+1,none⟩ (.int .i64 b)) g off (d.setIfInBounds i (a,b)):=λ j hj=>by
 have hj2:j<d.size:=by simpa using hj
 obtain ⟨c0,c1,f0,f1⟩:=h j hj2
 by_cases e:j=i
 ·subst e
  rw [getElem!_set_same d j _ hi]
  exact ⟨by go_simp,by go_simp,by go_simp,by go_simp⟩
 ·rw [getElem!_set_other d i j _ e]
  have n1:¬ off+j*2=off+i*2:=by omega
  have n2:¬ off+j*2=off+i*2+1:=by omega
  have n3:¬ off+j*2+1=off+i*2:=by omega
  have n4:¬ off+j*2+1=off+i*2+1:=by omega
  exact ⟨by go_simp,by go_simp,by go_simp,by go_simp⟩
theorem So {d:Array V2} (h:∀ j,j<d.size->keeps d j=true):(compactUpTo d d.size).length=d.size/\∀ j,j<d.size->(compactUpTo d d.size)[j]?=some d[j]! := by
 have e:compactUpTo d d.size=d.toList:=by rw [compactUpTo_all d _ h,range_map_get]
 rw [e]
 refine ⟨by simp,λ j hj=>?_⟩
 simp [hj]
set_option maxHeartbeats 4000000 in
theorem Un (g off cap : Nat) (d : Array V2) (w : World) (hH : RowA w g off d) (hg : g < w.heap.size) (hsz : d.size ≤ 1048576) (hcap : d.size ≤ cap) (hcm : cap ≤ 9223372036854775807) :
    Calls Tryz.prog 178 #[.slice (some ⟨g, off, none⟩) d.size cap] w fun e w' => e = .returned (.slice (some ⟨g, off, none⟩) (compactUpTo d d.size).length cap) ∧
      OnlyIn (fun b => b = g) w w' ∧ Sh w w' g ∧ ∃ d' : Array V2, d'.size = d.size ∧ (∀ j, j < (compactUpTo d d.size).length → (compactUpTo d d.size)[j]? = some d'[j]!) ∧ ∀ j, j < (compactUpTo d d.size).length → w'.cell? ⟨g, off + j * 2, none⟩ = some (.int .i64 (d'[j]!).1) ∧ w'.cell? ⟨g, off + j * 2 + 1, none⟩ = some (.int .i64 (d'[j]!).2) := by
  have HH := Lib.hid hH
  clear hH
  by_cases h2 : d.size < 2
  · have HK := Lib.hid (So (fun j hj => keeps_lt_one d j (show j < 1 by omega)))
    go_enter Tryz.func178, Tryz.ntmps178
    go_wp2
    go_ret
    have hk := HK.out
    refine ⟨by rw [hk.1]; rfl, OnlyIn.refl _ _, Sh.refl _ _, d, rfl, fun j hj => hk.2 j (by rw [hk.1] at hj; exact hj), fun j hj => ?_⟩
    rw [hk.1] at hj
    obtain ⟨q0, q1, -, -⟩ := HH.out j hj
    exact ⟨q0, q1⟩
  · go_enter Tryz.func178, Tryz.ntmps178
    go_wp2
    go_loopw [3] (fun s3 wr => ∃ k : Nat, 1 ≤ k ∧ k ≤ d.size ∧ s3 = .int .i64 k ∧ Below w.heap.size w wr ∧ ∀ j, j < k → keeps d j = true) (fun i _ => d.size - (intOf i).toNat)
    case atStart => exact ⟨1, Nat.le_refl _, by omega, rfl, Below.refl _ _, keeps_lt_one d⟩
    case round =>
      obtain ⟨k, hk1, hk, rfl, hb, hall⟩ := hrel
      by_cases hlt : k < d.size
      · have HA := Lib.hid hall; clear hall
        obtain ⟨a0, a1, -, -⟩ := HH.out k hlt
        obtain ⟨p0, p1, -, -⟩ := HH.out (k - 1) (by omega)
        have c0 := (hb.cell (p := ⟨g, off + k * 2, none⟩) hg).trans a0
        have c1 := (hb.cell (p := ⟨g, off + k * 2 + 1, none⟩) hg).trans a1
        have r0 := (hb.cell (p := ⟨g, off + (k - 1) * 2, none⟩) hg).trans p0
        have r1 := (hb.cell (p := ⟨g, off + (k - 1) * 2 + 1, none⟩) hg).trans p1
        clear a0 a1 p0 p1
        obtain ⟨x, hx⟩ : ∃ x, d[k]! = x := ⟨_, rfl⟩
        obtain ⟨y, hy⟩ : ∃ y, d[k - 1]! = y := ⟨_, rfl⟩
        obtain ⟨x1, x2⟩ := x
        obtain ⟨y1, y2⟩ := y
        rw [hx] at c0 c1
        rw [hy] at r0 r1
        simp only at c0 c1 r0 r1
        have HX := Lib.hid (And.intro hx hy); clear hx hy
        have HB := Lib.hid hb
        have hws := hb.size
        clear hb
        have hkm : IntKind.i64.wrap (((k : Nat) : Int) - 1) = ((k - 1 : Nat) : Int) := by rw [AB (by omega) (by omega)]; omega
        have mixed : Tryz.prog.follows Departure.mixedOrders = true := by kernel_rfl
        by_cases hd1 : x1 = y1
        · by_cases hd2 : x2 = y2
          · subst hd1 hd2
            go_wp2_with fail
            go_region_o
            go_wp2
            go_loopw [3, 5] (fun s3 s5 wr' => ∃ (kk k2 : Nat) (dk : Array V2), s3 = .int .i64 kk ∧ s5 = .int .i64 k2 ∧ 1 ≤ k2 ∧ k + k2 ≤ d.size ∧ OnlyIn (fun b => b = g) w wr' ∧ Sh w wr' g ∧ RowA wr' g off dk ∧ CompInv d (k + k2) kk dk) (fun _ i _ => d.size - k - (intOf i).toNat)
            case atStart => exact ⟨k, 1, d, rfl, rfl, Nat.le_refl _, by omega, OnlyIn.of_below (Below.drew HB.out), Sh.below (Below.drew HB.out) hg, HH.out.below (Below.drew HB.out) hg, CompInv.start HA.out (keeps_neg (by omega) (by rw [HX.out.1, HX.out.2]))⟩
            case round =>
              obtain ⟨kk, k2, dk, rfl, rfl, h1, hle, ho, hsh, hR, hI⟩ := hrel
              have hkk := hI.lt
              have hds := hI.size
              have hsz2 := ho.size
              have HO := Lib.hid ho; clear ho
              have HS := Lib.hid hsh; clear hsh
              have HI := Lib.hid hI; clear hI
              have HR := Lib.hid hR; clear hR
              clear c0 c1 r0 r1 hkm
              by_cases hlt2 : k + k2 < d.size
              · obtain ⟨m0, m1, -, -⟩ := HR.out (k + k2) (by omega)
                obtain ⟨p0, p1, -, -⟩ := HR.out (k + k2 - 1) (by omega)
                obtain ⟨s0, s1, sf0, sf1⟩ := HR.out kk (by omega)
                have e1 : off + (k + k2) * 2 = off + k * 2 + k2 * 2 := by omega
                have e2 : off + (k + k2 - 1) * 2 = off + k * 2 + (k2 - 1) * 2 := by omega
                rw [HI.out.high (k + k2) (by omega), e1] at m0 m1
                rw [HI.out.high (k + k2 - 1) (by omega), e2] at p0 p1
                obtain ⟨u, hu⟩ : ∃ u, d[k + k2]! = u := ⟨_, rfl⟩
                obtain ⟨v, hv⟩ : ∃ v, d[k + k2 - 1]! = v := ⟨_, rfl⟩
                obtain ⟨u1, u2⟩ := u
                obtain ⟨v1, v2⟩ := v
                rw [hu] at m0 m1
                rw [hv] at p0 p1
                simp only at m0 m1 p0 p1
                have HU := Lib.hid (And.intro hu hv)
                clear hu hv e1 e2
                have hk2m : IntKind.i64.wrap (((k2 : Nat) : Int) - 1) = ((k2 - 1 : Nat) : Int) := by rw [AB (by omega) (by omega)]; omega
                by_cases hu1 : u1 = v1
                · subst hu1
                  by_cases hu2 : u2 = v2
                  · subst hu2
                    clear s0 s1 sf0 sf1
                    go_wp2_with fail
                    go_region_o
                    go_wp2
                    go_roundw
                    case rel => exact ⟨kk, k2 + 1, dk, rfl, by go_num, by omega, by omega, HO.out.trans (OnlyIn.of_below (Below.drew (Below.refl _ _))), HS.out.trans (Sh.below (Below.drew (Below.refl _ _)) (by omega)), HR.out.below (Below.drew (Below.refl _ _)) (by omega), HI.out.skip (keeps_neg (by omega) (by rw [HU.out.1, HU.out.2]))⟩
                    case measure => simp [intOf]; omega
                  · go_wp2_with fail
                    go_region_o
                    go_wp2
                    go_roundw
                    case rel =>
                      have hki := HI.out.keep hlt2 (keeps_pos (by rw [HU.out.1, HU.out.2]; simp [hu2]))
                      rw [HU.out.1] at hki
                      exact ⟨kk + 1, k2 + 1, _, by go_num, by go_num, by omega, by omega, OnlyIn.setCell (OnlyIn.setCell (HO.out.trans (OnlyIn.of_below (Below.drew (Below.refl _ _)))) rfl _) rfl _, ((HS.out.trans (Sh.below (Below.drew (Below.refl _ _)) (by omega))).trans (Sh.setCell _ _ _ _)).trans (Sh.setCell _ _ _ _), (HR.out.below (Below.drew (Below.refl _ _)) (by omega)).set (by omega) _ _, hki⟩
                    case measure => simp [intOf]; omega
                · go_wp2_with fail
                  go_region_o
                  go_wp2
                  go_roundw
                  case rel =>
                    have hki := HI.out.keep hlt2 (keeps_pos (by rw [HU.out.1, HU.out.2]; simp [hu1]))
                    rw [HU.out.1] at hki
                    exact ⟨kk + 1, k2 + 1, _, by go_num, by go_num, by omega, by omega, OnlyIn.setCell (OnlyIn.setCell (HO.out.trans (OnlyIn.of_below (Below.drew (Below.refl _ _)))) rfl _) rfl _, ((HS.out.trans (Sh.below (Below.drew (Below.refl _ _)) (by omega))).trans (Sh.setCell _ _ _ _)).trans (Sh.setCell _ _ _ _), (HR.out.below (Below.drew (Below.refl _ _)) (by omega)).set (by omega) _ _, hki⟩
                  case measure => simp [intOf]; omega
              · have hend : k + k2 = d.size := by omega
                have hcl : ∀ ty, (Builtin.clear_ #[25] ty #[.slice (some ⟨g, off + kk * 2, none⟩) (d.size - kk) (cap - kk)]).run Tryz.prog wr = .ok (.tuple #[]) (wr.setCells g (off + kk * 2) (Builtin.zeroCells (Value.agg #[.int .i64 0, .int .i64 0]).cells (d.size - kk)).toList) := fun ty =>
                  XR wr _ _ ty Tryz.underlying25 Tryz.zeroValue24 g (off + kk * 2) (d.size - kk) (cap - kk) (by omega) (fun j hj => by
                    obtain ⟨q0, q1, -, -⟩ := HR.out (kk + j / 2) (by omega)
                    have : j % 2 = 0 ∨ j % 2 = 1 := by omega
                    rcases this with e | e
                    · rw [show off + kk * 2 + j = off + (kk + j / 2) * 2 by omega, q0]; rfl
                    · rw [show off + kk * 2 + j = off + (kk + j / 2) * 2 + 1 by omega, q1]; rfl) (fun j hj => by
                    obtain ⟨-, -, q0, q1⟩ := HR.out (kk + j / 2) (by omega)
                    have : j % 2 = 0 ∨ j % 2 = 1 := by omega
                    rcases this with e | e
                    · rw [show off + kk * 2 + j = off + (kk + j / 2) * 2 by omega, q0]
                    · rw [show off + kk * 2 + j = off + (kk + j / 2) * 2 + 1 by omega, q1])
                obtain ⟨zs, hzs⟩ : ∃ zs, (Builtin.zeroCells (Value.agg #[.int .i64 0, .int .i64 0]).cells (d.size - kk)).toList = zs := ⟨_, rfl⟩
                rw [hzs] at hcl
                clear hzs
                go_wp2
                go_ret
                have hI := HI.out
                rw [hend] at hI
                refine ⟨by rw [hI.len]; rfl, HO.out.trans (H9 g zs _ _), HS.out.trans (Sh.setCells g zs _ _), dk, hds, fun j hj => hI.low j (by rw [hI.len] at hj; exact hj), fun j hj => ?_⟩
                rw [hI.len] at hj
                obtain ⟨q0, q1, -, -⟩ := HR.out j (by omega)
                exact ⟨by rw [G6 g zs _ _ _ (by omega)]; exact q0, by rw [G6 g zs _ _ _ (by omega)]; exact q1⟩
          · go_wp2_with fail
            go_region_o
            go_wp2
            go_roundw
            case rel =>
              refine ⟨k + 1, by omega, by omega, by go_num, Below.drew HB.out, fun j hj => ?_⟩
              by_cases e : j = k
              · subst e
                exact keeps_pos (by rw [HX.out.1, HX.out.2]; simp [hd2])
              · exact HA.out j (by omega)
            case measure => simp [intOf]; omega
        · go_wp2_with fail
          go_region_o
          go_wp2
          go_roundw
          case rel =>
            refine ⟨k + 1, by omega, by omega, by go_num, Below.drew HB.out, fun j hj => ?_⟩
            by_cases e : j = k
            · subst e
              exact keeps_pos (by rw [HX.out.1, HX.out.2]; simp [hd1])
            · exact HA.out j (by omega)
          case measure => simp [intOf]; omega
      · have hke : k = d.size := by omega
        subst hke
        have HB := Lib.hid hb; clear hb
        have HA := Lib.hid hall; clear hall
        go_wp2
        go_ret
        have hk := So HA.out
        refine ⟨by rw [hk.1]; rfl, OnlyIn.of_below HB.out, Sh.below HB.out hg, d, rfl, fun j hj => hk.2 j (by rw [hk.1] at hj; exact hj), fun j hj => ?_⟩
        rw [hk.1] at hj
        obtain ⟨q0, q1, -, -⟩ := HH.out.below HB.out hg j hj
        exact ⟨q0, q1⟩
theorem Qm (w:World):Calls Tryz.prog 178 #[.slice none 0 0] w λ e w'=>e=.returned (.slice none 0 0)/\w'=w:=by
 go_enter Tryz.func178,Tryz.ntmps178
 go_wp2
 go_ret
 exact ⟨rfl,rfl⟩
set_option maxHeartbeats 1000000 in
theorem OX (x y : V2) (hx : AF x = true) (hy : AF y = true) (W : World) : Calls Tryz.prog 177 #[.agg #[.int .i64 x.1, .int .i64 x.2], .agg #[.int .i64 y.1, .int .i64 y.2]] W fun e w' =>
    e = .returned (.int .i64 (if x.1 = y.1 then x.2 - y.2 else x.1 - y.1)) ∧ ∃ q os', w' = grow (W.drewN q) os' := by
  have bx := CJ hx
  have by_ := CJ hy
  clear hx hy
  obtain ⟨a, b⟩ := x
  obtain ⟨c, d⟩ := y
  simp only at bx by_
  have e1 : IntKind.i64.wrap (a - c) = a - c := AB (by omega) (by omega)
  have e2 : IntKind.i64.wrap (b - d) = b - d := AB (by omega) (by omega)
  by_cases h : a = c
  · subst h
    go_enter Tryz.func177, Tryz.ntmps177
    go_wp2
    go_ret
    refine ⟨?_, 0, _, by rw [alloc_eq_grow, alloc_eq_grow, grow_grow]; rfl⟩
    simp [e2]
  · go_enter Tryz.func177, Tryz.ntmps177
    go_wp2
    go_ret
    refine ⟨?_, 0, _, by rw [alloc_eq_grow, alloc_eq_grow, grow_grow]; rfl⟩
    simp [e1, h]
end Go.Proofs.YtkffpiaagjcmpaaGreat
