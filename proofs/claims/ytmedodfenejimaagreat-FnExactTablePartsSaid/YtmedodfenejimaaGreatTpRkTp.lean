import Derived.Test.YtmedodfenejimaaGreatTpRkPa
import Derived.Test.YtmedodfenejimaaGreatTpRkI
namespace Go.Proofs.YtmedodfenejimaaGreat
set_option maxRecDepth 100000
set_option linter.unusedVariables false
set_option linter.unusedSimpArgs false
open Go.RowKit
def Kf (l:List (List Dat)) (n:Int):Bool:=l.any λ r=>decide ((r.getD 0 (.int 0)).n=n)
theorem Yt {l:List (List Dat)} {n:Int} {k:Nat} (hk:k<l.length) (h:((l.getD k []).getD 0 (.int 0)).n=n):Kf l n=true:=List.any_eq_true.2 ⟨l.getD k [],by simp [List.getD,hk],decide_eq_true h⟩
theorem Yu {l:List (List Dat)} {n:Int} (h:∀ j,j<l.length->(λ r:List Dat=>decide ((r.getD 0 (.int 0)).n=n)) (l.getD j [])=false):Kf l n=false:=Xx h
theorem X3 (l:List (List Dat)) (n:Int):decide (Cu (λ r=>decide ((r.getD 0 (.int 0)).n=n)) l≥0)=Kf l n:=Rh _ _
theorem Tc {s:Scn} (h:AV s=true) {k:Nat} (hk:k<s.tables.length):(-9223372036854775808<=(s.tables.getD k (0,0)).1/\(s.tables.getD k (0,0)).1<=9223372036854775807)/\-9223372036854775808<=(s.tables.getD k (0,0)).2/\(s.tables.getD k (0,0)).2<=9223372036854775807:=by
 unfold AV at h
 simp only [Bool.and_eq_true] at h
 have h1:=List.all_eq_true.1 h.2.2 (s.tables.getD k (0,0)) (by simp [List.getD,hk])
 have h2:=L8 h1
 omega
theorem Rm {s:Scn} (h:AV s=true) {k:Nat} (hk:k<s.tables.length):(ptV (s.tables.getD k (0,0))).good=true:=by
 have hv:=Tc h hk
 unfold Pq.good ptV
 rw [Fr.good_some (JD (E3 hv.1)),Fr.good_some (JD (E3 hv.2))];rfl
def tpZ (s:Scn) (r:List Dat) (k:Nat):Int:=if Kf (CB s) (k:Int)=true then DM r (ptV (s.tables.getD k (0,0))) else -1
def tpL (s:Scn) (r:List Dat):Nat->List (List Dat)
 | 0=>[]
 | k+1=>tpL s r k++[[.int (tpZ s r k)]]
def tpR (s:Scn) (r:List Dat):List (List Dat):=if AV s=true then tpL s r s.tables.length else []
theorem Td {s:Scn} {r:List Dat} (h:AV s=false):tpR s r=[]:=by unfold tpR;rw [if_neg (by rw [h];simp)]
theorem P0 {s:Scn} {r:List Dat} (h:AV s=true):tpR s r=tpL s r s.tables.length:=by unfold tpR;rw [if_pos h]
theorem Jf (s:Scn) (r:List Dat):∀ k,(tpL s r k).length=k
 | 0=>rfl
 | k+1=>by simp [tpL,Jf s r k]
theorem Iw {s:Scn} {r:List Dat} {k:Nat} (h:Kf (CB s) (k:Int)=true):tpL s r (k+1)=tpL s r k++[[.int (DM r (ptV (s.tables.getD k (0,0))))]]:=by rw [tpL,tpZ,if_pos h]
theorem Lx {s:Scn} {r:List Dat} {k:Nat} (h:Kf (CB s) (k:Int)=false):tpL s r (k+1)=tpL s r k++[[.int (-1)]]:=by rw [tpL,tpZ,if_neg (by rw [h];simp)]
theorem O7 {s:Scn} (hz:Ct s):(CB s).length<=1048576:=by
 cases hv:AV s with
 | false=>rw [Nv hv];simp
 | true=>have h1:=hz.2.2.2;have h2:=JZ s s.tables.length;rw [LL hv];omega
def IJ:Con:={ ι:=(List (List Dat))×Int,pre:=λ i=>i.1.length<=1073741824,args:=λ i=>[.one (cS i.1),.one (cI i.2)],res:=λ i=>⟨false,[none],[rcI (Cu (λ r=>decide ((r.getD 0 (.int 0)).n=i.2)) i.1)]⟩ }
theorem V8:IJ.Ok Tryz.prog 127:=by
 refine fok (X:=⟨tt,[],[],19,[]⟩) AI AF (CTok.nil _) Tryz.func127 (λ (i:(List (List Dat))×Int)=>[(2,.mk 2 (Nat) (λ x1=>{ tm:=[(0,tX 1),(1,tI i.2),(6,tX 1),(7,tI (nI i.1.length)),(8,tI (nI x1))],en:=[(1,eV i.1)] }) (λ x1=>x1<=i.1.length/\∀ j,j<x1->(λ r=>decide ((r.getD 0 (.int 0)).n=i.2)) (i.1.getD j [])=false) (λ x1=>i.1.length-x1) (λ _=>[]))]) ?_
 rintro ⟨l,n⟩ hpre
 have hpre:l.length<=1073741824:=hpre
 refine AH (q:=let Z1:=Cu (λ r=>decide ((r.getD 0 (.int 0)).n=n)) l;(∃ x1:Nat,(x1<=l.length/\∀ j,j<x1->(λ r=>decide ((r.getD 0 (.int 0)).n=n)) (l.getD j [])=false)/\((rf (vI n))/\(rf (vI (nI l.length)))/\(vI (0:Int)=vI (nI x1))/\(rf (l))))/\∀ x1:Nat,(x1<=l.length/\∀ j,j<x1->(λ r=>decide ((r.getD 0 (.int 0)).n=n)) (l.getD j [])=false)->(ifB ((decide ((nI x1)<(nI l.length)))) ((0<=(nI x1)/\(nI x1)<(l.length:Int))/\((x1<l.length)/\(ifB ((n == (((l.getD x1 []).getD 0 (.int 0))).n)) ((vI (nI x1)=vI Z1)) (∃ y2:Nat,(y2<=l.length/\∀ j,j<y2->(λ r=>decide ((r.getD 0 (.int 0)).n=n)) (l.getD j [])=false)/\(l.length-y2<l.length-x1)/\((rf (vI n))/\(rf (vI (nI l.length)))/\(vI (wR ((nI x1)+(1:Int)))=vI (nI y2))/\(rf (l))))))) ((vI (-1:Int)=vI Z1)))) (by kernel_rfl) ?_
 conv=>zeta
 delta ifB vI wR nI
 refine ⟨⟨0,by
  exact ⟨Nat.zero_le _,λ j hj=>absurd hj (Nat.not_lt_zero j)⟩,?_⟩,?_⟩
 ·refine ⟨rfl,rfl,?_,rfl⟩
  rfl
 intro (k:Nat) hki1
 have hki1:k<=l.length/\∀ j,j<k->(λ r=>decide ((r.getD 0 (.int 0)).n=n)) (l.getD j [])=false:=hki1
 refine And.symm ⟨λ c7=>?_,λ c7=>?_⟩
 ·try simp only [nrm] at c7
  exact AK (Dx (d:=[]) (λ j hj=>hki1.2 j (by omega))).symm
 try simp only [nrm] at c7
 refine ao (by omega) λ o8=>?_
 refine ao (by omega) λ o9=>?_
 refine ⟨λ c10=>?_,λ c10=>?_⟩
 ·try simp only [nrm] at c10
  exact AK (GA (d:=[]) (k:=k) (by omega) hki1.2 (decide_eq_true c10.symm)).symm
 try simp only [nrm] at c10
 refine ⟨k+1,by
  exact ⟨by omega,C7 hki1.2 (decide_eq_false λ e=>c10 e.symm)⟩,by
  omega,?_⟩
 refine ⟨rfl,rfl,?_,rfl⟩
 exact AK (AD (by omega) (by omega))
def IK:Con:={ ι:=(List (List Dat))×Int,pre:=λ i=>i.1.length<=1073741824,args:=λ i=>[.one (cS i.1),.one (cI i.2)],res:=λ i=>⟨false,[none],[rcB (Kf i.1 i.2)]⟩ }
theorem V9:IK.Ok Tryz.prog 68:=by
 refine fok (X:=⟨tt,[(127,IJ)],[],9,[]⟩) AI AF (CTok.cons V8 (CTok.nil _)) Tryz.func68 (λ _=>[]) ?_
 rintro ⟨l,n⟩ hpre
 have hpre:l.length<=1073741824:=hpre
 refine AH (q:=∃ i1:(List (List Dat))×Int,[DA.one (cS l),DA.one (cI n)]=IJ.args i1/\IJ.pre i1/\((vB (decide ((Cu (λ r=>decide ((r.getD 0 (.int 0)).n=i1.2)) i1.1)≥(0:Int)))=vB (Kf l n)))) (by kernel_rfl) ?_
 delta vB
 refine ⟨(l,n),by
  rfl,by
  show l.length<=1073741824
  trivial,?_⟩
 show Value.bool (decide ((Cu (λ r=>decide ((r.getD 0 (.int 0)).n=n)) l)≥(0:Int)))=Value.bool (Kf l n)
 exact congrArg Value.bool (X3 _ _)
def GX:Con:={ ι:=(List (List Dat))×Int,pre:=λ i=>i.1.length<=1073741824,args:=λ i=>[.one (cS i.1),.one (cI i.2)],res:=λ i=>⟨false,[none],[rcB (Kf i.1 i.2)]⟩ }
theorem Te:GX.Ok Tryz.prog 57:=by
 refine fok (X:=⟨tt,[],[],17,[]⟩) AI AF (CTok.nil _) Tryz.func57 (λ (i:(List (List Dat))×Int)=>[(2,.mk 2 (Nat) (λ x1=>{ tm:=[(0,tX 1),(1,tI i.2),(7,tX 1),(8,tI (nI i.1.length)),(9,tI (nI x1))],en:=[(1,eV i.1)] }) (λ x1=>x1<=i.1.length/\∀ j,j<x1->(λ r=>decide ((r.getD 0 (.int 0)).n=i.2)) (i.1.getD j [])=false) (λ x1=>i.1.length-x1) (λ _=>[]))]) ?_
 rintro ⟨l,n⟩ hpre
 have hpre:l.length<=1073741824:=hpre
 refine AH (q:=(∃ x1:Nat,(x1<=l.length/\∀ j,j<x1->(λ r=>decide ((r.getD 0 (.int 0)).n=n)) (l.getD j [])=false)/\((rf (vI n))/\(rf (vI (nI l.length)))/\(vI (0:Int)=vI (nI x1))/\(rf (l))))/\∀ x1:Nat,(x1<=l.length/\∀ j,j<x1->(λ r=>decide ((r.getD 0 (.int 0)).n=n)) (l.getD j [])=false)->(ifB ((decide ((nI x1)<(nI l.length)))) ((0<=(nI x1)/\(nI x1)<(l.length:Int))/\((x1<l.length)/\(ifB (((((l.getD x1 []).getD 0 (.int 0))).n == n)) ((vB true=vB (Kf l n))) (∃ y2:Nat,(y2<=l.length/\∀ j,j<y2->(λ r=>decide ((r.getD 0 (.int 0)).n=n)) (l.getD j [])=false)/\(l.length-y2<l.length-x1)/\((rf (vI n))/\(rf (vI (nI l.length)))/\(vI (wR ((nI x1)+(1:Int)))=vI (nI y2))/\(rf (l))))))) ((vB false=vB (Kf l n))))) (by kernel_rfl) ?_
 delta ifB vB vI wR nI
 refine ⟨⟨0,by
  exact ⟨Nat.zero_le _,λ j hj=>absurd hj (Nat.not_lt_zero j)⟩,?_⟩,?_⟩
 ·refine ⟨rfl,rfl,?_,rfl⟩
  rfl
 intro (k:Nat) hki1
 have hki1:k<=l.length/\∀ j,j<k->(λ r=>decide ((r.getD 0 (.int 0)).n=n)) (l.getD j [])=false:=hki1
 refine And.symm ⟨λ c7=>?_,λ c7=>?_⟩
 ·try simp only [nrm] at c7
  exact congrArg Value.bool (Yu (λ j hj=>hki1.2 j (by omega))).symm
 try simp only [nrm] at c7
 refine ao (by omega) λ o8=>?_
 refine ao (by omega) λ o9=>?_
 refine ⟨λ c10=>?_,λ c10=>?_⟩
 ·try simp only [nrm] at c10
  exact congrArg Value.bool (Yt (k:=k) (by omega) c10).symm
 try simp only [nrm] at c10
 refine ⟨k+1,by
  exact ⟨by omega,C7 hki1.2 (decide_eq_false c10)⟩,by
  omega,?_⟩
 refine ⟨rfl,rfl,?_,rfl⟩
 exact AK (AD (by omega) (by omega))
def Cl:Con:={ ι:=Scn×(List Dat),pre:=λ i=>Ct i.1/\CG i.2,args:=λ i=>[DA.agg [cI i.1.low.1,cI i.1.low.2,cI i.1.high.1,cI i.1.high.2,DC.sl 39 [.int,.int] (AJ i.1.robot),DC.sl 40 [.sl 39 [.int,.int]] (Aa i.1.obst),DC.sl 39 [.int,.int] (AJ i.1.tables)],w50 i.2],res:=λ i=>⟨false,[none],[.own 3 [.int] (tpR i.1 i.2)]⟩ }
theorem P3:Cl.Ok Tryz.prog 13:=by
 refine fok (X:=⟨tt,[(66,B7),(67,Jd),(68,IK),(70,BY),(69,GV)],[],38,[]⟩) AI AF (CTok.cons LJ (CTok.cons X1 (CTok.cons V9 (CTok.cons It (CTok.cons Ta (CTok.nil _)))))) Tryz.func13 (λ (i:Scn×(List Dat))=>[(6,.mk 10 (Nat) (λ x1=>{ tm:=[(3,tP 1 0),(16,tX 7),(17,tI (nI ((AJ i.1.tables).length))),(18,tI (nI x1)),(6,tX 8),(5,tX 9)],en:=[(1,.box [kI ((i.2.getD 0 (.int 0)).n),kB ((i.2.getD 1 (.int 0)).b),kI ((i.2.getD 2 (.int 0)).n),kI ((i.2.getD 3 (.int 0)).n),kI ((i.2.getD 4 (.int 0)).n),kI ((i.2.getD 5 (.int 0)).n),.ext 2,.ext 3,.ext 4,.ext 5,.ext 6]),(2,.view 40 [.sl 39 [.int,.int]] ((i.2.getD 6 (.int 0)).r) []),(3,.view 158 E8 ((i.2.getD 7 (.int 0)).r) []),(4,.view 153 E7 ((i.2.getD 8 (.int 0)).r) []),(5,.view 168 [.int,.int] ((i.2.getD 9 (.int 0)).r) []),(6,eV ((i.2.getD 10 (.int 0)).r)),(7,.view 39 [.int,.int] (AJ i.1.tables) []),(8,.own 3 [.int] (tpL i.1 i.2 x1)),(9,.own 3 [.int] (CB i.1))] }) (λ x1=>x1<=i.1.tables.length) (λ x1=>i.1.tables.length-x1) (λ _=>[]))]) ?_
 rintro ⟨s,r⟩ hpre
 have hpre:Ct s/\CG r:=hpre
 refine AH (q:=let Z14:=(r.getD 9 (.int 0)).r;let Z13:=(r.getD 8 (.int 0)).r;let Z12:=(r.getD 7 (.int 0)).r;let Z11:=(r.getD 6 (.int 0)).r;let Z9:=(r.getD 10 (.int 0)).r;let Z8:=List Dat;let Z7:=vI ((r.getD 5 (.int 0)).n);let Z6:=vI ((r.getD 4 (.int 0)).n);let Z5:=vI ((r.getD 3 (.int 0)).n);let Z4:=vI ((r.getD 2 (.int 0)).n);let Z3:=vB ((r.getD 1 (.int 0)).b);let Z2:=vI ((r.getD 0 (.int 0)).n);let Z1:=AJ s.tables;let Z15:=nI (Z1.length);∃ i1:Scn,[DA.agg [cI s.low.1,cI s.low.2,cI s.high.1,cI s.high.2,DC.sl 39 [.int,.int] (AJ s.robot),DC.sl 40 [.sl 39 [.int,.int]] (Aa s.obst),DC.sl 39 [.int,.int] Z1]]=B7.args i1/\B7.pre i1/\(ifB ((!(AV i1))) ((([]:List Z8)=tpR s r)) (∃ i2:Scn,[DA.agg [cI s.low.1,cI s.low.2,cI s.high.1,cI s.high.2,DC.sl 39 [.int,.int] (AJ s.robot),DC.sl 40 [.sl 39 [.int,.int]] (Aa s.obst),DC.sl 39 [.int,.int] Z1]]=Jd.args i2/\Jd.pre i2/\((∃ x1:Nat,(x1<=s.tables.length)/\((rf (vI Z15))/\(vI (0:Int)=vI (nI x1))/\(rf Z2)/\(rf Z3)/\(rf Z4)/\(rf Z5)/\(rf Z6)/\(rf Z7)/\(rf Z11)/\(rf Z12)/\(rf Z13)/\(rf Z14)/\(rf Z9)/\(rf Z1)/\(([]:List Z8)=(tpL s r x1))/\(CB i2=(CB s))))/\∀ x1:Nat,let Z18:=wR ((nI x1)+(1:Int));let Z10:=tpL s r x1;(x1<=s.tables.length)->(ifB ((decide ((nI x1)<Z15))) ((0<=(nI x1)/\(nI x1)<(Z1.length:Int))/\((x1<Z1.length)/\(∃ i3:(List Z8)×Int,[DA.one (cS (CB s)),DA.one (cI (nI x1))]=IK.args i3/\IK.pre i3/\(ifB ((Kf i3.1 i3.2)) (∃ i4:Int×Int,let Z17:=Fr.ofInt i4.2;let Z16:=Fr.ofInt i4.1;[DA.agg [cI ((((Z1.getD x1 []).getD 0 (.int 0))).n),cI ((((Z1.getD x1 []).getD 1 (.int 0))).n)]]=BY.args i4/\BY.pre i4/\(∃ i5:Z8×Pq,[w50 r,DA.agg [cB (decide (Z16.z<0)),cS (L Z16.z.natAbs),cS (L Z16.d),cB (decide (Z17.z<0)),cS (L Z17.z.natAbs),cS (L Z17.d)]]=GV.args i5/\GV.pre i5/\((Z10.length+([[Dat.int (DM i5.1 i5.2)]]:List Z8).length<=1073741824)/\(∃ y2:Nat,(y2<=s.tables.length)/\(s.tables.length-y2<s.tables.length-x1)/\((rf (vI Z15))/\(vI Z18=vI (nI y2))/\(rf Z2)/\(rf Z3)/\(rf Z4)/\(rf Z5)/\(rf Z6)/\(rf Z7)/\(rf Z11)/\(rf Z12)/\(rf Z13)/\(rf Z14)/\(rf Z9)/\(rf Z1)/\((Z10++([[Dat.int (DM i5.1 i5.2)]]:List Z8))=(tpL s r y2))/\(rf (CB s))))))) ((Z10.length+([[Dat.int (-1:Int)]]:List Z8).length<=1073741824)/\(∃ y3:Nat,(y3<=s.tables.length)/\(s.tables.length-y3<s.tables.length-x1)/\((rf (vI Z15))/\(vI Z18=vI (nI y3))/\(rf Z2)/\(rf Z3)/\(rf Z4)/\(rf Z5)/\(rf Z6)/\(rf Z7)/\(rf Z11)/\(rf Z12)/\(rf Z13)/\(rf Z14)/\(rf Z9)/\(rf Z1)/\((Z10++([[Dat.int (-1:Int)]]:List Z8))=(tpL s r y3))/\(rf (CB s))))))))) ((Z10=tpR s r))))))) (by kernel_rfl) ?_
 conv=>zeta
 delta w50 ifB vB vI wR nI
 have hz:=hpre.1.2.2.2
 have hvl:=Ar s.tables
 have hol:=O7 hpre.1
 refine ⟨s,by
  rfl,by
  first|exact hpre.1|trivial|omega,?_⟩
 refine ⟨λ c4=>?_,λ c4=>?_⟩
 ·try simp only [nrm] at c4
  have hE:=Td (r:=r) c4
  first|rw [hE,show k=s.tables.length by omega]|rw [hE]
 try simp only [nrm] at c4
 have hE:=P0 (r:=r) c4
 refine ⟨s,by
  rfl,by
  show Ct s
  first|exact hpre.1|trivial|omega,?_⟩
 refine ⟨⟨0,by
  first|trivial|omega|(simp;omega),?_⟩,?_⟩
 ·refine ⟨rfl,?_,rfl,rfl,rfl,rfl,rfl,rfl,rfl,rfl,rfl,rfl,rfl,rfl,?_,rfl⟩
  ·first|rfl|(simp;done)
  first|rfl|(simp;done)
 intro (k:Nat) hki9
 have hki9:k<=s.tables.length:=hki9
 refine And.symm ⟨λ c27=>?_,λ c27=>?_⟩
 ·try simp only [nrm] at c27
  first|rw [hE,show k=s.tables.length by omega]|rw [hE]
 try simp only [nrm] at c27
 have htl:=Jf s r k
 refine ao (by first|omega|(simp only [List.length_cons,List.length_nil];omega)) λ o28=>?_
 refine ao (by first|omega|(simp only [List.length_cons,List.length_nil];omega)) λ o29=>?_
 refine ⟨((CB s),((k:Nat):Int)),by
  rfl,by
  show (CB s).length<=1073741824
  first|exact hpre.1|trivial|omega,?_⟩
 refine And.symm ⟨λ c33=>?_,λ c33=>?_⟩
 ·try simp only [nrm] at c33
  refine ao (by first|omega|(simp only [List.length_cons,List.length_nil];omega)) λ o60=>?_
  refine ⟨k+1,by
   first|trivial|omega|(simp;omega),by
   first|omega|(simp;omega),?_⟩
  refine ⟨rfl,?_,rfl,rfl,rfl,rfl,rfl,rfl,rfl,rfl,rfl,rfl,rfl,rfl,?_,rfl⟩
  ·first|rfl|exact (Iw c33).symm|exact (Lx c33).symm|exact AK (AD (by omega) (by omega))
  first|rfl|exact (Iw c33).symm|exact (Lx c33).symm|exact AK (AD (by omega) (by omega))
 try simp only [nrm] at c33
 refine ⟨((s.tables.getD k (0,0)).1,(s.tables.getD k (0,0)).2),by
  rw [Dk (by omega),Dl (by omega)];rfl,by
  try dsimp only [BY]
  exact Tc c4 (by omega),?_⟩
 refine ⟨(r,ptV (s.tables.getD k (0,0))),by
  rfl,by
  show CG r/\(ptV (s.tables.getD k (0,0))).good=true
  exact ⟨hpre.2,Rm c4 (by omega)⟩,?_⟩
 refine ao (a:=(tpL s r k).length+([[Dat.int (DM r (ptV (s.tables.getD k (0,0))))]]:List (List Dat)).length<=1073741824) (by first|omega|(simp only [List.length_cons,List.length_nil];omega)) λ o40=>?_
 refine ⟨k+1,by
  first|trivial|omega|(simp;omega),by
  first|omega|(simp;omega),?_⟩
 refine ⟨rfl,?_,rfl,rfl,rfl,rfl,rfl,rfl,rfl,rfl,rfl,rfl,rfl,rfl,?_,rfl⟩
 ·first|rfl|exact (Iw c33).symm|exact (Lx c33).symm|exact AK (AD (by omega) (by omega))
 show ((tpL s r k)++([[Dat.int (DM r (ptV (s.tables.getD k (0,0))))]]:List (List Dat)))=(tpL s r (k+1))
 first|rfl|exact (Iw c33).symm|exact (Lx c33).symm|exact AK (AD (by omega) (by omega))
def Eg:Con:={ ι:=Scn×(List Dat),pre:=λ i=>Ct i.1/\CG i.2,args:=λ i=>[DA.agg [cI i.1.low.1,cI i.1.low.2,cI i.1.high.1,cI i.1.high.2,DC.sl 39 [.int,.int] (AJ i.1.robot),DC.sl 40 [.sl 39 [.int,.int]] (Aa i.1.obst),DC.sl 39 [.int,.int] (AJ i.1.tables)],w50 i.2],res:=λ i=>⟨false,[none],[.own 3 [.int] (tpR i.1 i.2)]⟩ }
theorem P4:Eg.Ok Tryz.prog 10:=by
 refine fok (X:=⟨tt,[(55,B8),(56,Je),(57,GX),(59,AZ),(58,GW)],[],37,[]⟩) AI AF (CTok.cons LK (CTok.cons X2 (CTok.cons Te (CTok.cons F8 (CTok.cons Tb (CTok.nil _)))))) Tryz.func10 (λ (i:Scn×(List Dat))=>[(6,.mk 10 (Nat) (λ x1=>{ tm:=[(3,tP 1 0),(17,tX 7),(18,tI (nI ((AJ i.1.tables).length))),(19,tI (nI x1)),(5,tX 8),(6,tX 9)],en:=[(1,.box [kI ((i.2.getD 0 (.int 0)).n),kB ((i.2.getD 1 (.int 0)).b),kI ((i.2.getD 2 (.int 0)).n),kI ((i.2.getD 3 (.int 0)).n),kI ((i.2.getD 4 (.int 0)).n),kI ((i.2.getD 5 (.int 0)).n),.ext 2,.ext 3,.ext 4,.ext 5,.ext 6]),(2,.view 40 [.sl 39 [.int,.int]] ((i.2.getD 6 (.int 0)).r) []),(3,.view 158 E8 ((i.2.getD 7 (.int 0)).r) []),(4,.view 153 E7 ((i.2.getD 8 (.int 0)).r) []),(5,.view 168 [.int,.int] ((i.2.getD 9 (.int 0)).r) []),(6,eV ((i.2.getD 10 (.int 0)).r)),(7,.view 39 [.int,.int] (AJ i.1.tables) []),(8,.own 3 [.int] (tpL i.1 i.2 x1)),(9,.own 3 [.int] (CB i.1))] }) (λ x1=>x1<=i.1.tables.length) (λ x1=>i.1.tables.length-x1) (λ _=>[]))]) ?_
 rintro ⟨s,r⟩ hpre
 have hpre:Ct s/\CG r:=hpre
 refine AH (q:=let Z14:=(r.getD 9 (.int 0)).r;let Z13:=(r.getD 8 (.int 0)).r;let Z12:=(r.getD 7 (.int 0)).r;let Z11:=(r.getD 6 (.int 0)).r;let Z9:=(r.getD 10 (.int 0)).r;let Z8:=List Dat;let Z7:=vI ((r.getD 5 (.int 0)).n);let Z6:=vI ((r.getD 4 (.int 0)).n);let Z5:=vI ((r.getD 3 (.int 0)).n);let Z4:=vI ((r.getD 2 (.int 0)).n);let Z3:=vB ((r.getD 1 (.int 0)).b);let Z2:=vI ((r.getD 0 (.int 0)).n);let Z1:=AJ s.tables;let Z15:=nI (Z1.length);∃ i1:Scn,[DA.agg [cI s.low.1,cI s.low.2,cI s.high.1,cI s.high.2,DC.sl 39 [.int,.int] (AJ s.robot),DC.sl 40 [.sl 39 [.int,.int]] (Aa s.obst),DC.sl 39 [.int,.int] Z1]]=B8.args i1/\B8.pre i1/\(ifB ((!(AV i1))) ((([]:List Z8)=tpR s r)) (∃ i2:Scn,[DA.agg [cI s.low.1,cI s.low.2,cI s.high.1,cI s.high.2,DC.sl 39 [.int,.int] (AJ s.robot),DC.sl 40 [.sl 39 [.int,.int]] (Aa s.obst),DC.sl 39 [.int,.int] Z1]]=Je.args i2/\Je.pre i2/\((∃ x1:Nat,(x1<=s.tables.length)/\((rf (vI Z15))/\(vI (0:Int)=vI (nI x1))/\(rf Z2)/\(rf Z3)/\(rf Z4)/\(rf Z5)/\(rf Z6)/\(rf Z7)/\(rf Z11)/\(rf Z12)/\(rf Z13)/\(rf Z14)/\(rf Z9)/\(rf Z1)/\(([]:List Z8)=(tpL s r x1))/\(CB i2=(CB s))))/\∀ x1:Nat,let Z18:=wR ((nI x1)+(1:Int));let Z10:=tpL s r x1;(x1<=s.tables.length)->(ifB ((decide ((nI x1)<Z15))) ((0<=(nI x1)/\(nI x1)<(Z1.length:Int))/\((x1<Z1.length)/\(∃ i3:(List Z8)×Int,[DA.one (cS (CB s)),DA.one (cI (nI x1))]=GX.args i3/\GX.pre i3/\(ifB ((Kf i3.1 i3.2)) (∃ i4:Int×Int,let Z17:=Fr.ofInt i4.2;let Z16:=Fr.ofInt i4.1;[DA.agg [cI ((((Z1.getD x1 []).getD 0 (.int 0))).n),cI ((((Z1.getD x1 []).getD 1 (.int 0))).n)]]=AZ.args i4/\AZ.pre i4/\(∃ i5:Z8×Pq,[w50 r,DA.agg [cB (decide (Z16.z<0)),cS (L Z16.z.natAbs),cS (L Z16.d),cB (decide (Z17.z<0)),cS (L Z17.z.natAbs),cS (L Z17.d)]]=GW.args i5/\GW.pre i5/\((Z10.length+([[Dat.int (DM i5.1 i5.2)]]:List Z8).length<=1073741824)/\(∃ y2:Nat,(y2<=s.tables.length)/\(s.tables.length-y2<s.tables.length-x1)/\((rf (vI Z15))/\(vI Z18=vI (nI y2))/\(rf Z2)/\(rf Z3)/\(rf Z4)/\(rf Z5)/\(rf Z6)/\(rf Z7)/\(rf Z11)/\(rf Z12)/\(rf Z13)/\(rf Z14)/\(rf Z9)/\(rf Z1)/\((Z10++([[Dat.int (DM i5.1 i5.2)]]:List Z8))=(tpL s r y2))/\(rf (CB s))))))) ((Z10.length+([[Dat.int (-1:Int)]]:List Z8).length<=1073741824)/\(∃ y3:Nat,(y3<=s.tables.length)/\(s.tables.length-y3<s.tables.length-x1)/\((rf (vI Z15))/\(vI Z18=vI (nI y3))/\(rf Z2)/\(rf Z3)/\(rf Z4)/\(rf Z5)/\(rf Z6)/\(rf Z7)/\(rf Z11)/\(rf Z12)/\(rf Z13)/\(rf Z14)/\(rf Z9)/\(rf Z1)/\((Z10++([[Dat.int (-1:Int)]]:List Z8))=(tpL s r y3))/\(rf (CB s))))))))) ((Z10=tpR s r))))))) (by kernel_rfl) ?_
 conv=>zeta
 delta w50 ifB vB vI wR nI
 have hz:=hpre.1.2.2.2
 have hvl:=Ar s.tables
 have hol:=O7 hpre.1
 refine ⟨s,by
  rfl,by
  first|exact hpre.1|trivial|omega,?_⟩
 refine ⟨λ c4=>?_,λ c4=>?_⟩
 ·try simp only [nrm] at c4
  have hE:=Td (r:=r) c4
  first|rw [hE,show k=s.tables.length by omega]|rw [hE]
 try simp only [nrm] at c4
 have hE:=P0 (r:=r) c4
 refine ⟨s,by
  rfl,by
  show Ct s
  first|exact hpre.1|trivial|omega,?_⟩
 refine ⟨⟨0,by
  first|trivial|omega|(simp;omega),?_⟩,?_⟩
 ·refine ⟨rfl,?_,rfl,rfl,rfl,rfl,rfl,rfl,rfl,rfl,rfl,rfl,rfl,rfl,?_,rfl⟩
  ·first|rfl|(simp;done)
  first|rfl|(simp;done)
 intro (k:Nat) hki9
 have hki9:k<=s.tables.length:=hki9
 refine And.symm ⟨λ c27=>?_,λ c27=>?_⟩
 ·try simp only [nrm] at c27
  first|rw [hE,show k=s.tables.length by omega]|rw [hE]
 try simp only [nrm] at c27
 have htl:=Jf s r k
 refine ao (by first|omega|(simp only [List.length_cons,List.length_nil];omega)) λ o28=>?_
 refine ao (by first|omega|(simp only [List.length_cons,List.length_nil];omega)) λ o29=>?_
 refine ⟨((CB s),((k:Nat):Int)),by
  rfl,by
  show (CB s).length<=1073741824
  first|exact hpre.1|trivial|omega,?_⟩
 refine And.symm ⟨λ c33=>?_,λ c33=>?_⟩
 ·try simp only [nrm] at c33
  refine ao (by first|omega|(simp only [List.length_cons,List.length_nil];omega)) λ o60=>?_
  refine ⟨k+1,by
   first|trivial|omega|(simp;omega),by
   first|omega|(simp;omega),?_⟩
  refine ⟨rfl,?_,rfl,rfl,rfl,rfl,rfl,rfl,rfl,rfl,rfl,rfl,rfl,rfl,?_,rfl⟩
  ·first|rfl|exact (Iw c33).symm|exact (Lx c33).symm|exact AK (AD (by omega) (by omega))
  first|rfl|exact (Iw c33).symm|exact (Lx c33).symm|exact AK (AD (by omega) (by omega))
 try simp only [nrm] at c33
 refine ⟨((s.tables.getD k (0,0)).1,(s.tables.getD k (0,0)).2),by
  rw [Dk (by omega),Dl (by omega)];rfl,by
  try dsimp only [AZ]
  exact Tc c4 (by omega),?_⟩
 refine ⟨(r,ptV (s.tables.getD k (0,0))),by
  rfl,by
  show CG r/\(ptV (s.tables.getD k (0,0))).good=true
  exact ⟨hpre.2,Rm c4 (by omega)⟩,?_⟩
 refine ao (a:=(tpL s r k).length+([[Dat.int (DM r (ptV (s.tables.getD k (0,0))))]]:List (List Dat)).length<=1073741824) (by first|omega|(simp only [List.length_cons,List.length_nil];omega)) λ o40=>?_
 refine ⟨k+1,by
  first|trivial|omega|(simp;omega),by
  first|omega|(simp;omega),?_⟩
 refine ⟨rfl,?_,rfl,rfl,rfl,rfl,rfl,rfl,rfl,rfl,rfl,rfl,rfl,rfl,?_,rfl⟩
 ·first|rfl|exact (Iw c33).symm|exact (Lx c33).symm|exact AK (AD (by omega) (by omega))
 show ((tpL s r k)++([[Dat.int (DM r (ptV (s.tables.getD k (0,0))))]]:List (List Dat)))=(tpL s r (k+1))
 first|rfl|exact (Iw c33).symm|exact (Lx c33).symm|exact AK (AD (by omega) (by omega))
end Go.Proofs.YtmedodfenejimaaGreat
