import Derived.Test.YtkffpiaagjcmpaaGreatFrRkSu
import Derived.Test.YtkffpiaagjcmpaaGreatFrHulQ
import Derived.Test.YtkffpiaagjcmpaaGreatFrCon
import Derived.Test.YtkffpiaagjcmpaaGreatFrSat
import Derived.Test.YtkffpiaagjcmpaaGreatFrHus
import Derived.Test.YtkffpiaagjcmpaaGreatFrScA
import Derived.RegionTactic
import Derived.BigRegion
import Derived.Outline
import Derived.WalkSpells
import Derived.Test.YtkffpiaagjcmpaaGreatFrHuw
namespace Go.Proofs.YtkffpiaagjcmpaaGreat
set_option maxRecDepth 100000
set_option linter.unusedVariables false
set_option linter.unusedSimpArgs false
open Go.RowKit
def F4 {α:Type} (p:α->Bool) (l:List α):Int:=match l.findIdx? p with|some k=>(k:Int)|none=>-1
theorem Ud {α:Type} {p:α->Bool} {l:List α} {d:α} {k:Nat} (hk:k<l.length) (h:∀ j,j<k->p (l.getD j d)=false) (hp:p (l.getD k d)=true):F4 p l=(k:Int):=by
 have:l.findIdx? p=some k:=by
  rw [List.findIdx?_eq_some_iff_getElem]
  refine ⟨hk,by simpa [List.getD,hk] using hp,λ j hj=>?_⟩
  have:=h j hj
  simpa [List.getD,show j<l.length by omega] using this
 unfold F4;rw [this]
theorem Jy {α:Type} {p:α->Bool} {l:List α} {d:α} (h:∀ j,j<l.length->p (l.getD j d)=false):F4 p l=-1:=by
 have:l.findIdx? p=none:=by
  rw [List.findIdx?_eq_none_iff]
  intro x hx
  obtain ⟨j,hj,rfl⟩:=List.getElem_of_mem hx
  have:=h j hj
  simpa [List.getD,hj] using this
 unfold F4;rw [this]
theorem RK {α:Type} (p:α->Bool) (l:List α):decide (F4 p l≥0)=l.any p:=by
 unfold F4
 cases h:l.findIdx? p with
 | some k=>
  rw [List.findIdx?_eq_some_iff_getElem] at h
  obtain ⟨h1,h2,_⟩:=h
  have:l.any p=true:=List.any_eq_true.2 ⟨l[k],List.getElem_mem h1,h2⟩
  rw [this];simp
 | none=>
  rw [List.findIdx?_eq_none_iff] at h
  have:l.any p=false:=by rw [List.any_eq_false];intro x hx;rw [h x hx];simp
  rw [this];rfl
def EF (l:List V2) (dx dy:Int):List V2:=if AD (dx,dy)=true/\(BU l dx dy).all AD=true then BU l dx dy else []
theorem PE {l:List V2} {dx dy:Int} (h:AD (dx,dy)=false∨(BU l dx dy).all AD=false):EF l dx dy=[]:=by
 unfold EF;rw [if_neg];rintro ⟨h1,h2⟩;rcases h with h|h <;> simp_all
theorem GY {l:List V2} {dx dy:Int} (h:AD (dx,dy)=true) (h' : (BU l dx dy).all AD=true):EF l dx dy=BU l dx dy:=by
 unfold EF;rw [if_pos ⟨h,h'⟩]
def DW (n:Nat):List (List Dat):=(List.range n).map λ (i:Nat)=>[Dat.int (i:Int)]
theorem RL (n:Nat):(DW n).length=n:=by simp [DW]
theorem OF (n:Nat):DW (n+1)=DW n++[[Dat.int (n:Int)]]:=by simp [DW,List.range_succ]
theorem Zm {n k:Nat} (h:k<n):(((DW n).getD k []).getD 0 (.int 0)).n=(k:Int):=by simp [DW,List.getD,h,Dat.n]
theorem RM {n k:Nat} (h:k<n):(List.range n).getD k 0=k:=by simp [List.getD,h]
def F5 (a:List V2) (i:Nat) (n c:V2):Bool:=decide (AF (a.getD i (0,0)) n c≥0)
def GZ (a b:List V2) (i:Nat):Bool:=!(b.any (F5 a i (a.getD ((i+1)%a.length) (0,0))))
def Kb (a b:List V2):Int:=F4 (GZ a b) (List.range a.length)
def Ej (a b:List V2):Bool:=AG a && (AG b && (decide (Kb a b<0) && decide (Kb b a<0)))
def ABe (a b:List V2):Int:=if AG a=true/\AG b=true then Kb a b else -1
def Fi:Con:={ ι:=(List V2),pre:=λ i=>i.length<=1048576,args:=λ i=>[.one (DC.sl 24 [.int,.int] (AA i))],res:=λ i=>⟨false,[none],[.own 3 [.int] (DW i.length)]⟩ }
theorem Vw:Fi.Ok Tryz.prog 81:=by
 refine fok (X:=⟨tt,[],[],17,[]⟩) mixed AN (CTok.nil _) Tryz.func81 (λ (i:(List V2))=>[(3,.mk 2 (Nat) (λ x1=>{ tm:=[(3,tX 1),(7,tI (nI i.length)),(8,tI (x1:Int))],en:=[(1,.own 3 [.int] (DW x1))] }) (λ x1=>x1<=i.length) (λ x1=>i.length-x1) (λ _=>[]))]) ?_
 intro (l:List V2) hpre
 have hpre:l.length<=1048576:=hpre
 refine AM (q:=(∃ x1:Nat,(x1<=l.length)/\((vI (nI ((AA l).length))=vI (nI l.length))/\(vI (0:Int)=vI (x1:Int))/\(([]:List (List Dat))=(DW x1))))/\∀ x1:Nat,(x1<=l.length)->(ifB ((decide ((x1:Int)<(nI l.length)))) (((DW x1).length+([[Dat.int (x1:Int)]]:List (List Dat)).length<=2199023255552)/\(∃ y2:Nat,(y2<=l.length)/\(l.length-y2<l.length-x1)/\((rf (vI (nI l.length)))/\(vI (wR ((x1:Int)+(1:Int)))=vI (y2:Int))/\(((DW x1)++([[Dat.int (x1:Int)]]:List (List Dat)))=(DW y2))))) (((DW x1)=DW l.length)))) (by kernel_rfl) ?_
 delta ifB vI wR nI
 have hvl:=AC l
 refine ⟨⟨0,by
  first|omega|trivial,?_⟩,?_⟩
 ·refine ⟨?_,rfl,?_⟩
  ·first|rfl|exact AR (by rw [hvl])
  first|rfl|exact AR (by rw [hvl])
 intro (k:Nat) hki1
 have hki1:k<=l.length:=hki1
 refine And.symm ⟨λ c6=>?_,λ c6=>?_⟩
 ·try simp only [nrm] at c6
  rw [show k=l.length by omega]
 try simp only [nrm] at c6
 refine ao (by first|rfl|omega|(rw [RL];simp only [List.length_cons,List.length_nil];omega)) λ o7=>?_
 refine ⟨k+1,by
  first|omega|trivial,by
  first|omega|(simp;omega),?_⟩
 refine ⟨rfl,?_,?_⟩
 ·first|rfl|exact (OF k).symm|exact AR (AE (by omega) (by omega))
 first|rfl|exact (OF k).symm|exact AR (AE (by omega) (by omega))
def HW:Con:={ ι:=V2×(List V2)×Nat×V2,pre:=λ i=>AD i.1=true/\i.2.2.1<i.2.1.length/\i.2.1.all AD=true/\AD i.2.2.2=true,args:=λ i=>[DA.agg [cI i.1.1,cI i.1.2],.one (.ro (.ptr [.sl 24 [.int,.int] (AA i.2.1)])),.one (.ro (.ptr [.im (Value.int .i64 (i.2.2.1:Int))])),.one (.ro (.ptr [.im (Value.int .i64 i.2.2.2.1),.im (Value.int .i64 i.2.2.2.2)]))],res:=λ i=>⟨false,[none],[rcB (F5 i.2.1 i.2.2.1 i.2.2.2 i.1)]⟩ }
theorem YP:HW.Ok Tryz.prog 83:=by
 refine fok (X:=⟨tt,[(41,Cg)],[],14,[]⟩) mixed AN (CTok.cons Q3 (CTok.nil _)) Tryz.func83 (λ _=>[]) ?_
 rintro ⟨c,a,i,n⟩ hpre
 have hpre:AD c=true/\i<a.length/\a.all AD=true/\AD n=true:=hpre
 refine AM (q:=(0<=(i:Int)/\(i:Int)<((AA a).length:Int))/\((i<(AA a).length)/\(∃ i1:Int×Int×Int×Int×Int×Int,[DA.agg [cI (((((AA a).getD i []).getD 0 (.int 0))).n),cI (((((AA a).getD i []).getD 1 (.int 0))).n)],DA.agg [cI n.1,cI n.2],DA.agg [cI c.1,cI c.2]]=Cg.args i1/\Cg.pre i1/\((vB (decide ((AF (i1.1,i1.2.1) (i1.2.2.1,i1.2.2.2.1) (i1.2.2.2.2.1,i1.2.2.2.2.2))≥(0:Int)))=vB (F5 a i n c)))))) (by kernel_rfl) ?_
 delta vB
 obtain ⟨hc,hi,ha,hn⟩:=hpre
 have hvl:=AC a
 have hv:=Ak ha hi
 refine ao (by first|rfl|omega) λ o1=>?_
 refine ao (by first|rfl|omega) λ o2=>?_
 refine ⟨(((((AA a).getD i []).getD 0 (.int 0))).n,((((AA a).getD i []).getD 1 (.int 0))).n,n.1,n.2,c.1,c.2),by
  rfl,by
  show AD ((((((AA a).getD i []).getD 0 (.int 0))).n),(((((AA a).getD i []).getD 1 (.int 0))).n))=true/\AD (n.1,n.2)=true/\AD (c.1,c.2)=true
  (rw [Ai hi,Aj hi];exact ⟨hv,hn,hc⟩),?_⟩
 show Value.bool (decide ((AF ((((((AA a).getD i []).getD 0 (.int 0))).n),(((((AA a).getD i []).getD 1 (.int 0))).n)) (n.1,n.2) (c.1,c.2))≥(0:Int)))=Value.bool (F5 a i n c)
 exact congrArg Value.bool (by unfold F5;rw [Ai hi,Aj hi])
theorem RN {P:Nat->Bool} {k:Nat} (h:∀ j,j<k->P j=false) (hk:P k=false):∀ j,j<k+1->P j=false:=λ j hj=>by
 rcases Nat.lt_succ_iff_lt_or_eq.1 hj with h' | rfl
 ·exact h j h'
 ·exact hk
def EZ:Con:={ ι:=(List V2)×(List V2)×Nat×V2,pre:=λ i=>(i.1.length<=1048576/\i.1.all AD=true)/\i.2.2.1<i.2.1.length/\i.2.1.all AD=true/\AD i.2.2.2=true,args:=λ i=>[.one (DC.sl 24 [.int,.int] (AA i.1)),.one (.ro (.fn 83 [[.sl 24 [.int,.int] (AA i.2.1)],[.im (Value.int .i64 (i.2.2.1:Int))],[.im (Value.int .i64 i.2.2.2.1),.im (Value.int .i64 i.2.2.2.2)]]))],tag:=84,res:=λ i=>⟨false,[none],[rcI (F4 (F5 i.2.1 i.2.2.1 i.2.2.2) i.1)]⟩ }
theorem TF:EZ.Ok Tryz.prog 127:=by
 refine fok (X:=⟨tt,[(83,HW)],[],19,[]⟩) mixed AN (CTok.cons YP (CTok.nil _)) Tryz.func127 (λ (i:(List V2)×(List V2)×Nat×V2)=>[(2,.mk 3 (Nat) (λ x1=>{ tm:=[(0,tX 1),(1,tX 2),(7,tI (nI ((AA i.1).length))),(8,tI (nI x1))],en:=[(1,.view 24 [.int,.int] (AA i.1) []),(2,.ro (.fn 83 [[.sl 24 [.int,.int] (AA i.2.1)],[.im (Value.int .i64 (i.2.2.1:Int))],[.im (Value.int .i64 i.2.2.2.1),.im (Value.int .i64 i.2.2.2.2)]]) [])] }) (λ x1=>x1<=i.1.length/\∀ r,r<x1->(F5 i.2.1 i.2.2.1 i.2.2.2) (i.1.getD r (0,0))=false) (λ x1=>i.1.length-x1) (λ _=>[]))]) ?_
 rintro ⟨l,a,i,n⟩ hpre
 have hpre:(l.length<=1048576/\l.all AD=true)/\i<a.length/\a.all AD=true/\AD n=true:=hpre
 refine AM (q:=let Z4:=vI (i:Int);let Z3:=F5 a i n;let Z2:=nI ((AA l).length);let Z1:=(.fn 83 [[.sl 24 [.int,.int] (AA a)],[.im Z4],[.im (vI n.1),.im (vI n.2)]]:RO)=.fn 83 [[.sl 24 [.int,.int] (AA a)],[.im Z4],[.im (vI n.1),.im (vI n.2)]];(∃ x1:Nat,(x1<=l.length/\∀ r,r<x1->Z3 (l.getD r (0,0))=false)/\((rf (vI Z2))/\(vI (0:Int)=vI (nI x1))/\(rf (AA l))/\Z1))/\∀ x1:Nat,(x1<=l.length/\∀ r,r<x1->Z3 (l.getD r (0,0))=false)->(ifB ((decide ((nI x1)<Z2))) ((0<=(nI x1)/\(nI x1)<((AA l).length:Int))/\((x1<(AA l).length)/\(∃ i1:V2×(List V2)×Nat×V2,[DA.agg [cI (((((AA l).getD x1 []).getD 0 (.int 0))).n),cI (((((AA l).getD x1 []).getD 1 (.int 0))).n)],DA.one (DC.ro (.ptr [.sl 24 [.int,.int] (AA a)])),DA.one (DC.ro (.ptr [.im Z4])),DA.one (DC.ro (.ptr [.im (vI n.1),.im (vI n.2)]))]=HW.args i1/\HW.pre i1/\(ifB ((F5 i1.2.1 i1.2.2.1 i1.2.2.2 i1.1)) ((vI (nI x1)=vI (F4 Z3 l))) (∃ y2:Nat,(y2<=l.length/\∀ r,r<y2->Z3 (l.getD r (0,0))=false)/\(l.length-y2<l.length-x1)/\((rf (vI Z2))/\(vI (wR ((nI x1)+(1:Int)))=vI (nI y2))/\(rf (AA l))/\Z1)))))) ((vI (-1:Int)=vI (F4 Z3 l))))) (by kernel_rfl) ?_
 conv=>zeta
 delta ifB vI wR nI
 have hvl:=AC l
 refine ⟨⟨0,by
  exact ⟨Nat.zero_le _,λ j hj=>absurd hj (Nat.not_lt_zero j)⟩,?_⟩,?_⟩
 ·refine ⟨rfl,?_,rfl,?_⟩
  ·first|rfl|(simp;done)
  first|rfl|(simp;done)
 intro (k:Nat) hki1
 have hki1:k<=l.length/\∀ r,r<k->(F5 a i n) (l.getD r (0,0))=false:=hki1
 refine And.symm ⟨λ c7=>?_,λ c7=>?_⟩
 ·try simp only [nrm] at c7
  rw [Jy (d:=(0,0)) (λ j hj=>hki1.2 j (by omega))]
 try simp only [nrm] at c7
 refine ao (by first|rfl|omega) λ o8=>?_
 refine ao (by first|rfl|omega) λ o9=>?_
 refine ⟨(l.getD k (0,0),a,i,n),by
  first|rfl|(rw [Ai (show k<l.length by omega),Aj (show k<l.length by omega)];rfl),by
  show AD (l.getD k (0,0))=true/\i<a.length/\a.all AD=true/\AD n=true
  exact ⟨Ak hpre.1.2 (by omega),hpre.2⟩,?_⟩
 refine ⟨λ c13=>?_,λ c13=>?_⟩
 ·try simp only [nrm] at c13
  rw [Ud (d:=(0,0)) (by omega) hki1.2 c13]
 try simp only [nrm] at c13
 refine ⟨k+1,by
  exact ⟨by omega,RN hki1.2 c13⟩,by
  first|omega|(simp;omega),?_⟩
 refine ⟨rfl,?_,rfl,?_⟩
 ·first|rfl|exact AR (AE (by omega) (by omega))
 first|rfl|exact AR (AE (by omega) (by omega))
def Ky:Con:={ ι:=(List V2)×(List V2)×Nat×V2,pre:=λ i=>(i.1.length<=1048576/\i.1.all AD=true)/\i.2.2.1<i.2.1.length/\i.2.1.all AD=true/\AD i.2.2.2=true,args:=λ i=>[.one (DC.sl 24 [.int,.int] (AA i.1)),.one (.ro (.fn 83 [[.sl 24 [.int,.int] (AA i.2.1)],[.im (Value.int .i64 (i.2.2.1:Int))],[.im (Value.int .i64 i.2.2.2.1),.im (Value.int .i64 i.2.2.2.2)]]))],tag:=84,res:=λ i=>⟨false,[none],[rcB (i.1.any (F5 i.2.1 i.2.2.1 i.2.2.2))]⟩ }
theorem AA4:Ky.Ok Tryz.prog 73:=by
 refine fok (X:=⟨tt,[(127,EZ)],[],9,[]⟩) mixed AN (CTok.cons TF (CTok.nil _)) Tryz.func73 (λ _=>[]) ?_
 rintro ⟨l,a,i,n⟩ hpre
 have hpre:(l.length<=1048576/\l.all AD=true)/\i<a.length/\a.all AD=true/\AD n=true:=hpre
 refine AM (q:=∃ i1:(List V2)×(List V2)×Nat×V2,[DA.one (DC.sl 24 [.int,.int] (AA l)),DA.one (DC.ro (.fn 83 [[.sl 24 [.int,.int] (AA a)],[.im (vI (i:Int))],[.im (vI n.1),.im (vI n.2)]]))]=EZ.args i1/\EZ.pre i1/\((vB (decide ((F4 (F5 i1.2.1 i1.2.2.1 i1.2.2.2) i1.1)≥(0:Int)))=vB (l.any (F5 a i n))))) (by kernel_rfl) ?_
 delta vB vI
 refine ⟨(l,a,i,n),by
  rfl,by
  exact hpre,?_⟩
 show Value.bool (decide ((F4 (F5 a i n) l)≥(0:Int)))=Value.bool (l.any (F5 a i n))
 exact congrArg Value.bool (RK _ _)
def I0:Con:={ ι:=Nat×(List V2)×(List V2),pre:=λ i=>i.1<i.2.1.length/\(i.2.1.length<=1048576/\i.2.1.all AD=true)/\i.2.2.length<=1048576/\i.2.2.all AD=true,args:=λ i=>[.one (cI (i.1:Int)),.one (.ro (.ptr [.sl 24 [.int,.int] (AA i.2.1)])),.one (.ro (.ptr [.sl 24 [.int,.int] (AA i.2.2)]))],res:=λ i=>⟨false,[none],[rcB (GZ i.2.1 i.2.2 i.1)]⟩ }
theorem Zn:I0.Ok Tryz.prog 82:=by
 refine fok (X:=⟨tt,[(73,Ky)],[],18,[]⟩) mixed AN (CTok.cons AA4 (CTok.nil _)) Tryz.func82 (λ _=>[]) ?_
 rintro ⟨i,a,b⟩ hpre
 have hpre:i<a.length/\(a.length<=1048576/\a.all AD=true)/\b.length<=1048576/\b.all AD=true:=hpre
 refine AM (q:=let Z1:=Int.tmod (wR ((i:Int)+(1:Int))) (nI ((AA a).length));let Z2:=(AA a).getD (Z1.toNat) [];((nI ((AA a).length))≠0)/\((0<=Z1/\Z1<((AA a).length:Int))/\((Z1.toNat<(AA a).length)/\(∃ i1:(List V2)×(List V2)×Nat×V2,[DA.one (DC.sl 24 [.int,.int] (AA b)),DA.one (DC.ro (.fn 83 [[.sl 24 [.int,.int] (AA a)],[.im (vI (i:Int))],[.im (vI ((Z2.getD 0 (.int 0))).n),.im (vI ((Z2.getD 1 (.int 0))).n)]]))]=Ky.args i1/\Ky.pre i1/\((vB (!(i1.1.any (F5 i1.2.1 i1.2.2.1 i1.2.2.2)))=vB (GZ a b i))))))) (by kernel_rfl) ?_
 conv=>zeta
 delta vB vI wR nI
 obtain ⟨hi,⟨ha1,ha2⟩,hb1,hb2⟩:=hpre
 have hvl:=AC a
 have m2:(i+1)%a.length<a.length:=Nat.mod_lt _ (by omega)
 have hw:IntKind.i64.wrap ((i:Int)+1)=((i+1:Nat):Int):=AE (by omega) (by omega)
 have m3:Int.tmod (IntKind.i64.wrap ((i:Int)+1)) (((AA a).length:Nat):Int)=(((i+1)%a.length:Nat):Int):=by rw [hw,hvl];rfl
 have m1:(Int.tmod (IntKind.i64.wrap ((i:Int)+1)) (((AA a).length:Nat):Int)).toNat=(i+1)%a.length:=by rw [m3];rfl
 refine ao (by first|rfl|omega|(rw [m3];omega)|(rw [m1];omega)) λ o1=>?_
 refine ao (by first|rfl|omega|(rw [m3];omega)|(rw [m1];omega)) λ o2=>?_
 refine ao (by first|rfl|omega|(rw [m3];omega)|(rw [m1];omega)) λ o3=>?_
 refine ⟨(b,a,i,(a.getD ((i+1)%a.length) (0,0))),by
  (rw [m1,Ai m2,Aj m2];rfl),by
  show (b.length<=1048576/\b.all AD=true)/\i<a.length/\a.all AD=true/\AD (a.getD ((i+1)%a.length) (0,0))=true
  exact ⟨⟨hb1,hb2⟩,hi,ha2,Ak ha2 m2⟩,?_⟩
 show Value.bool (!(b.any (F5 a i (a.getD ((i+1)%a.length) (0,0)))))=Value.bool (GZ a b i)
 rfl
def Fj:Con:={ ι:=Nat×(List V2)×(List V2),pre:=λ i=>i.1<=i.2.1.length/\(i.2.1.length<=1048576/\i.2.1.all AD=true)/\i.2.2.length<=1048576/\i.2.2.all AD=true,args:=λ i=>[.one (cS (DW i.1)),.one (.ro (.fn 82 [[.sl 24 [.int,.int] (AA i.2.1)],[.sl 24 [.int,.int] (AA i.2.2)]]))],tag:=83,res:=λ i=>⟨false,[none],[rcI (F4 (GZ i.2.1 i.2.2) (List.range i.1))]⟩ }
theorem Vx:Fj.Ok Tryz.prog 80:=by
 refine fok (X:=⟨tt,[(82,I0)],[],19,[]⟩) mixed AN (CTok.cons Zn (CTok.nil _)) Tryz.func80 (λ (i:Nat×(List V2)×(List V2))=>[(2,.mk 3 (Nat) (λ x1=>{ tm:=[(0,tX 1),(1,tX 2),(7,tI (nI ((DW i.1).length))),(8,tI (nI x1))],en:=[(1,eV (DW i.1)),(2,.ro (.fn 82 [[.sl 24 [.int,.int] (AA i.2.1)],[.sl 24 [.int,.int] (AA i.2.2)]]) [])] }) (λ x1=>x1<=i.1/\∀ r,r<x1->GZ i.2.1 i.2.2 ((List.range i.1).getD r 0)=false) (λ x1=>i.1-x1) (λ _=>[]))]) ?_
 rintro ⟨n,a,b⟩ hpre
 have hpre:n<=a.length/\(a.length<=1048576/\a.all AD=true)/\b.length<=1048576/\b.all AD=true:=hpre
 refine AM (q:=let Z3:=nI ((DW n).length);let Z2:=List.range n;let Z1:=(.fn 82 [[.sl 24 [.int,.int] (AA a)],[.sl 24 [.int,.int] (AA b)]]:RO)=.fn 82 [[.sl 24 [.int,.int] (AA a)],[.sl 24 [.int,.int] (AA b)]];(∃ x1:Nat,(x1<=n/\∀ r,r<x1->GZ a b (Z2.getD r 0)=false)/\((rf (vI Z3))/\(vI (0:Int)=vI (nI x1))/\(rf (DW n))/\Z1))/\∀ x1:Nat,(x1<=n/\∀ r,r<x1->GZ a b (Z2.getD r 0)=false)->(ifB ((decide ((nI x1)<Z3))) ((0<=(nI x1)/\(nI x1)<((DW n).length:Int))/\((x1<(DW n).length)/\(∃ i1:Nat×(List V2)×(List V2),[DA.one (cI (((((DW n).getD x1 []).getD 0 (.int 0))).n)),DA.one (DC.ro (.ptr [.sl 24 [.int,.int] (AA a)])),DA.one (DC.ro (.ptr [.sl 24 [.int,.int] (AA b)]))]=I0.args i1/\I0.pre i1/\(ifB ((GZ i1.2.1 i1.2.2 i1.1)) ((vI (nI x1)=vI (F4 (GZ a b) Z2))) (∃ y2:Nat,(y2<=n/\∀ r,r<y2->GZ a b (Z2.getD r 0)=false)/\(n-y2<n-x1)/\((rf (vI Z3))/\(vI (wR ((nI x1)+(1:Int)))=vI (nI y2))/\(rf (DW n))/\Z1)))))) ((vI (-1:Int)=vI (F4 (GZ a b) Z2))))) (by kernel_rfl) ?_
 conv=>zeta
 delta ifB vI wR nI
 have hvl:=RL n
 refine ⟨⟨0,by
  exact ⟨Nat.zero_le _,λ j hj=>absurd hj (Nat.not_lt_zero j)⟩,?_⟩,?_⟩
 ·refine ⟨rfl,?_,rfl,?_⟩
  ·first|rfl|(simp;done)
  first|rfl|(simp;done)
 intro (k:Nat) hki1
 have hki1:k<=n/\∀ r,r<k->GZ a b ((List.range n).getD r 0)=false:=hki1
 refine And.symm ⟨λ c7=>?_,λ c7=>?_⟩
 ·try simp only [nrm] at c7
  rw [Jy (d:=0) (λ j hj=>hki1.2 j (by simp at hj;omega))]
 try simp only [nrm] at c7
 refine ao (by first|rfl|omega) λ o8=>?_
 refine ao (by first|rfl|omega) λ o9=>?_
 refine ⟨(k,a,b),by
  first|rfl|(rw [Zm (show k<n by omega)];rfl),by
  show k<a.length/\(a.length<=1048576/\a.all AD=true)/\b.length<=1048576/\b.all AD=true
  exact ⟨by omega,hpre.2⟩,?_⟩
 refine ⟨λ c13=>?_,λ c13=>?_⟩
 ·try simp only [nrm] at c13
  rw [Ud (d:=0) (k:=k) (by simp;omega) hki1.2 (by rw [RM (by omega)];exact c13)]
 try simp only [nrm] at c13
 refine ⟨k+1,by
  exact ⟨by omega,RN hki1.2 (by rw [RM (by omega)];exact c13)⟩,by
  first|omega|(simp;omega),?_⟩
 refine ⟨rfl,?_,rfl,?_⟩
 ·first|rfl|exact AR (AE (by omega) (by omega))
 first|rfl|exact AR (AE (by omega) (by omega))
def FG:Con:={ ι:=(List V2)×(List V2),pre:=λ i=>(i.1.length<=1048576/\i.1.all AD=true)/\i.2.length<=1048576/\i.2.all AD=true,args:=λ i=>[.one (DC.sl 24 [.int,.int] (AA i.1)),.one (DC.sl 24 [.int,.int] (AA i.2))],res:=λ i=>⟨false,[none],[rcI (Kb i.1 i.2)]⟩ }
theorem Zo:FG.Ok Tryz.prog 42:=by
 refine fok (X:=⟨tt,[(81,Fi),(80,Fj)],[],9,[]⟩) mixed AN (CTok.cons Vw (CTok.cons Vx (CTok.nil _))) Tryz.func42 (λ _=>[]) ?_
 rintro ⟨a,b⟩ hpre
 have hpre:(a.length<=1048576/\a.all AD=true)/\b.length<=1048576/\b.all AD=true:=hpre
 refine AM (q:=∃ i1:(List V2),[DA.one (DC.sl 24 [.int,.int] (AA a))]=Fi.args i1/\Fi.pre i1/\(∃ i2:Nat×(List V2)×(List V2),[DA.one (cS (DW i1.length)),DA.one (DC.ro (.fn 82 [[.sl 24 [.int,.int] (AA a)],[.sl 24 [.int,.int] (AA b)]]))]=Fj.args i2/\Fj.pre i2/\((vI (F4 (GZ i2.2.1 i2.2.2) (List.range i2.1))=vI (Kb a b))))) (by kernel_rfl) ?_
 delta vI
 refine ⟨a,by
  rfl,by
  show a.length<=1048576
  first|exact hpre.1.1|exact ⟨Nat.le_refl _,hpre⟩,?_⟩
 refine ⟨(a.length,a,b),by
  rfl,by
  show a.length<=a.length/\(a.length<=1048576/\a.all AD=true)/\b.length<=1048576/\b.all AD=true
  first|exact hpre.1.1|exact ⟨Nat.le_refl _,hpre⟩,?_⟩
 show Value.int .i64 (F4 (GZ a b) (List.range a.length))=Value.int .i64 (Kb a b)
 rfl
def Fk:Con:={ ι:=(List V2)×(List V2),pre:=λ i=>True,args:=λ i=>[.one (DC.sl 24 [.int,.int] (AA i.1)),.one (DC.sl 24 [.int,.int] (AA i.2))],res:=λ i=>⟨false,[none],[rcB (Ej i.1 i.2)]⟩ }
theorem Vy:Fk.Ok Tryz.prog 11:=by
 refine fok (X:=⟨tt,[(10,Al),(42,FG)],[],23,[]⟩) mixed AN (CTok.cons H8 (CTok.cons Zo (CTok.nil _))) Tryz.func11 (λ _=>[]) ?_
 rintro ⟨a,b⟩ hpre
 have hpre:True:=hpre
 refine AM (q:=let Z3:=(vB false=vB (Ej a b));let Z2:=DC.sl 24 [.int,.int] (AA b);let Z1:=DC.sl 24 [.int,.int] (AA a);∃ i1:(List V2),[DA.one Z1]=Al.args i1/\Al.pre i1/\(ifB ((AG i1)) (∃ i2:(List V2),[DA.one Z2]=Al.args i2/\Al.pre i2/\(ifB ((AG i2)) (∃ i3:(List V2)×(List V2),[DA.one Z1,DA.one Z2]=FG.args i3/\FG.pre i3/\(ifB ((decide ((Kb i3.1 i3.2)<(0:Int)))) (∃ i4:(List V2)×(List V2),[DA.one Z2,DA.one Z1]=FG.args i4/\FG.pre i4/\((vB (decide ((Kb i4.1 i4.2)<(0:Int)))=vB (Ej a b)))) Z3)) Z3)) Z3)) (by kernel_rfl) ?_
 conv=>zeta
 delta ifB vB
 refine ⟨a,by
  rfl,by
  exact trivial,?_⟩
 refine And.symm ⟨λ c4=>?_,λ c4=>?_⟩
 ·try simp only [nrm] at c4
  exact congrArg Value.bool (by unfold Ej;simp_all;try (intros;omega))
 try simp only [nrm] at c4
 refine ⟨b,by
  rfl,by
  exact trivial,?_⟩
 refine And.symm ⟨λ c8=>?_,λ c8=>?_⟩
 ·try simp only [nrm] at c8
  exact congrArg Value.bool (by unfold Ej;simp_all;try (intros;omega))
 try simp only [nrm] at c8
 refine ⟨(a,b),by
  rfl,by
  show (a.length<=1048576/\a.all AD=true)/\b.length<=1048576/\b.all AD=true
  have h1:=Bl c4;have h2:=Bl c8;exact ⟨⟨by omega,h1.2.2⟩,by omega,h2.2.2⟩,?_⟩
 refine And.symm ⟨λ c12=>?_,λ c12=>?_⟩
 ·try simp only [nrm] at c12
  exact congrArg Value.bool (by unfold Ej;simp_all;try (intros;omega))
 try simp only [nrm] at c12
 refine ⟨(b,a),by
  rfl,by
  show (b.length<=1048576/\b.all AD=true)/\a.length<=1048576/\a.all AD=true
  have h1:=Bl c4;have h2:=Bl c8;exact ⟨⟨by omega,h2.2.2⟩,by omega,h1.2.2⟩,?_⟩
 show Value.bool (decide ((Kb b a)<(0:Int)))=Value.bool (Ej a b)
 exact congrArg Value.bool (by unfold Ej;simp_all;try (intros;omega))
def HY:Con:={ ι:=(List V2)×Int×Int,pre:=λ i=>i.1.length<=1048576/\i.1.all AD=true,args:=λ i=>[.one (DC.sl 24 [.int,.int] (AA i.1)),DA.agg [cI i.2.1,cI i.2.2]],res:=λ i=>⟨false,[none],[.own 24 [.int,.int] (AA (EF i.1 i.2.1 i.2.2))]⟩ }
theorem YQ:HY.Ok Tryz.prog 8:=by
 refine fok (X:=⟨tt,[(34,C5),(35,Fb),(36,A2)],[],18,[]⟩) mixed AN (CTok.cons RF (CTok.cons Vg (CTok.cons Fe (CTok.nil _)))) Tryz.func8 (λ _=>[]) ?_
 rintro ⟨l,dx,dy⟩ hpre
 have hpre:l.length<=1048576/\l.all AD=true:=hpre
 refine AM (q:=let Z1:=(([]:List (List Dat))=AA (EF l dx dy));∃ i1:(List V2)×Int×Int,let Z2:=BU i1.1 i1.2.1 i1.2.2;[DA.one (DC.sl 24 [.int,.int] (AA l)),DA.agg [cI dx,cI dy]]=C5.args i1/\C5.pre i1/\(∃ i2:Int×Int,[DA.agg [cI dx,cI dy]]=Fb.args i2/\Fb.pre i2/\(ifB ((!(!(AD (i2.1,i2.2))))) (∃ i3:(List V2),[DA.one (DC.sl 24 [.int,.int] (AA Z2))]=A2.args i3/\A2.pre i3/\(ifB ((!(i3.all AD))) Z1 ((AA Z2=AA (EF l dx dy))))) Z1))) (by kernel_rfl) ?_
 conv=>zeta
 delta ifB
 refine ⟨(l,dx,dy),by
  rfl,by
  show l.length<=1048576
  first|exact hpre.1|trivial,?_⟩
 refine ⟨(dx,dy),by
  rfl,by
  first|exact hpre.1|trivial,?_⟩
 refine And.symm ⟨λ c7=>?_,λ c7=>?_⟩
 ·try simp only [nrm] at c7
  first|(rw [PE (by simp_all)];rfl)|(rw [GY (by simp_all) (by simp_all)])
 try simp only [nrm] at c7
 refine ⟨(BU l dx dy),by
  rfl,by
  first|exact hpre.1|trivial,?_⟩
 refine ⟨λ c11=>?_,λ c11=>?_⟩
 ·try simp only [nrm] at c11
  first|(rw [PE (by simp_all)];rfl)|(rw [GY (by simp_all) (by simp_all)])
 try simp only [nrm] at c11
 show AA (BU l dx dy)=AA (EF l dx dy)
 first|(rw [PE (by simp_all)];rfl)|(rw [GY (by simp_all) (by simp_all)])
end Go.Proofs.YtkffpiaagjcmpaaGreat
namespace Go.Proofs.YtkffpiaagjcmpaaGreat
set_option linter.unusedVariables false
set_option linter.unusedSimpArgs false
theorem RP {α:Type} (p:α->Bool) (l:List α):F4 p l<0↔∀ x ∈ l,p x=false:=by
 have h:=RK p l
 constructor
 ·intro hn
  rw [decide_eq_false (by omega)] at h
  have:=List.any_eq_false.1 h.symm
  exact λ x hx=>by simpa using this x hx
 ·intro ha
  have:l.any p=false:=by
   rw [List.any_eq_false]
   exact λ x hx=>by rw [ha x hx];simp
  rw [this] at h
  have:=of_decide_eq_false h
  omega
theorem MZ {a b:List V2} : Kb a b<0↔¬ TE a b:=by
 unfold Kb
 rw [RP]
 unfold TE
 constructor
 ·rintro h ⟨i,hi,hs⟩
  have:=h i (List.mem_range.2 hi)
  unfold GZ at this
  rw [Bool.not_eq_false',List.any_eq_true] at this
  obtain ⟨x,hx,h2⟩:=this
  have:=hs x hx
  unfold F5 at h2
  have:=of_decide_eq_true h2
  omega
 ·intro h i hi
  have hi:=List.mem_range.1 hi
  unfold GZ
  rw [Bool.not_eq_false',List.any_eq_true]
  apply Classical.byContradiction
  intro hn
  refine h ⟨i,hi,λ x hx=>?_⟩
  apply Classical.byContradiction
  intro h2
  exact hn ⟨x,hx,decide_eq_true (by omega)⟩
theorem Ma {a b:List V2} (ha:AG a=true) (hb:AG b=true):Ej a b=true↔¬ TE a b/\¬ TE b a:=by
 unfold Ej
 rw [ha,hb,Bool.true_and,Bool.true_and,Bool.and_eq_true,decide_eq_true_eq,decide_eq_true_eq,MZ,MZ]
structure TouchLaw (a b:List V2) (v:V2):Prop where
 veca:a.all AD=true
 len:a.length<=16/\b.length<=16/\(EF a v.1 v.2).length<=16
 t1:Ej (EF a v.1 v.2) b=decide (cpZ (Hf a b) (ptQ (ptV v))≥0)
 t2:Ej b (EF a v.1 v.2)=decide (cpZ (Hf a b) (ptQ (ptV v))≥0)
 t3:Ej a a=true
 t4:ABe a a=-1
theorem Kz {a:List V2} {v:V2} (ha:AG a=true) (h:∀ x ∈ a,AD (Af v x)=true):AG (mvV v a)=true:=by
 obtain ⟨h1,h2,h3⟩:=A5.1 ha
 refine A5.2 ⟨by rw [HL];exact h1,?_,λ i j hi hj n1 n2=>?_⟩
 ·rw [List.all_eq_true]
  intro x hx
  obtain ⟨y,hy,rfl⟩:=List.mem_map.1 hx
  exact h y hy
 ·rw [HL] at hi hj n2 ⊢
  rw [IE hi,IE hj,IE (DX hi),JF]
  exact h3 i j hi hj n1 n2
theorem Vz {a b:List V2} {v:V2} (ha:AG a=true) (hb:AG b=true) (h1:a.length<=8) (h2:b.length<=8) (hv:AD v=true) (hm:∀ x ∈ a,AD (Af v x)=true) (hn:Ua b (Jx a)):TouchLaw a b v:=by
 have hva:=(Bl ha).2.2
 have hna:=YO ha
 have e0:ID a=Jx a:=PD hva
 have hmv:EF a v.1 v.2=mvV v a:=by
  have e:BU a v.1 v.2=mvV v a:=MV λ j hj=>hm _ (Dx hj)
  rw [GY hv (by rw [e];exact (Bl (Kz ha hm)).2.2),e]
 have hmp:=Kz ha hm
 have h64:b.length*(Jx a).length<=64:=by rw [CL];exact Nat.mul_le_mul h2 h1
 obtain ⟨r,h3,hvs⟩:=RH hb hna h64 hn
 have hp:=MW hb hna h64 (by rw [CL];omega) hn
 have eo:Hf a b=FF b (Jx a):=by
  unfold Hf
  rw [e0]
  unfold Iw
  rw [if_pos ⟨hb,hna,h64,hp⟩]
 have hs:=sat ha hb hna r h3 v
 have hc:=Zl hvs hv
 have hg:(ptV v).good=true:=OA (l:=[v]) (k:=0) (by rw [List.all_cons,hv];rfl) (by simp)
 have ec:cpZ (Hf a b) (ptQ (ptV v))=DS (FF b (Jx a)) (ptV v):=by rw [eo];exact AAN hp hg
 have hl:=(Bl hmp).2.1
 refine ⟨hva,⟨by omega,by omega,by rw [hmv];exact hl⟩,?_,?_,?_,?_⟩
 ·rw [ec,hmv,Bool.eq_iff_iff,Ma hmp hb,decide_eq_true_eq,ge_iff_le,hc,hs]
 ·rw [ec,hmv,Bool.eq_iff_iff,Ma hb hmp,decide_eq_true_eq,ge_iff_le,hc,hs,And.comm]
 ·exact (Ma ha ha).2 ⟨MY ha,MY ha⟩
 ·unfold ABe
  rw [if_pos ⟨ha,ha⟩]
  unfold Kb
  refine Jy (d:=0) λ j hj=>?_
  have:=(RP _ _).1 (MZ.2 (MY ha))
  exact this _ (by simp [List.getD,List.length_range] at hj ⊢;simp [hj])
end Go.Proofs.YtkffpiaagjcmpaaGreat
namespace Go.Proofs.YtkffpiaagjcmpaaGreat
set_option linter.unusedVariables false
set_option linter.unusedSimpArgs false
theorem TG {l:List V2} (h:AG l=true):l.Nodup:=by
 obtain ⟨⟨h3,-⟩,-,hs⟩:=A5.1 h
 rw [List.nodup_iff_pairwise_ne,List.pairwise_iff_getElem]
 intro i j hi hj hij e
 have e:l.getD i (0,0)=l.getD j (0,0):=by simp [List.getD,hi,hj,e]
 by_cases hj1:j=i+1
 ·subst hj1
  have hm:(i+1)%l.length=i+1:=Nat.mod_eq_of_lt hj
  have hk:(i+2)%l.length<l.length:=Nat.mod_lt _ (by omega)
  have n1:(i+2)%l.length≠i:=by
   by_cases hc:i+2<l.length
   ·rw [Nat.mod_eq_of_lt hc];omega
   ·rw [show i+2=l.length by omega,Nat.mod_self];omega
  have n2:(i+2)%l.length≠i+1:=by
   by_cases hc:i+2<l.length
   ·rw [Nat.mod_eq_of_lt hc];omega
   ·rw [show i+2=l.length by omega,Nat.mod_self];omega
  have:=hs i _ hi hk n1 (by rw [hm];exact n2)
  rw [hm,← e] at this
  unfold AF at this
  grind
 ·have hm:(i+1)%l.length=i+1:=Nat.mod_eq_of_lt (by omega)
  have:=hs i j hi hj (by omega) (by rw [hm];omega)
  rw [hm,← e] at this
  unfold AF at this
  grind
theorem Mb {b:List UInt8} {z:Int} : ∀ k c,(drF b z k c).1.length<=5
 | 0,c=>by simp [drF]
 | k+1,c=>by
  unfold drF
  split
  ·rename_i h
   have h1:=List.Nodup.length_le_of_subset (TG h) (λ x hx=>NE hx)
   have h2:(att b z c).1.length=Fz b c:=EY _ _ _ _
   have h3:=Q6 b c
   simp only;omega
  ·exact Mb k _
theorem RQ {m:Int} {l:List V2} (h:AG l=true) (h5:l.length<=5) (hm:∀ x ∈ l,(-m<=x.1/\x.1<=m)/\-m<=x.2/\x.2<=m):shape m l=true:=by
 simp only [shape,Bool.and_eq_true,decide_eq_true_eq,List.all_eq_true]
 refine ⟨⟨h,h5⟩,λ x hx=>?_⟩
 have:=hm x hx
 simp only [B0,Bool.and_eq_true,Az]
 omega
theorem V0 {b:List UInt8} {z m:Int} (hz:1<=z) (hm:z<=m) (c:Cur):shape m (drP b z c).1=true:=by
 obtain ⟨h1,-,h3⟩:=TB (b:=b) hz c
 exact RQ h1 (Mb 8 c) λ x hx=>by have:=h3 x hx;omega
theorem V1 (a b c:V2) (x y:Int):AF (a.1+x,a.2+y) (b.1+x,b.2+y) (c.1+x,c.2+y)=AF a b c:=by
 unfold AF;grind
theorem YR {l:List V2} {dx dy:Int} (hm:∀ x ∈ l,(-100<=x.1/\x.1<=100)/\-100<=x.2/\x.2<=100) (hx:-100<=dx/\dx<=100) (hy:-100<=dy/\dy<=100):Co l dx dy=l.map λ p=>(p.1+dx,p.2+dy):=by
 have e:BU l dx dy=l.map λ p=>(p.1+dx,p.2+dy):=by
  unfold BU
  refine List.map_congr_left λ p hp=>?_
  have:=hm p hp
  unfold Sj
  rw [AE (by omega) (by omega),AE (by omega) (by omega)]
 refine (FS ?_ ?_).trans e
 ·simp only [AD,B0,Bool.and_eq_true,Az];omega
 ·rw [e,List.all_eq_true]
  intro p hp
  obtain ⟨q,hq,rfl⟩:=List.mem_map.1 hp
  have:=hm q hq
  simp only [AD,B0,Bool.and_eq_true,Az];omega
theorem V3 {l:List V2} (h:AG l=true) {dx dy:Int} (hm:∀ x ∈ l,(-100<=x.1/\x.1<=100)/\-100<=x.2/\x.2<=100) (hx:-100<=dx/\dx<=100) (hy:-100<=dy/\dy<=100):AG (l.map λ p=>(p.1+dx,p.2+dy))=true:=by
 obtain ⟨h1,h2,h3⟩:=A5.1 h
 refine A5.2 ⟨by simpa using h1,?_,λ i j hi hj n1 n2=>?_⟩
 ·rw [List.all_eq_true]
  intro p hp
  obtain ⟨q,hq,rfl⟩:=List.mem_map.1 hp
  have:=hm q hq
  simp only [AD,B0,Bool.and_eq_true,Az];omega
 ·simp only [List.length_map] at hi hj n2 ⊢
  have hn:(i+1)%l.length<l.length:=Nat.mod_lt _ (by omega)
  have at_:∀ k,k<l.length->(l.map λ p=>(p.1+dx,p.2+dy)).getD k (0,0)=((l.getD k (0,0)).1+dx,(l.getD k (0,0)).2+dy):=λ k hk=>by simp [List.getD,hk]
  rw [at_ _ hi,at_ _ hj,at_ _ hn,V1]
  exact h3 i j hi hj n1 n2
theorem TH {b:List UInt8} {c:Cur} {dx dy:Int} (hx:0<=dx/\dx<=100) (hy:0<=dy/\dy<=100):shape 200 (Co (drP b 4 c).1 dx dy)=true:=by
 obtain ⟨h1,-,h3⟩:=TB (b:=b) (z:=4) (by omega) c
 have hm:∀ x ∈ (drP b 4 c).1,(-100<=x.1/\x.1<=100)/\-100<=x.2/\x.2<=100:=λ x hx=>by have:=h3 x hx;omega
 rw [YR hm (by omega) (by omega)]
 refine RQ (V3 h1 hm (by omega) (by omega)) (by rw [List.length_map];exact Mb 8 c) λ p hp=>?_
 obtain ⟨q,hq,rfl⟩:=List.mem_map.1 hp
 have:=h3 q hq
 simp only;omega
theorem V4 {x:Int} (h:6<=x/\x<=13):shape 200 (Zb x)=true:=by
 have:x=6∨x=7∨x=8∨x=9∨x=10∨x=11∨x=12∨x=13:=by omega
 rcases this with rfl|rfl|rfl|rfl|rfl|rfl|rfl|rfl <;> decide
theorem Jz {b:List UInt8} {c:Cur} : ∀ k,∀ l ∈ (obN b c k).1,shape 200 l=true
 | 0,l,hl=>by simp [obN] at hl
 | k+1,l,hl=>by
  rw [RE] at hl
  rcases List.mem_append.1 hl with hl|hl
  ·exact Jz k l hl
  ·rw [List.mem_singleton.1 hl]
   have q1:=A8 b (drP b 4 (obN b c k).2).2 (n:=16) (by omega)
   have q2:=A8 b (blC b (drP b 4 (obN b c k).2).2 16) (n:=12) (by omega)
   exact TH (by omega) (by omega)
theorem TJ {b:List UInt8} {c:Cur} : (∀ l ∈ (Ar b c).1,shape 200 l=true)/\(Ar b c).1.length<=3:=by
 have hl:(F1 b c).1.length=GX b c:=HD _ _ _
 have hn:=Kx b c
 by_cases h:blV b (F1 b c).2 6=0
 ·rw [RD h]
  refine ⟨λ l hl=>?_,by simp only [List.length_append,List.length_cons,List.length_nil];omega⟩
  rcases List.mem_append.1 hl with hl|hl
  ·exact Jz _ l hl
  ·rw [List.mem_singleton.1 hl]
   have q1:=A8 b (blC b (F1 b c).2 6) (n:=8) (by omega)
   exact V4 (by omega)
 ·rw [UX h]
  exact ⟨λ l hl=>Jz _ l hl,by simp only;omega⟩
theorem YS {b:List UInt8} {c:Cur} : ∀ k,∀ v ∈ (tbN b c k).1,(0<=v.1/\v.1<=30)/\0<=v.2/\v.2<=30
 | 0,l,hl=>by simp [tbN] at hl
 | k+1,v,hl=>by
  rw [MT] at hl
  rcases List.mem_append.1 hl with hl|hl
  ·exact YS k v hl
  ·rw [List.mem_singleton.1 hl]
   have q1:=A8 b (tbN b c k).2 (n:=18) (by omega)
   have q2:=A8 b (blC b (tbN b c k).2 18) (n:=14) (by omega)
   simp only;omega
theorem TK (b:List UInt8) (c:Cur):AH (DV b c)=true/\(DV b c).obst.length<=3:=by
 obtain ⟨w1,w2⟩:=TJ (b:=b) (c:=c)
 refine ⟨?_,w2⟩
 have q1:=A8 b c (n:=12) (by omega)
 have q2:=A8 b (blC b c 12) (n:=10) (by omega)
 have ht:(RB b c).1.length=DU b c:=HE _ _ _
 have hn:=Fh b c
 simp only [AH,Bool.and_eq_true,decide_eq_true_eq,List.all_eq_true]
 refine ⟨⟨⟨⟨λ x hx=>?_,?_⟩,?_⟩,?_⟩,⟨⟨w1,?_⟩,?_⟩,λ v hv=>?_⟩
 ·simp only [List.mem_cons,List.not_mem_nil,or_false] at hx
  simp only [B0,Bool.and_eq_true,Az]
  rcases hx with rfl|rfl
  ·simp only [DV];omega
  ·simp only [DV];omega
 ·show (0:Int)<14+blV b c 12
  omega
 ·show (0:Int)<12+blV b (blC b c 12) 10
  omega
 ·exact V0 (by omega) (by omega) _
 ·show (Ar b c).1.length<=4
  omega
 ·show (RB b c).1.length<=3
  omega
 ·have:=YS _ v hv
  simp only [B0,Bool.and_eq_true,Az]
  omega
theorem YT {s:Scn} (h:AH s=true):DY s/\s.obst.length<=4:=by
 simp only [AH,Bool.and_eq_true,shape,decide_eq_true_eq,List.all_eq_true] at h
 refine ⟨⟨by omega,by omega,λ x hx=>?_,by omega⟩,by omega⟩
 have:=h.2.1.1.1 x hx
 omega
end Go.Proofs.YtkffpiaagjcmpaaGreat
namespace Go.Proofs.YtkffpiaagjcmpaaGreat
set_option maxRecDepth 100000
set_option linter.unusedVariables false
set_option linter.unusedSimpArgs false
open Go.RowKit
set_option maxHeartbeats 1000000 in
theorem Mc (s : Scn) (h : Int) (v : Value) (w : World) (hv : SceneAt w v s) (hn : (AH s && inR h 0 3) = false) :
    Calls Tryz.prog 9 #[v, .int .i64 h] w fun e w' => e = .returned (.slice none 0 0) ∧ Below w.heap.size w w' := by
  have HV := Lib.hid hv
  obtain ⟨⟨lx, ly⟩, ⟨hx, hy⟩, rob, obs, tabs⟩ := s
  obtain ⟨r, o, t, rfl, hr, ho, ht⟩ := hv
  simp only at hr ho ht
  obtain ⟨ra, rcap, rfl, _, _, _⟩ := hr.open
  obtain ⟨oa, ocap, rfl, _, _, _⟩ := ho.open
  obtain ⟨ta, tcap, rfl, _, _, _⟩ := ht.open
  clear hr ho ht
  obtain ⟨S, hS⟩ : ∃ S : Scn, S = ⟨(lx, ly), (hx, hy), rob, obs, tabs⟩ := ⟨_, rfl⟩
  rw [← hS] at HV hn ⊢
  clear hS
  cases h1 : AH S
  · clear hn
    go_enter Tryz.func9, Tryz.ntmps9
    go_wp2_with fail
    refine (D6 S _ _ (HV.out.below ((Below.refl _ _).alloc (Nat.le_refl _) _))).mono ?_
    rintro e w1 ⟨rfl, h1⟩
    have B1 : Below w.heap.size w w1 := Below.trans (by (repeat (first | with_reducible exact Below.refl _ _ | with_reducible assumption | with_reducible refine Below.drew ?_ | with_reducible refine Below.setCell ?_ ?_ _ | with_reducible refine Below.alloc ?_ ?_ _)); all_goals first | (simp; done) | (simp; omega) | omega) (h1.mono (by first | (simp; done) | (simp; omega) | omega))
    have S1 := h1.size
    have T1 := B1.size
    try simp at S1
    obtain ⟨k1, f1⟩ := EJ h1
    try simp at k1
    try simp at f1
    have Hc1 := Lib.hid h1
    clear h1
    have u1_0 : w.heap.size < w1.heap.size := by omega
    go_wp2
    go_ret
    refine ⟨?_, B1⟩
    simp
  · have h2 : inR h 0 3 = false := by rw [h1] at hn; simpa using hn
    clear hn
    go_enter Tryz.func9, Tryz.ntmps9
    go_wp2_with fail
    refine (D6 S _ _ (HV.out.below ((Below.refl _ _).alloc (Nat.le_refl _) _))).mono ?_
    rintro e w1 ⟨rfl, h1⟩
    have B1 : Below w.heap.size w w1 := Below.trans (by (repeat (first | with_reducible exact Below.refl _ _ | with_reducible assumption | with_reducible refine Below.drew ?_ | with_reducible refine Below.setCell ?_ ?_ _ | with_reducible refine Below.alloc ?_ ?_ _)); all_goals first | (simp; done) | (simp; omega) | omega) (h1.mono (by first | (simp; done) | (simp; omega) | omega))
    have S1 := h1.size
    have T1 := B1.size
    try simp at S1
    obtain ⟨k1, f1⟩ := EJ h1
    try simp at k1
    try simp at f1
    have Hc1 := Lib.hid h1
    clear h1
    have u1_0 : w.heap.size < w1.heap.size := by omega
    go_wp2_with fail
    refine (QS _ _).mono ?_
    rintro e w' ⟨rfl, rfl⟩
    go_wp2
    go_ret
    refine ⟨?_, B1⟩
    simp
set_option maxHeartbeats 1000000 in
theorem PF (s : Scn) (h : Int) (v : Value) (w : World) (hv : SceneAt w v s) (hn : (AH s && inR h 0 3) = false) :
    Calls Tryz.prog 20 #[v, .int .i64 h] w fun e w' => e = .returned (.slice none 0 0) ∧ Below w.heap.size w w' := by
  have HV := Lib.hid hv
  obtain ⟨⟨lx, ly⟩, ⟨hx, hy⟩, rob, obs, tabs⟩ := s
  obtain ⟨r, o, t, rfl, hr, ho, ht⟩ := hv
  simp only at hr ho ht
  obtain ⟨ra, rcap, rfl, _, _, _⟩ := hr.open
  obtain ⟨oa, ocap, rfl, _, _, _⟩ := ho.open
  obtain ⟨ta, tcap, rfl, _, _, _⟩ := ht.open
  clear hr ho ht
  obtain ⟨S, hS⟩ : ∃ S : Scn, S = ⟨(lx, ly), (hx, hy), rob, obs, tabs⟩ := ⟨_, rfl⟩
  rw [← hS] at HV hn ⊢
  clear hS
  have HN := Lib.hid hn
  clear hn
  go_enter Tryz.func20, Tryz.ntmps20
  go_wp2_with fail
  refine (Mc S h _ _ (HV.out.below ((Below.refl _ _).alloc (Nat.le_refl _) _)) HN.out).mono ?_
  rintro e w1 ⟨rfl, h1⟩
  have B1 : Below w.heap.size w w1 := Below.trans (by (repeat (first | with_reducible exact Below.refl _ _ | with_reducible assumption | with_reducible refine Below.drew ?_ | with_reducible refine Below.setCell ?_ ?_ _ | with_reducible refine Below.alloc ?_ ?_ _)); all_goals first | (simp; done) | (simp; omega) | omega) (h1.mono (by first | (simp; done) | (simp; omega) | omega))
  have S1 := h1.size
  have T1 := B1.size
  try simp at S1
  obtain ⟨k1, f1⟩ := EJ h1
  try simp at k1
  try simp at f1
  have Hc1 := Lib.hid h1
  clear h1
  have u1_0 : w.heap.size < w1.heap.size := by omega
  have hsn := fun (w : World) (a : Option Addr) (n c n' c' : Nat) => Lib.run_eql_slice_nil (P := Tryz.prog) w 25 24 a n c n' c' Tryz.underlying25
  go_wp2
  go_ret
  refine ⟨?_, B1⟩
  simp
end Go.Proofs.YtkffpiaagjcmpaaGreat
namespace Go.Proofs.YtkffpiaagjcmpaaGreat
set_option linter.unusedVariables false
set_option linter.unusedSimpArgs false
open Go.RowKit
def I1 (s:Scn) (h:Int) (k:Nat):List (List V2):=(s.obst.take k).map (Hf (AB s h))
def blk (s:Scn) (h:Int):List (List V2):=if (AB s h).length=0 then [] else I1 s h s.obst.length
theorem YU {s:Scn} {h:Int} (e:(AB s h).length=0):blk s h=[]:=by unfold blk;rw [if_pos e]
theorem PG {s:Scn} {h:Int} (e:(AB s h).length≠0):blk s h=I1 s h s.obst.length:=by unfold blk;rw [if_neg e]
theorem RR (s:Scn) (h:Int) (k:Nat):(AI (I1 s h k)).length<=k:=by
 rw [Aq];unfold I1;rw [List.length_map,List.length_take];omega
theorem V5 {s:Scn} {h:Int} {k:Nat} (hk:k<s.obst.length):AI (I1 s h k)++[[.sl (AA (Hf (AB s h) (s.obst.getD k [])))]]=AI (I1 s h (k+1)):=by
 unfold I1
 rw [Bp s.obst [] k hk]
 simp [AI]
theorem RS (s:Scn) (h:Int):(AB s h).length<=1048576:=by have:=(KP s h).2;omega
theorem OG {s:Scn} {h:Int} (hn:(AH s && inR h 0 3)=false):AB s h=[]:=H9 (by
 rw [Bool.and_eq_false_iff] at hn
 rcases hn with hn|hn
 ·exact .inl hn
 ·refine .inr λ hc=>?_
  have:inR h 0 3=true:=Az.2 hc
  rw [hn] at this;cases this)
theorem IF {s:Scn} {h:Int} (hn:(AH s && inR h 0 3)=true):0<(AB s h).length:=by
 rw [Bool.and_eq_true] at hn
 exact List.length_pos_iff.2 (S5 hn.1 (Az.1 hn.2))
def V6:Con:={ ι:=Scn×Int,pre:=λ i=>DY i.1/\(AH i.1 && inR i.2 0 3)=true,args:=λ i=>[DA.agg [cI i.1.low.1,cI i.1.low.2,cI i.1.high.1,cI i.1.high.2,DC.sl 24 [.int,.int] (AA i.1.robot),DC.sl 25 [.sl 24 [.int,.int]] (AI i.1.obst),DC.sl 24 [.int,.int] (AA i.1.tables)],.one (cI i.2)],res:=λ i=>⟨false,[none],[.own 25 [.sl 24 [.int,.int]] (AI (blk i.1 i.2))]⟩ }
set_option maxRecDepth 100000 in
theorem RU:V6.Ok Tryz.prog 20:=by
 refine fok (X:=⟨tt,[(9,As),(56,Iz)],[],30,[]⟩) mixed AN (CTok.cons EW (CTok.cons Zj (CTok.nil _))) Tryz.func20 (λ (i:Scn×Int)=>[(6,.mk 4 (Nat) (λ x1=>{ tm:=[(16,tX 1),(17,tI (nI ((AI i.1.obst).length))),(18,tI (nI x1)),(6,tX 2),(5,tX 3)],en:=[(1,.view 25 [.sl 24 [.int,.int]] (AI i.1.obst) []),(2,.own 25 [.sl 24 [.int,.int]] (AI (I1 i.1 i.2 x1))),(3,.own 24 [.int,.int] (AA (AB i.1 i.2)))] }) (λ x1=>x1<=i.1.obst.length) (λ x1=>i.1.obst.length-x1) (λ _=>[]))]) ?_
 rintro ⟨s,h⟩ hpre
 have hpre:DY s/\(AH s && inR h 0 3)=true:=hpre
 refine AM (q:=let Z3:=AA (AB s h);let Z1:=AI s.obst;let Z4:=nI (Z1.length);∃ i1:Scn×Int,[DA.agg [cI s.low.1,cI s.low.2,cI s.high.1,cI s.high.2,DC.sl 24 [.int,.int] (AA s.robot),DC.sl 25 [.sl 24 [.int,.int]] Z1,DC.sl 24 [.int,.int] (AA s.tables)],DA.one (cI h)]=As.args i1/\As.pre i1/\(∀ b2:Bool,(b2=true->AA (AB i1.1 i1.2)=[])->(ifB (b2) ((([]:List (List Dat))=AI (blk s h))) ((∃ x1:Nat,(x1<=s.obst.length)/\((rf (vI Z4))/\(vI (0:Int)=vI (nI x1))/\(rf Z1)/\(([]:List (List Dat))=(AI (I1 s h x1)))/\(AA (AB i1.1 i1.2)=Z3)))/\∀ x1:Nat,let Z2:=AI (I1 s h x1);(x1<=s.obst.length)->(ifB ((decide ((nI x1)<Z4))) ((0<=(nI x1)/\(nI x1)<(Z1.length:Int))/\((x1<Z1.length)/\(∃ i3:(List V2)×(List V2),let Z5:=AA (Hf i3.1 i3.2);[DA.one (DC.sl 24 [.int,.int] Z3),DA.one (DC.sl 24 [.int,.int] ((((Z1.getD x1 []).getD 0 (.int 0))).r))]=Iz.args i3/\Iz.pre i3/\((Z2.length+([[Dat.sl Z5]]:List (List Dat)).length<=2199023255552)/\(∃ y2:Nat,(y2<=s.obst.length)/\(s.obst.length-y2<s.obst.length-x1)/\((rf (vI Z4))/\(vI (wR ((nI x1)+(1:Int)))=vI (nI y2))/\(rf Z1)/\((Z2++([[Dat.sl Z5]]:List (List Dat)))=(AI (I1 s h y2)))/\(rf Z3))))))) ((Z2=AI (blk s h)))))))) (by kernel_rfl) ?_
 conv=>zeta
 delta ifB vI wR nI
 have hv:=hpre.2
 have hpre:=hpre.1
 have hz:=hpre
 obtain ⟨h1,h2,h3,h4⟩:=hpre
 have hrv:=RS s h
 have hvl:=AC (AB s h)
 have hal:=Aq s.obst
 have hrs:=IF hv
 refine ⟨(s,h),by
  rfl,by
  trivial,?_⟩
 intro b2 q4
 refine ⟨λ c5=>?_,λ c5=>?_⟩
 ·try simp only [nrm] at c5
  exfalso
  have hq:=congrArg List.length (q4 c5)
  rw [hvl] at hq
  simp only [List.length_nil] at hq
  omega -- done
 try simp only [nrm] at c5
 have hE:=PG (s:=s) (h:=h) (by omega)
 refine ⟨⟨0,by
  omega,?_⟩,?_⟩
 ·refine ⟨rfl,?_,rfl,?_,rfl⟩
  ·rfl
  rfl
 intro (k:Nat) hki7
 have hki7:k<=s.obst.length:=hki7
 refine And.symm ⟨λ c14=>?_,λ c14=>?_⟩
 ·try simp only [nrm] at c14
  rw [hE,show k=s.obst.length by omega]
 try simp only [nrm] at c14
 have hkl:k<s.obst.length:=by omega
 refine ao (by omega) λ o15=>?_
 refine ao (by omega) λ o16=>?_
 refine ⟨(AB s h,s.obst.getD k []),by
  rw [Jn hkl];rfl,by
  exact ⟨hrv,h3 _ (by simp [List.getD,hkl])⟩,?_⟩
 refine ao (a:=(AI (I1 s h k)).length+([[Dat.sl (AA (Hf (AB s h) (s.obst.getD k [])))]]:List (List Dat)).length<=2199023255552) (by have:=RR s h k;simp only [List.length_cons,List.length_nil];omega) λ o20=>?_
 refine ⟨k+1,by
  trivial,by
  omega,?_⟩
 refine ⟨rfl,?_,rfl,?_,rfl⟩
 ·exact AR (AE (by omega) (by omega))
 exact V5 hkl
def OH:Con:={ ι:=Scn×Int,pre:=λ i=>DY i.1/\(AH i.1 && inR i.2 0 3)=false,args:=λ i=>[DA.agg [cI i.1.low.1,cI i.1.low.2,cI i.1.high.1,cI i.1.high.2,DC.sl 24 [.int,.int] (AA i.1.robot),DC.sl 25 [.sl 24 [.int,.int]] (AI i.1.obst),DC.sl 24 [.int,.int] (AA i.1.tables)],.one (cI i.2)],res:=λ i=>⟨false,[none],[.own 25 [.sl 24 [.int,.int]] (AI (blk i.1 i.2))]⟩ }
theorem YV:OH.Ok Tryz.prog 20:=Bv rfl ⟨_,Tryz.func20,by decide,rfl⟩ (λ _=>Nat.le_of_ble_eq_true rfl) (λ _=>rfl) (λ i=>[.sl 25 [.sl 24 [.int,.int]] (AI (blk i.1 i.2))]) (λ _=>rfl) (λ _=>rfl) (λ i hp w us h=>by
 obtain ⟨s,k⟩:=i
 obtain ⟨cs,v,rfl,h1,h2,h3⟩:=If (t:=[.int,.int,.int,.int,.sl 24 [.int,.int],.sl 25 [.sl 24 [.int,.int]],.sl 24 [.int,.int]]) (x:=.int) (ds:=WH s) (dx:=.int k) h rfl
 have h2:v=.int .i64 k:=by simpa [Rd] using h2
 subst h2
 rw [show A3 (OH.args (s,k)) (cs++[.int .i64 k])=[.agg cs.toArray,.int .i64 k] from h3 _ _ rfl]
 refine (PF s k _ w (RdRow.scene h1) hp.2).mono ?_
 rintro e w' ⟨rfl,hb⟩
 refine ⟨[.slice none 0 0],rfl,?_,hb⟩
 have e:blk s k=[]:=YU (by rw [OG hp.2];rfl)
 show Own w' w.heap.size w'.heap.size [.sl 25 [.sl 24 [.int,.int]]] [.sl (AI (blk s k))] [.slice none 0 0]
 rw [e]
 exact Own.nilSl _ _ _ _ _)
def I2:Con:={ ι:=Scn×Int,pre:=λ i=>DY i.1,args:=λ i=>[DA.agg [cI i.1.low.1,cI i.1.low.2,cI i.1.high.1,cI i.1.high.2,DC.sl 24 [.int,.int] (AA i.1.robot),DC.sl 25 [.sl 24 [.int,.int]] (AI i.1.obst),DC.sl 24 [.int,.int] (AA i.1.tables)],.one (cI i.2)],res:=λ i=>⟨false,[none],[.own 25 [.sl 24 [.int,.int]] (AI (blk i.1 i.2))]⟩ }
theorem Zp:I2.Ok Tryz.prog 20 where
 enter:=RU.enter
 small:=λ _=>Nat.le_of_ble_eq_true rfl
 calls:=λ i hp F w us mb h=>by
  cases hc:(AH i.1 && inR i.2 0 3) with
  | false=>
   refine (YV.calls i ⟨hp,hc⟩ F w us mb h).mono ?_
   rintro e w' ⟨rs,bs,he,q⟩
   exact ⟨rs,bs,he,⟨q.res,q.nd,q.fresh,q.turned,q.os,q.tape,q.output,q.size,q.keep⟩⟩
  | true=>
   refine (RU.calls i ⟨hp,hc⟩ F w us mb h).mono ?_
   rintro e w' ⟨rs,bs,he,q⟩
   exact ⟨rs,bs,he,⟨q.res,q.nd,q.fresh,q.turned,q.os,q.tape,q.output,q.size,q.keep⟩⟩
end Go.Proofs.YtkffpiaagjcmpaaGreat
namespace Go.Proofs.YtkffpiaagjcmpaaGreat
set_option linter.unusedVariables false
set_option linter.unusedSimpArgs false
open Go.RowKit
def RV (b:V2×V2):Prop:=((-9223372036854775808<=b.1.1/\b.1.1<=9223372036854775807)/\(-9223372036854775808<=b.1.2/\b.1.2<=9223372036854775807)/\(-9223372036854775808<=b.2.1/\b.2.1<=9223372036854775807)/\(-9223372036854775808<=b.2.2/\b.2.2<=9223372036854775807))
def inQ (b:V2×V2) (p:Pq):Bool:=decide (Fr.cmp p.x (Fr.ofInt b.1.1)>0) && (decide (Fr.cmp p.x (Fr.ofInt b.2.1)<0) && (decide (Fr.cmp p.y (Fr.ofInt b.1.2)>0) && decide (Fr.cmp p.y (Fr.ofInt b.2.2)<0)))
def TL (b:V2×V2) (p:PtD):Bool:=okP p && inQ b (pqR p)
def Ue (b:V2×V2) (ar:List (List V2)) (p:PtD):Bool:=TL b p && !(ar.any λ z=>decide (0<=cpZ z p))
def HZ:Con:={ ι:=(V2×V2)×Pq,pre:=λ i=>RV i.1,args:=λ i=>[DA.agg [cI i.1.1.1,cI i.1.1.2,cI i.1.2.1,cI i.1.2.2],dP i.2],res:=λ i=>⟨false,[none],[rcB (inQ i.1 i.2)]⟩ }
set_option maxRecDepth 100000 in
theorem YW:HZ.Ok Tryz.prog 87:=by
 refine fok (X:=⟨tt,[(46,Ae),(58,Be)],[],43,[]⟩) mixed AN (CTok.cons Ju (CTok.cons Vf (CTok.nil _))) Tryz.func87 (λ _=>[]) ?_
 rintro ⟨b,p⟩ hpre
 have hpre:RV b:=hpre
 refine AM (q:=let Z1:=(vB false=vB (inQ b p));∃ i1:Int,[DA.one (cI b.1.1)]=Ae.args i1/\Ae.pre i1/\(∃ i2:Fr×Fr,[dF p.x,dF (Fr.ofInt i1)]=Be.args i2/\Be.pre i2/\(ifB ((decide ((Fr.cmp i2.1 i2.2)>(0:Int)))) (∃ i3:Int,[DA.one (cI b.2.1)]=Ae.args i3/\Ae.pre i3/\(∃ i4:Fr×Fr,[dF p.x,dF (Fr.ofInt i3)]=Be.args i4/\Be.pre i4/\(ifB ((decide ((Fr.cmp i4.1 i4.2)<(0:Int)))) (∃ i5:Int,[DA.one (cI b.1.2)]=Ae.args i5/\Ae.pre i5/\(∃ i6:Fr×Fr,[dF p.y,dF (Fr.ofInt i5)]=Be.args i6/\Be.pre i6/\(ifB ((decide ((Fr.cmp i6.1 i6.2)>(0:Int)))) (∃ i7:Int,[DA.one (cI b.2.2)]=Ae.args i7/\Ae.pre i7/\(∃ i8:Fr×Fr,[dF p.y,dF (Fr.ofInt i7)]=Be.args i8/\Be.pre i8/\((vB (decide ((Fr.cmp i8.1 i8.2)<(0:Int)))=vB (inQ b p))))) Z1))) Z1))) Z1))) (by kernel_rfl) ?_
 conv=>zeta
 delta ifB vB
 refine ⟨b.1.1,by
  rfl,by
  exact hpre.1,?_⟩
 refine ⟨(p.x,(Fr.ofInt b.1.1)),by
  rfl,by
  trivial,?_⟩
 refine And.symm ⟨λ c7=>?_,λ c7=>?_⟩
 ·try simp only [nrm] at c7
  exact congrArg Value.bool (by unfold inQ;simp_all;try (intros;omega))
 try simp only [nrm] at c7
 refine ⟨b.2.1,by
  rfl,by
  exact hpre.2.2.1,?_⟩
 refine ⟨(p.x,(Fr.ofInt b.2.1)),by
  rfl,by
  trivial,?_⟩
 refine And.symm ⟨λ c14=>?_,λ c14=>?_⟩
 ·try simp only [nrm] at c14
  exact congrArg Value.bool (by unfold inQ;simp_all;try (intros;omega))
 try simp only [nrm] at c14
 refine ⟨b.1.2,by
  rfl,by
  exact hpre.2.1,?_⟩
 refine ⟨(p.y,(Fr.ofInt b.1.2)),by
  rfl,by
  trivial,?_⟩
 refine And.symm ⟨λ c21=>?_,λ c21=>?_⟩
 ·try simp only [nrm] at c21
  exact congrArg Value.bool (by unfold inQ;simp_all;try (intros;omega))
 try simp only [nrm] at c21
 refine ⟨b.2.2,by
  rfl,by
  exact hpre.2.2.2,?_⟩
 refine ⟨(p.y,(Fr.ofInt b.2.2)),by
  rfl,by
  trivial,?_⟩
 exact congrArg Value.bool (by unfold inQ;simp_all;try (intros;omega))
end Go.Proofs.YtkffpiaagjcmpaaGreat
namespace Go.Proofs.YtkffpiaagjcmpaaGreat
set_option linter.unusedVariables false
set_option linter.unusedSimpArgs false
open Go.RowKit
set_option maxRecDepth 100000 in
set_option maxHeartbeats 1000000 in
theorem RW (s : Scn) (h : Int) (v : Value) (w : World) (hv : SceneAt w v s) (hn : (AH s && inR h 0 3) = false) :
    Calls Tryz.prog 18 #[v, .int .i64 h] w fun e w' => e = .returned (.tuple #[.agg #[.int .i64 0, .int .i64 0, .int .i64 0, .int .i64 0], .bool false]) ∧ Below w.heap.size w w' := by
  have HV := Lib.hid hv
  obtain ⟨⟨lx, ly⟩, ⟨hx, hy⟩, rob, obs, tabs⟩ := s
  obtain ⟨r, o, t, rfl, hr, ho, ht⟩ := hv
  simp only at hr ho ht
  obtain ⟨ra, rcap, rfl, _, _, _⟩ := hr.open
  obtain ⟨oa, ocap, rfl, _, _, _⟩ := ho.open
  obtain ⟨ta, tcap, rfl, _, _, _⟩ := ht.open
  clear hr ho ht
  obtain ⟨S, hS⟩ : ∃ S : Scn, S = ⟨(lx, ly), (hx, hy), rob, obs, tabs⟩ := ⟨_, rfl⟩
  rw [← hS] at HV hn ⊢
  clear hS
  have hsn := fun (w : World) (a : Option Addr) (n c n' c' : Nat) => Lib.run_eql_slice_nil (P := Tryz.prog) w 25 24 a n c n' c' Tryz.underlying25
  have HN := Lib.hid hn
  clear hn
  go_enter Tryz.func18, Tryz.ntmps18
  go_wp2_with fail
  refine (Mc S h _ _ (HV.out.below (((Below.refl _ _).alloc (Nat.le_refl _) _).alloc (by simp) _)) HN.out).mono ?_
  rintro e w1 ⟨rfl, h1⟩
  have B1 : Below w.heap.size w w1 := Below.trans (by (repeat (first | with_reducible exact Below.refl _ _ | with_reducible assumption | with_reducible refine Below.drew ?_ | with_reducible refine Below.setCell ?_ ?_ _ | with_reducible refine Below.alloc ?_ ?_ _)); all_goals first | (simp; done) | (simp; omega) | omega) (h1.mono (by first | (simp; done) | (simp; omega) | omega))
  have S1 := h1.size
  have T1 := B1.size
  try simp at S1
  obtain ⟨k1, f1⟩ := EJ h1
  try simp at k1
  try simp at f1
  have Hc1 := Lib.hid h1
  clear h1
  have u1_0 : w.heap.size < w1.heap.size := by omega
  have u1_1 : w.heap.size + 1 < w1.heap.size := by omega
  have hr0 : w1.cell? ⟨w.heap.size + 1, 0, none⟩ = some (.int .i64 0) := by go_simp
  have hr1 : w1.cell? ⟨w.heap.size + 1, 1, none⟩ = some (.int .i64 0) := by go_simp
  have hr2 : w1.cell? ⟨w.heap.size + 1, 2, none⟩ = some (.int .i64 0) := by go_simp
  have hr3 : w1.cell? ⟨w.heap.size + 1, 3, none⟩ = some (.int .i64 0) := by go_simp
  have hf0 : w1.frozen? ⟨w.heap.size + 1, 0, none⟩ = false := by go_simp
  have hf1 : w1.frozen? ⟨w.heap.size + 1, 1, none⟩ = false := by go_simp
  have hf2 : w1.frozen? ⟨w.heap.size + 1, 2, none⟩ = false := by go_simp
  have hf3 : w1.frozen? ⟨w.heap.size + 1, 3, none⟩ = false := by go_simp
  clear k1 f1
  have k0 : ((((w1.setCell ⟨w.heap.size + 1, 0, none⟩ (.int .i64 0)).setCell ⟨w.heap.size + 1, 1, none⟩ (.int .i64 0)).setCell ⟨w.heap.size + 1, 2, none⟩ (.int .i64 0)).setCell ⟨w.heap.size + 1, 3, none⟩ (.int .i64 0)).cell? ⟨w.heap.size + 1, 0, none⟩ = some (.int .i64 0) := by go_simp
  have k1 : ((((w1.setCell ⟨w.heap.size + 1, 0, none⟩ (.int .i64 0)).setCell ⟨w.heap.size + 1, 1, none⟩ (.int .i64 0)).setCell ⟨w.heap.size + 1, 2, none⟩ (.int .i64 0)).setCell ⟨w.heap.size + 1, 3, none⟩ (.int .i64 0)).cell? ⟨w.heap.size + 1, 1, none⟩ = some (.int .i64 0) := by go_simp
  have k2 : ((((w1.setCell ⟨w.heap.size + 1, 0, none⟩ (.int .i64 0)).setCell ⟨w.heap.size + 1, 1, none⟩ (.int .i64 0)).setCell ⟨w.heap.size + 1, 2, none⟩ (.int .i64 0)).setCell ⟨w.heap.size + 1, 3, none⟩ (.int .i64 0)).cell? ⟨w.heap.size + 1, 2, none⟩ = some (.int .i64 0) := by go_simp
  have k3 : ((((w1.setCell ⟨w.heap.size + 1, 0, none⟩ (.int .i64 0)).setCell ⟨w.heap.size + 1, 1, none⟩ (.int .i64 0)).setCell ⟨w.heap.size + 1, 2, none⟩ (.int .i64 0)).setCell ⟨w.heap.size + 1, 3, none⟩ (.int .i64 0)).cell? ⟨w.heap.size + 1, 3, none⟩ = some (.int .i64 0) := by go_simp
  have KK := Lib.hid (And.intro k0 (And.intro k1 (And.intro k2 k3)))
  clear k0 k1 k2 k3
  go_wp2
  obtain ⟨k0, k1, k2, k3⟩ := KK.out
  exact bodyPost_ret (v := .tuple #[.agg #[.int .i64 0, .int .i64 0, .int .i64 0, .int .i64 0], .bool false]) (by simp [results, Tryz.results18, go_sem, k0, k1, k2, k3]) rfl ⟨rfl, (((B1.setCell (by simp) _).setCell (by simp) _).setCell (by simp) _).setCell (by simp) _⟩
end Go.Proofs.YtkffpiaagjcmpaaGreat
