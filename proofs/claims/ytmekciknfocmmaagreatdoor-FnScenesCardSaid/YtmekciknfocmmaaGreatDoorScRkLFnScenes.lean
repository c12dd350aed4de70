import Derived.Test.YtmekciknfocmmaaGreatDoorScScV
import Derived.Test.YtmekciknfocmmaaGreatDoorScAdd
namespace Go.Proofs.YtmekciknfocmmaaGreatDoor
set_option maxRecDepth 100000
set_option linter.unusedVariables false
set_option linter.unusedSimpArgs false
open Go.RowKit
def C3:Con:={ ι:=Scn×Int,pre:=λ i=>Cw i.1,args:=λ i=>[DA.agg [cI i.1.low.1,cI i.1.low.2,cI i.1.high.1,cI i.1.high.2,DC.sl 24 [.int,.int] (AA i.1.robot),DC.sl 25 [.sl 24 [.int,.int]] (AB i.1.obst),DC.sl 24 [.int,.int] (AA i.1.tables)],.one (cI i.2)],res:=λ i=>⟨true,[some 7,none],[rcI ((BP i.1 i.2).low.1),rcI ((BP i.1 i.2).low.2),rcI ((BP i.1 i.2).high.1),rcI ((BP i.1 i.2).high.2),.own 24 [.int,.int] (AA (BP i.1 i.2).robot),.own 25 [.sl 24 [.int,.int]] (AB (BP i.1 i.2).obst),.own 24 [.int,.int] (AA (BP i.1 i.2).tables),rcB (CO i.1 i.2)]⟩ }
theorem Pv:C3.Ok Tryz.prog 9:=BX rfl ⟨_,Tryz.func9,by decide,rfl⟩ (λ _=>Nat.le_of_ble_eq_true rfl) (λ _=>rfl) (λ i=>[.im (.int .i64 (BP i.1 i.2).low.1),.im (.int .i64 (BP i.1 i.2).low.2),.im (.int .i64 (BP i.1 i.2).high.1),.im (.int .i64 (BP i.1 i.2).high.2),.sl 24 [.int,.int] (AA (BP i.1 i.2).robot),.sl 25 [.sl 24 [.int,.int]] (AB (BP i.1 i.2).obst),.sl 24 [.int,.int] (AA (BP i.1 i.2).tables),.im (.bool (CO i.1 i.2))]) (λ _=>rfl) (λ _=>rfl) (λ i hp w us h=>by
 obtain ⟨s,k⟩:=i
 obtain ⟨cs,v,rfl,h1,h2,h3⟩:=Fs (t:=[.int,.int,.int,.int,.sl 24 [.int,.int],.sl 25 [.sl 24 [.int,.int]],.sl 24 [.int,.int]]) (x:=.int) (ds:=HZ s) (dx:=.int k) h rfl
 have h2:v=.int .i64 k:=by simpa [Rd] using h2
 subst h2
 rw [show Am (C3.args (s,k)) (cs++[.int .i64 k])=[.agg cs.toArray,.int .i64 k] from h3 _ _ rfl]
 refine (Gg s hp.1 hp.2.1 hp.2.2.1 hp.2.2.2 k _ w (RdRow.scene h1)).mono ?_
 rintro e w' ⟨rs,rfl,ho,hb⟩
 have hq:=Fu (CO s k) ho hb.size
 refine ⟨rs++[Value.bool (CO s k)],?_,hq,hb⟩
 exact congrArg Ending.returned (Fv (n:=7) (by have:=(RdRow.lens _ _ _ ho.rd).2;exact this)).symm)
def CG:Con:={ ι:=Scn×(List V2),pre:=λ i=>(Cw i.1/\i.1.obst.length<=1048575)/\i.2.length<=1048576/\AG i.1=true/\AG (AQ i.1 (i.1.obst++[i.2]))=true,args:=λ i=>[DA.agg [cI i.1.low.1,cI i.1.low.2,cI i.1.high.1,cI i.1.high.2,DC.sl 24 [.int,.int] (AA i.1.robot),DC.sl 25 [.sl 24 [.int,.int]] (AB i.1.obst),DC.sl 24 [.int,.int] (AA i.1.tables)],.one (DC.sl 24 [.int,.int] (AA i.2))],res:=λ i=>⟨true,[some 7,none],[rcI ((AQ i.1 (i.1.obst++[i.2])).low.1),rcI ((AQ i.1 (i.1.obst++[i.2])).low.2),rcI ((AQ i.1 (i.1.obst++[i.2])).high.1),rcI ((AQ i.1 (i.1.obst++[i.2])).high.2),.own 24 [.int,.int] (AA (AQ i.1 (i.1.obst++[i.2])).robot),.own 25 [.sl 24 [.int,.int]] (AB (AQ i.1 (i.1.obst++[i.2])).obst),.own 24 [.int,.int] (AA (AQ i.1 (i.1.obst++[i.2])).tables),rcB true]⟩ }
theorem Pw:CG.Ok Tryz.prog 7:=BX rfl ⟨_,Tryz.func7,by decide,rfl⟩ (λ _=>Nat.le_of_ble_eq_true rfl) (λ _=>rfl) (λ i=>[.im (.int .i64 (AQ i.1 (i.1.obst++[i.2])).low.1),.im (.int .i64 (AQ i.1 (i.1.obst++[i.2])).low.2),.im (.int .i64 (AQ i.1 (i.1.obst++[i.2])).high.1),.im (.int .i64 (AQ i.1 (i.1.obst++[i.2])).high.2),.sl 24 [.int,.int] (AA (AQ i.1 (i.1.obst++[i.2])).robot),.sl 25 [.sl 24 [.int,.int]] (AB (AQ i.1 (i.1.obst++[i.2])).obst),.sl 24 [.int,.int] (AA (AQ i.1 (i.1.obst++[i.2])).tables),.im (.bool true)]) (λ _=>rfl) (λ _=>rfl) (λ i hp w us h=>by
 obtain ⟨s,l⟩:=i
 obtain ⟨cs,v,rfl,h1,h2,h3⟩:=Fs (t:=[.int,.int,.int,.int,.sl 24 [.int,.int],.sl 25 [.sl 24 [.int,.int]],.sl 24 [.int,.int]]) (x:=.sl 24 [.int,.int]) (ds:=HZ s) (dx:=.sl (AA l)) h rfl
 rw [show Am (CG.args (s,l)) (cs++[v])=[.agg cs.toArray,v] from h3 _ _ rfl]
 obtain ⟨⟨hp1,hp2⟩,hp3,hp4,hp5⟩:=hp
 refine (JZ s hp1.1 hp2 hp1.2.2.1 hp1.2.2.2 hp4 l hp3 hp5 _ _ w (RdRow.scene h1) (Rd.vecs h2)).mono ?_
 rintro e w' ⟨rs,rfl,ho,hb⟩
 have hq:=Fu true ho hb.size
 refine ⟨rs++[Value.bool true],?_,hq,hb⟩
 exact congrArg Ending.returned (Fv (n:=7) (by have:=(RdRow.lens _ _ _ ho.rd).2;exact this)).symm)
theorem Oi {α:Type} [DecidableEq α] {a b:List α} {k:Nat} {d:α} (ha:k<a.length) (hb:k<b.length) (h:a.getD k d≠b.getD k d):a≠b:=λ e=>h (by rw [e])
theorem KV {α:Type} {a b:List α} {k:Nat} {d:α} (ha:k<a.length) (hb:k<b.length) (h0:a.take k=b.take k) (h:a.getD k d=b.getD k d):a.take (k+1)=b.take (k+1):=by
 rw [Cl a d k ha,Cl b d k hb,h0,h]
theorem KW {α:Type} {a b:List α} {k:Nat} (hk:k=a.length) (hl:a.length=b.length) (h0:a.take k=b.take k):a=b:=by
 rw [List.take_of_length_le (by omega),List.take_of_length_le (by omega)] at h0;exact h0
theorem LH {p q:V2} (h:[p.1,p.2]=[q.1,q.2]):p=q:=by
 injection h with h1 h2
 injection h2 with h2
 exact Prod.ext h1 h2
theorem Oj {l:List (List V2)} {n k:Nat} (h:∀ x ∈ l,x.length<=n) (hk:k<l.length):(l.getD k []).length<=n:=h _ (by simp [List.getD,hk])
theorem KX {l:List (List V2)} {k:Nat} (hk:k<l.length):(((AB l).getD k []).getD 0 (.int 0)).r=AA (l.getD k []):=by simp [AB,List.getD,hk,Dat.r]
def BO:Con:={ ι:=(List V2)×(List V2),pre:=λ i=>i.1.length<=1048576/\i.2.length<=1048576,args:=λ i=>[.one (DC.sl 24 [.int,.int] (AA i.1)),.one (DC.sl 24 [.int,.int] (AA i.2))],res:=λ i=>⟨false,[none],[rcB (decide (i.1=i.2))]⟩ }
theorem KY:BO.Ok Tryz.prog 26:=by
 refine fok (X:=⟨tt,[],[],26,[]⟩) mixed BC (CTok.nil _) Tryz.func26 (λ (i:(List V2)×(List V2))=>[(4,.mk 3 (Nat) (λ x1=>{ tm:=[(0,tX 1),(1,tX 2),(12,tI (nI i.1.length)),(13,tI (x1:Int))],en:=[(1,.view 24 [.int,.int] (AA i.1) []),(2,.view 24 [.int,.int] (AA i.2) [])] }) (λ x1=>x1<=i.1.length/\i.1.length=i.2.length/\i.1.take x1=i.2.take x1) (λ x1=>i.1.length-x1) (λ _=>[]))]) ?_
 rintro ⟨a,b⟩ hpre
 have hpre:a.length<=1048576/\b.length<=1048576:=hpre
 refine BB (q:=let Z1:=(vB false=vB (decide (a=b)));ifB (((nI ((AA a).length)) != (nI ((AA b).length)))) Z1 ((∃ x1:Nat,(x1<=a.length/\a.length=b.length/\a.take x1=b.take x1)/\((vI (nI ((AA a).length))=vI (nI a.length))/\(vI (0:Int)=vI (x1:Int))/\(rf (AA a))/\(rf (AA b))))/\∀ x1:Nat,(x1<=a.length/\a.length=b.length/\a.take x1=b.take x1)->(ifB ((decide ((x1:Int)<(nI a.length)))) ((0<=(x1:Int)/\(x1:Int)<((AA a).length:Int))/\((x1<(AA a).length)/\((0<=(x1:Int)/\(x1:Int)<((AA b).length:Int))/\((x1<(AA b).length)/\(ifB ((!([((((AA a).getD x1 []).getD 0 (.int 0))).n,((((AA a).getD x1 []).getD 1 (.int 0))).n] == [((((AA b).getD x1 []).getD 0 (.int 0))).n,((((AA b).getD x1 []).getD 1 (.int 0))).n]))) Z1 (∃ y2:Nat,(y2<=a.length/\a.length=b.length/\a.take y2=b.take y2)/\(a.length-y2<a.length-x1)/\((rf (vI (nI a.length)))/\(vI (wR ((x1:Int)+(1:Int)))=vI (y2:Int))/\(rf (AA a))/\(rf (AA b))))))))) ((vB true=vB (decide (a=b))))))) (by kernel_rfl) ?_
 conv=>zeta
 delta ifB vB vI wR nI
 have hva:=AC a
 have hvb:=AC b
 refine ⟨λ c1=>?_,λ c1=>?_⟩
 ·try simp only [nrm] at c1
  have hne:a≠b:=λ e=>c1 (by rw [e])
  exact congrArg Value.bool (decide_eq_false hne).symm
 try simp only [nrm] at c1
 refine ⟨⟨0,by
  first|exact ⟨Nat.zero_le _,by omega,rfl⟩|omega|trivial,?_⟩,?_⟩
 ·refine ⟨?_,rfl,rfl,rfl⟩
  first|rfl|exact AV (by rw [hva])
 intro (k:Nat) hki3
 have hki3:k<=a.length/\a.length=b.length/\a.take k=b.take k:=hki3
 refine And.symm ⟨λ c9=>?_,λ c9=>?_⟩
 ·try simp only [nrm] at c9
  have he:a=b:=KW (by omega) hki3.2.1 hki3.2.2
  exact congrArg Value.bool (decide_eq_true he).symm
 try simp only [nrm] at c9
 refine ao (by first|omega|rfl) λ o10=>?_
 refine ao (by first|omega|rfl) λ o11=>?_
 refine ao (by first|omega|rfl) λ o12=>?_
 refine ao (by first|omega|rfl) λ o13=>?_
 refine ⟨λ c14=>?_,λ c14=>?_⟩
 ·try dsimp only at c14
  try simp only [nrm] at c14
  rw [Av (show k<a.length by omega),Aw (show k<a.length by omega),Av (show k<b.length by omega),Aw (show k<b.length by omega)] at c14
  have hne:a≠b:=Oi (d:=(0,0)) (k:=k) (by omega) (by omega) (λ e=>c14 (by rw [e]))
  exact congrArg Value.bool (decide_eq_false hne).symm
 try dsimp only at c14
 try simp only [nrm] at c14
 rw [Av (show k<a.length by omega),Aw (show k<a.length by omega),Av (show k<b.length by omega),Aw (show k<b.length by omega)] at c14
 have hq:=KV (d:=(0,0)) (by omega) (by omega) hki3.2.2 (LH c14)
 refine ⟨k+1,by
  exact ⟨by omega,hki3.2.1,hq⟩,by
  first|omega|(simp;omega),?_⟩
 refine ⟨rfl,?_,rfl,rfl⟩
 first|rfl|exact AV (AE (by omega) (by omega))
def GB:Con:={ ι:=(List V2)×(List V2),pre:=λ i=>i.1.length<=1048576/\i.2.length<=1048576,args:=λ i=>[.one (DC.sl 24 [.int,.int] (AA i.1)),.one (DC.sl 24 [.int,.int] (AA i.2))],res:=λ i=>⟨false,[none],[rcB (decide (i.1=i.2))]⟩ }
theorem SO:GB.Ok Tryz.prog 50:=by
 refine fok (X:=⟨tt,[(26,BO)],[],8,[]⟩) mixed BC (CTok.cons KY (CTok.nil _)) Tryz.func50 (λ _=>[]) ?_
 rintro ⟨a,b⟩ hpre
 have hpre:a.length<=1048576/\b.length<=1048576:=hpre
 refine BB (q:=∃ i1:(List V2)×(List V2),[DA.one (DC.sl 24 [.int,.int] (AA a)),DA.one (DC.sl 24 [.int,.int] (AA b))]=BO.args i1/\BO.pre i1/\((vB (decide (i1.1=i1.2))=vB (decide (a=b))))) (by kernel_rfl) ?_
 delta vB
 refine ⟨(a,b),by
  rfl,by
  exact hpre,?_⟩
 exact rfl
def GC:Con:={ ι:=(List (List V2))×(List (List V2)),pre:=λ i=>(∀ x ∈ i.1,x.length<=1048576)/\(∀ x ∈ i.2,x.length<=1048576)/\i.1.length<=1048576/\i.2.length<=1048576,args:=λ i=>[.one (DC.sl 25 [.sl 24 [.int,.int]] (AB i.1)),.one (DC.sl 25 [.sl 24 [.int,.int]] (AB i.2)),.one (.ro (.fn 50 []))],tag:=51,res:=λ i=>⟨false,[none],[rcB (decide (i.1=i.2))]⟩ }
theorem SP:GC.Ok Tryz.prog 49:=by
 refine fok (X:=⟨tt,[(50,GB)],[],32,[]⟩) mixed BC (CTok.cons SO (CTok.nil _)) Tryz.func49 (λ (i:(List (List V2))×(List (List V2)))=>[(4,.mk 4 (Nat) (λ x1=>{ tm:=[(1,tX 1),(2,tX 2),(15,tX 3),(16,tI (nI i.1.length)),(17,tI (x1:Int))],en:=[(1,.view 25 [.sl 24 [.int,.int]] (AB i.2) []),(2,.ro (.fn 50 []) []),(3,.view 25 [.sl 24 [.int,.int]] (AB i.1) [])] }) (λ x1=>x1<=i.1.length/\i.1.length=i.2.length/\i.1.take x1=i.2.take x1) (λ x1=>i.1.length-x1) (λ _=>[]))]) ?_
 rintro ⟨a,b⟩ hpre
 have hpre:(∀ x ∈ a,x.length<=1048576)/\(∀ x ∈ b,x.length<=1048576)/\a.length<=1048576/\b.length<=1048576:=hpre
 refine BB (q:=let Z4:=(.fn 50 []:RO)=.fn 50 [];let Z3:=(vB false=vB (decide (a=b)));let Z2:=AB b;let Z1:=AB a;ifB (((nI (Z1.length)) != (nI (Z2.length)))) Z3 ((∃ x1:Nat,(x1<=a.length/\a.length=b.length/\a.take x1=b.take x1)/\((vI (nI (Z1.length))=vI (nI a.length))/\(vI (0:Int)=vI (x1:Int))/\(rf Z2)/\Z4/\(rf Z1)))/\∀ x1:Nat,(x1<=a.length/\a.length=b.length/\a.take x1=b.take x1)->(ifB ((decide ((x1:Int)<(nI a.length)))) ((0<=(x1:Int)/\(x1:Int)<(Z1.length:Int))/\((x1<Z1.length)/\((0<=(x1:Int)/\(x1:Int)<(Z2.length:Int))/\((x1<Z2.length)/\(∃ i1:(List V2)×(List V2),[DA.one (DC.sl 24 [.int,.int] ((((Z1.getD x1 []).getD 0 (.int 0))).r)),DA.one (DC.sl 24 [.int,.int] ((((Z2.getD x1 []).getD 0 (.int 0))).r))]=GB.args i1/\GB.pre i1/\(ifB ((!(decide (i1.1=i1.2)))) Z3 (∃ y2:Nat,(y2<=a.length/\a.length=b.length/\a.take y2=b.take y2)/\(a.length-y2<a.length-x1)/\((rf (vI (nI a.length)))/\(vI (wR ((x1:Int)+(1:Int)))=vI (y2:Int))/\(rf Z2)/\Z4/\(rf Z1))))))))) ((vB true=vB (decide (a=b))))))) (by kernel_rfl) ?_
 conv=>zeta
 delta ifB vB vI wR nI
 have hva:=AW a
 have hvb:=AW b
 refine ⟨λ c1=>?_,λ c1=>?_⟩
 ·try simp only [nrm] at c1
  have hne:a≠b:=λ e=>c1 (by rw [e])
  exact congrArg Value.bool (decide_eq_false hne).symm
 try simp only [nrm] at c1
 refine ⟨⟨0,by
  first|exact ⟨Nat.zero_le _,by omega,rfl⟩|omega|trivial,?_⟩,?_⟩
 ·refine ⟨?_,rfl,rfl,?_,rfl⟩
  ·first|rfl|exact AV (by rw [hva])
  first|rfl|exact AV (by rw [hva])
 intro (k:Nat) hki3
 have hki3:k<=a.length/\a.length=b.length/\a.take k=b.take k:=hki3
 refine And.symm ⟨λ c10=>?_,λ c10=>?_⟩
 ·try simp only [nrm] at c10
  have he:a=b:=KW (by omega) hki3.2.1 hki3.2.2
  exact congrArg Value.bool (decide_eq_true he).symm
 try simp only [nrm] at c10
 refine ao (by first|omega|rfl) λ o11=>?_
 refine ao (by first|omega|rfl) λ o12=>?_
 refine ao (by first|omega|rfl) λ o13=>?_
 refine ao (by first|omega|rfl) λ o14=>?_
 refine ⟨(a.getD k [],b.getD k []),by
  rw [KX (show k<a.length by omega),KX (show k<b.length by omega)];rfl,by
  show (a.getD k []).length<=1048576/\(b.getD k []).length<=1048576
  exact ⟨Oj hpre.1 (by omega),Oj hpre.2.1 (by omega)⟩,?_⟩
 refine ⟨λ c18=>?_,λ c18=>?_⟩
 ·try simp only [nrm] at c18
  have hne:a≠b:=Oi (d:=[]) (k:=k) (by omega) (by omega) c18
  exact congrArg Value.bool (decide_eq_false hne).symm
 try simp only [nrm] at c18
 have hq:=KV (d:=[]) (by omega) (by omega) hki3.2.2 c18
 refine ⟨k+1,by
  exact ⟨by omega,hki3.2.1,hq⟩,by
  first|omega|(simp;omega),?_⟩
 refine ⟨rfl,?_,rfl,?_,rfl⟩
 ·first|rfl|exact AV (AE (by omega) (by omega))
 first|rfl|exact AV (AE (by omega) (by omega))
def D2:Con:={ ι:=(List (List V2))×(List (List V2)),pre:=λ i=>(∀ x ∈ i.1,x.length<=1048576)/\(∀ x ∈ i.2,x.length<=1048576)/\i.1.length<=1048576/\i.2.length<=1048576,args:=λ i=>[.one (DC.sl 25 [.sl 24 [.int,.int]] (AB i.1)),.one (DC.sl 25 [.sl 24 [.int,.int]] (AB i.2))],res:=λ i=>⟨false,[none],[rcB (decide (i.1=i.2))]⟩ }
theorem Px:D2.Ok Tryz.prog 27:=by
 refine fok (X:=⟨tt,[(49,GC)],[],8,[]⟩) mixed BC (CTok.cons SP (CTok.nil _)) Tryz.func27 (λ _=>[]) ?_
 rintro ⟨a,b⟩ hpre
 have hpre:(∀ x ∈ a,x.length<=1048576)/\(∀ x ∈ b,x.length<=1048576)/\a.length<=1048576/\b.length<=1048576:=hpre
 refine BB (q:=∃ i1:(List (List V2))×(List (List V2)),[DA.one (DC.sl 25 [.sl 24 [.int,.int]] (AB a)),DA.one (DC.sl 25 [.sl 24 [.int,.int]] (AB b)),DA.one (DC.ro (.fn 50 []))]=GC.args i1/\GC.pre i1/\((vB (decide (i1.1=i1.2))=vB (decide (a=b))))) (by kernel_rfl) ?_
 delta vB
 refine ⟨(a,b),by
  rfl,by
  exact hpre,?_⟩
 exact rfl
def sameS (a b:Scn):Bool:=decide (a.low=b.low/\a.high=b.high/\a.robot=b.robot/\a.obst=b.obst/\a.tables=b.tables)
def BL:Con:={ ι:=Scn×Scn,pre:=λ i=>Cw i.1/\Cw i.2,args:=λ i=>[DA.agg [cI i.1.low.1,cI i.1.low.2,cI i.1.high.1,cI i.1.high.2,DC.sl 24 [.int,.int] (AA i.1.robot),DC.sl 25 [.sl 24 [.int,.int]] (AB i.1.obst),DC.sl 24 [.int,.int] (AA i.1.tables)],DA.agg [cI i.2.low.1,cI i.2.low.2,cI i.2.high.1,cI i.2.high.2,DC.sl 24 [.int,.int] (AA i.2.robot),DC.sl 25 [.sl 24 [.int,.int]] (AB i.2.obst),DC.sl 24 [.int,.int] (AA i.2.tables)]],res:=λ i=>⟨false,[none],[rcB (sameS i.1 i.2)]⟩ }
theorem N6:BL.Ok Tryz.prog 10:=by
 refine fok (X:=⟨tt,[(26,BO),(27,D2)],[],38,[]⟩) mixed BC (CTok.cons KY (CTok.cons Px (CTok.nil _))) Tryz.func10 (λ _=>[]) ?_
 rintro ⟨a,b⟩ hpre
 have hpre:Cw a/\Cw b:=hpre
 refine BB (q:=let Z1:=(vB false=vB (sameS a b));ifB (([a.low.1,a.low.2] == [b.low.1,b.low.2])) (ifB (([a.high.1,a.high.2] == [b.high.1,b.high.2])) (∃ i1:(List V2)×(List V2),[DA.one (DC.sl 24 [.int,.int] (AA a.robot)),DA.one (DC.sl 24 [.int,.int] (AA b.robot))]=BO.args i1/\BO.pre i1/\(ifB ((decide (i1.1=i1.2))) (∃ i2:(List (List V2))×(List (List V2)),[DA.one (DC.sl 25 [.sl 24 [.int,.int]] (AB a.obst)),DA.one (DC.sl 25 [.sl 24 [.int,.int]] (AB b.obst))]=D2.args i2/\D2.pre i2/\(ifB ((decide (i2.1=i2.2))) (∃ i3:(List V2)×(List V2),[DA.one (DC.sl 24 [.int,.int] (AA a.tables)),DA.one (DC.sl 24 [.int,.int] (AA b.tables))]=BO.args i3/\BO.pre i3/\((vB (decide (i3.1=i3.2))=vB (sameS a b)))) Z1)) Z1)) Z1) Z1) (by kernel_rfl) ?_
 conv=>zeta
 delta ifB vB
 obtain ⟨⟨a1,a2,a3,a4⟩,b1,b2,b3,b4⟩:=hpre
 refine And.symm ⟨λ c1=>?_,λ c1=>?_⟩
 ·try simp only [nrm] at c1
  exact congrArg Value.bool (decide_eq_false (λ e=>c1 (by rw [e.1]))).symm
 try simp only [nrm] at c1
 refine And.symm ⟨λ c2=>?_,λ c2=>?_⟩
 ·try simp only [nrm] at c2
  exact congrArg Value.bool (decide_eq_false (λ e=>c2 (by rw [e.2.1]))).symm
 try simp only [nrm] at c2
 refine ⟨(a.robot,b.robot),by
  rfl,by
  show a.robot.length<=1048576/\b.robot.length<=1048576
  first|exact ⟨a1,b1⟩|exact ⟨a3,b3,a2,b2⟩|exact ⟨a4,b4⟩,?_⟩
 refine And.symm ⟨λ c6=>?_,λ c6=>?_⟩
 ·try simp only [nrm] at c6
  exact congrArg Value.bool (decide_eq_false (λ e=>c6 e.2.2.1)).symm
 try simp only [nrm] at c6
 refine ⟨(a.obst,b.obst),by
  rfl,by
  show (∀ x ∈ a.obst,x.length<=1048576)/\(∀ x ∈ b.obst,x.length<=1048576)/\a.obst.length<=1048576/\b.obst.length<=1048576
  first|exact ⟨a1,b1⟩|exact ⟨a3,b3,a2,b2⟩|exact ⟨a4,b4⟩,?_⟩
 refine And.symm ⟨λ c10=>?_,λ c10=>?_⟩
 ·try simp only [nrm] at c10
  exact congrArg Value.bool (decide_eq_false (λ e=>c10 e.2.2.2.1)).symm
 try simp only [nrm] at c10
 refine ⟨(a.tables,b.tables),by
  rfl,by
  show a.tables.length<=1048576/\b.tables.length<=1048576
  first|exact ⟨a1,b1⟩|exact ⟨a3,b3,a2,b2⟩|exact ⟨a4,b4⟩,?_⟩
 show Value.bool (decide (a.tables=b.tables))=Value.bool (sameS a b)
 have e1:=LH c1
 have e2:=LH c2
 show Value.bool _=Value.bool (decide _)
 simp only [e1,e2,c6,c10,true_and]
structure ScnLaw (s:Scn) (l:List V2):Prop where
 val:AG s=true
 sz:Cw s/\s.obst.length<=1048575
 len:l.length<=1048576
 add:AG (AQ s (s.obst++[l]))=true
 sz2:Cw (AQ s (s.obst++[l]))
 ok:okT (BY s)=true
 out:Bc (BY s)=s
 txt:(BY s).size<=1073741824
 has:CO (AQ s (s.obst++[l])) (((AB s.obst).length:Nat):Int)=true
 rem:BP (AQ s (s.obst++[l])) (((AB s.obst).length:Nat):Int)=s
 ne:sameS s (AQ s (s.obst++[l]))=false
 eq:sameS s s=true
 chk:0<=K4 s
theorem SQ {s:Scn} {l:List V2} (hV:AG s=true) (h3:s.obst.length<=3) (hL:shape 200 l=true):ScnLaw s l:=by
 have hA:=Pu hV h3 hL
 have hF:BY s=Ab s:=ES hV
 obtain ⟨r1,r2,-⟩:=KT hV
 have hok:okT (Ab s)=true:=by
  simp only [okT,Bool.and_eq_true,decide_eq_true_eq]
  rw [r1]
  exact ⟨r2,hV,rfl⟩
 have hh:CO (AQ s (s.obst++[l])) (((AB s.obst).length:Nat):Int)=true:=by
  refine PT hA (by omega) ?_
  have e:(AQ s (s.obst++[l])).obst.length=s.obst.length+1:=by simp [AQ]
  rw [AW,e];omega
 refine ⟨hV,⟨(Mo hV).1,by omega⟩,?_,hA,(Mo hA).1,by rw [hF];exact hok,by rw [hF,AF hok];exact r1,?_,hh,?_,?_,?_,?_⟩
 ·simp only [shape,Bool.and_eq_true,decide_eq_true_eq] at hL;omega
 ·rw [hF];have:=KP hV;omega
 ·rw [Nj hh,AW,Int.toNat_natCast]
  show AQ s ((s.obst++[l]).eraseIdx s.obst.length)=s
  rw [List.eraseIdx_append_of_length_le (Nat.le_refl _),Nat.sub_self]
  simp [AQ]
 ·refine decide_eq_false λ e=>?_
  have:=congrArg List.length e.2.2.2.1
  simp [AQ] at this
 ·exact decide_eq_true ⟨rfl,rfl,rfl,rfl,rfl⟩
 ·rw [JE hV];omega
def Py:Con:={ ι:=(List UInt8),pre:=λ i=>True,args:=λ i=>[.one (.ro (.bytes i))],res:=λ i=>⟨false,[none],[rcB true]⟩ }
theorem Rh:Py.Ok Tryz.prog 3:=by
 refine fok (X:=⟨tt,[(4,Ex),(6,Ep),(5,Es),(8,D0),(7,CG),(9,C3),(10,BL),(11,CR)],[],71,[]⟩) mixed BC (CTok.cons Re (CTok.cons RS (CTok.cons RX (CTok.cons Po (CTok.cons Pw (CTok.cons Pv (CTok.cons N6 (CTok.cons SD (CTok.nil _))))))))) Tryz.func3 (λ _=>[]) ?_
 intro (b:List UInt8) hpre
 have hpre:True:=hpre
 refine BB (q:=let Z4:=(vB false=vB true);ifB ((decide ((nI b.length)>(1048576:Int)))) ((vB true=vB true)) (∃ i1:(List UInt8),let Z1:=Ay i1 (AU i1);let Z9:=Z1.high.2;let Z8:=Z1.high.1;let Z7:=AA Z1.robot;let Z6:=AA Z1.tables;let Z5:=AB Z1.obst;[DA.one (DC.ro (.bytes b))]=Ex.args i1/\Ex.pre i1/\(∃ i2:Scn,[DA.agg [cI 0,cI 0,cI Z8,cI Z9,DC.sl 24 [.int,.int] Z7,DC.sl 25 [.sl 24 [.int,.int]] Z5,DC.sl 24 [.int,.int] Z6]]=Ep.args i2/\Ep.pre i2/\(∃ i3:ByteArray,[DA.one (DC.im (Value.string (BY i2)))]=Es.args i3/\Es.pre i3/\(∃ i4:(List UInt8)×Nat,[DA.one (DC.ro (.bytes b)),DA.one (cI (3:Int))]=D0.args i4/\D0.pre i4/\(∃ i5:Scn×(List V2),let Z2:=AQ i5.1 (i5.1.obst++[i5.2]);[DA.agg [cI 0,cI 0,cI Z8,cI Z9,DC.sl 24 [.int,.int] Z7,DC.sl 25 [.sl 24 [.int,.int]] Z5,DC.sl 24 [.int,.int] Z6],DA.one (DC.sl 24 [.int,.int] (AA (drP i4.1 5 (Ar i4.1 (7*i4.2))).1))]=CG.args i5/\CG.pre i5/\(∃ i6:Scn×Int,let Z3:=BP i6.1 i6.2;[DA.agg [cI (Z2.low.1),cI (Z2.low.2),cI (Z2.high.1),cI (Z2.high.2),DC.sl 24 [.int,.int] (AA Z2.robot),DC.sl 25 [.sl 24 [.int,.int]] (AB Z2.obst),DC.sl 24 [.int,.int] (AA Z2.tables)],DA.one (cI (nI (Z5.length)))]=C3.args i6/\C3.pre i6/\(ifB ((okT i3)) (ifB (true) (ifB ((CO i6.1 i6.2)) (∃ i7:Scn×Scn,[DA.agg [cI 0,cI 0,cI Z8,cI Z9,DC.sl 24 [.int,.int] Z7,DC.sl 25 [.sl 24 [.int,.int]] Z5,DC.sl 24 [.int,.int] Z6],DA.agg [cI ((Bc i3).low.1),cI ((Bc i3).low.2),cI ((Bc i3).high.1),cI ((Bc i3).high.2),DC.sl 24 [.int,.int] (AA (Bc i3).robot),DC.sl 25 [.sl 24 [.int,.int]] (AB (Bc i3).obst),DC.sl 24 [.int,.int] (AA (Bc i3).tables)]]=BL.args i7/\BL.pre i7/\(ifB ((sameS i7.1 i7.2)) (∃ i8:Scn×Scn,[DA.agg [cI 0,cI 0,cI Z8,cI Z9,DC.sl 24 [.int,.int] Z7,DC.sl 25 [.sl 24 [.int,.int]] Z5,DC.sl 24 [.int,.int] Z6],DA.agg [cI (Z3.low.1),cI (Z3.low.2),cI (Z3.high.1),cI (Z3.high.2),DC.sl 24 [.int,.int] (AA Z3.robot),DC.sl 25 [.sl 24 [.int,.int]] (AB Z3.obst),DC.sl 24 [.int,.int] (AA Z3.tables)]]=BL.args i8/\BL.pre i8/\(ifB ((sameS i8.1 i8.2)) (∃ i9:Scn×Scn,[DA.agg [cI 0,cI 0,cI Z8,cI Z9,DC.sl 24 [.int,.int] Z7,DC.sl 25 [.sl 24 [.int,.int]] Z5,DC.sl 24 [.int,.int] Z6],DA.agg [cI (Z2.low.1),cI (Z2.low.2),cI (Z2.high.1),cI (Z2.high.2),DC.sl 24 [.int,.int] (AA Z2.robot),DC.sl 25 [.sl 24 [.int,.int]] (AB Z2.obst),DC.sl 24 [.int,.int] (AA Z2.tables)]]=BL.args i9/\BL.pre i9/\(ifB ((!(sameS i9.1 i9.2))) (∃ i10:Scn,[DA.agg [cI 0,cI 0,cI Z8,cI Z9,DC.sl 24 [.int,.int] Z7,DC.sl 25 [.sl 24 [.int,.int]] Z5,DC.sl 24 [.int,.int] Z6]]=CR.args i10/\CR.pre i10/\(∃ i11:Scn,[DA.agg [cI (Z3.low.1),cI (Z3.low.2),cI (Z3.high.1),cI (Z3.high.2),DC.sl 24 [.int,.int] (AA Z3.robot),DC.sl 25 [.sl 24 [.int,.int]] (AB Z3.obst),DC.sl 24 [.int,.int] (AA Z3.tables)]]=CR.args i11/\CR.pre i11/\(ifB (((K4 i10) == (K4 i11))) (∃ i12:Scn,[DA.agg [cI 0,cI 0,cI Z8,cI Z9,DC.sl 24 [.int,.int] Z7,DC.sl 25 [.sl 24 [.int,.int]] Z5,DC.sl 24 [.int,.int] Z6]]=CR.args i12/\CR.pre i12/\((vB (decide ((K4 i12)≥(0:Int)))=vB true))) Z4))) Z4)) Z4)) Z4)) Z4) Z4) Z4)))))))) (by kernel_rfl) ?_
 conv=>zeta
 delta ifB vB nI
 refine ⟨λ c1=>?_,λ c1=>?_⟩
 ·try simp only [nrm] at c1
  exact rfl
 try simp only [nrm] at c1
 have hlen:b.length<=1048576:=by omega
 have Q:ScnLaw (Ay b (AU b)) (drP b 5 (Ar b (7*3))).1:=SQ (JK b (AU b)).1 (JK b (AU b)).2 (KU (by omega) (by omega) _)
 refine ⟨b,by
  rfl,by
  exact hlen,?_⟩
 refine ⟨(Ay b (AU b)),by
  rfl,by
  exact trivial,?_⟩
 refine ⟨BY (Ay b (AU b)),by
  rfl,by
  exact Q.txt,?_⟩
 refine ⟨(b,3),by
  rfl,by
  show b.length<=1048576/\3<=100
  exact ⟨hlen,by omega⟩,?_⟩
 refine ⟨((Ay b (AU b)),(drP b 5 (Ar b (7*3))).1),by
  rfl,by
  try dsimp only [CG]
  exact ⟨Q.sz,Q.len,Q.val,Q.add⟩,?_⟩
 refine ⟨((AQ (Ay b (AU b)) ((Ay b (AU b)).obst++[((drP b 5 (Ar b (7*3))).1)])),(((AB (Ay b (AU b)).obst).length:Nat):Int)),by
  rfl,by
  exact Q.sz2,?_⟩
 refine And.symm ⟨λ c21=>?_,λ c21=>?_⟩
 ·try simp only [nrm] at c21
  rw [Q.ok] at c21;cases c21 -- done
 try simp only [nrm] at c21
 refine And.symm ⟨λ c22=>?_,λ c22=>?_⟩
 ·try simp only [nrm] at c22
  cases c22 -- done
 try simp only [nrm] at c22
 refine And.symm ⟨λ c23=>?_,λ c23=>?_⟩
 ·try simp only [nrm] at c23
  rw [Q.has] at c23;cases c23 -- done
 try simp only [nrm] at c23
 refine ⟨((Ay b (AU b)),(Bc (BY (Ay b (AU b))))),by
  rfl,by
  show Cw (Ay b (AU b))/\Cw (Bc (BY (Ay b (AU b))))
  rw [Q.out];exact ⟨Q.sz.1,Q.sz.1⟩,?_⟩
 refine And.symm ⟨λ c27=>?_,λ c27=>?_⟩
 ·try simp only [nrm] at c27
  rw [Q.out,Q.eq] at c27;cases c27 -- done
 try simp only [nrm] at c27
 refine ⟨((Ay b (AU b)),(BP (AQ (Ay b (AU b)) ((Ay b (AU b)).obst++[((drP b 5 (Ar b (7*3))).1)])) (((AB (Ay b (AU b)).obst).length:Nat):Int))),by
  rfl,by
  show Cw (Ay b (AU b))/\Cw (BP (AQ (Ay b (AU b)) ((Ay b (AU b)).obst++[((drP b 5 (Ar b (7*3))).1)])) (((AB (Ay b (AU b)).obst).length:Nat):Int))
  rw [Q.rem];exact ⟨Q.sz.1,Q.sz.1⟩,?_⟩
 refine And.symm ⟨λ c31=>?_,λ c31=>?_⟩
 ·try dsimp only at c31
  try simp only [nrm] at c31
  rw [Q.rem,Q.eq] at c31;cases c31 -- done
 try dsimp only at c31
 try simp only [nrm] at c31
 refine ⟨((Ay b (AU b)),(AQ (Ay b (AU b)) ((Ay b (AU b)).obst++[((drP b 5 (Ar b (7*3))).1)]))),by
  rfl,by
  show Cw (Ay b (AU b))/\Cw (AQ (Ay b (AU b)) ((Ay b (AU b)).obst++[((drP b 5 (Ar b (7*3))).1)]))
  exact ⟨Q.sz.1,Q.sz2⟩,?_⟩
 refine And.symm ⟨λ c35=>?_,λ c35=>?_⟩
 ·try simp only [nrm] at c35
  rw [Q.ne] at c35;cases c35 -- done
 try simp only [nrm] at c35
 refine ⟨(Ay b (AU b)),by
  rfl,by
  exact trivial,?_⟩
 refine ⟨(BP (AQ (Ay b (AU b)) ((Ay b (AU b)).obst++[((drP b 5 (Ar b (7*3))).1)])) (((AB (Ay b (AU b)).obst).length:Nat):Int)),by
  rfl,by
  exact trivial,?_⟩
 refine And.symm ⟨λ c42=>?_,λ c42=>?_⟩
 ·try dsimp only at c42
  try simp only [nrm] at c42
  rw [Q.rem] at c42;exact absurd rfl c42 -- done
 try dsimp only at c42
 try simp only [nrm] at c42
 refine ⟨(Ay b (AU b)),by
  rfl,by
  exact trivial,?_⟩
 exact congrArg Value.bool (decide_eq_true Q.chk)
end Go.Proofs.YtmekciknfocmmaaGreatDoor
