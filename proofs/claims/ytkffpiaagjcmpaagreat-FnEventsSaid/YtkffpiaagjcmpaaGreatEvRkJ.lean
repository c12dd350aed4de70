import Derived.Test.YtkffpiaagjcmpaaGreatEvRkG
import Derived.Test.YtkffpiaagjcmpaaGreatEvNum4
import Derived.RegionTactic
namespace Go.Proofs.YtkffpiaagjcmpaaGreat
set_option maxRecDepth 100000
set_option linter.unusedVariables false
set_option linter.unusedSimpArgs false
open Go.RowKit
theorem ACz {a b:Int} (h1:decide (a<0)=decide (b<0)) (h2:a.natAbs=b.natAbs):a=b:=by rw [← Q3 a,← Q3 b,h1,h2]
def Db:Con:={ ι:=Nat×Nat,pre:=λ i=>nl i.1<=1048576/\nl i.2<=1048576,args:=λ i=>[.one (cS (L i.1)),.one (cS (L i.2))],mono:=true,res:=λ i=>⟨false,[none],[rcB (decide (i.1=i.2))]⟩ }
theorem Vo:Db.Ok Tryz.prog 64:=by
 refine fok (X:=⟨tt,[],[],26,[]⟩) mixed AQ (CTok.nil _) Tryz.func64 (λ (i:Nat×Nat)=>[(4,.mk 3 (Nat) (λ x1=>{ tm:=[(0,tX 1),(1,tX 2),(12,tI (nI ((L i.1).length))),(13,tI (nI x1))],en:=[(1,eV (L i.1)),(2,eV (L i.2))] }) (λ x1=>x1<=nl i.1/\nl i.1=nl i.2/\AX x1 i.1=AX x1 i.2) (λ x1=>nl i.1-x1) (λ _=>[]))]) ?_
 rintro ⟨a,b⟩ hpre
 have hpre:nl a<=1048576/\nl b<=1048576:=hpre
 refine AP (q:=let Z2:=(vB false=vB (decide (a=b)));let Z1:=nI ((L a).length);ifB ((Z1 != (nI ((L b).length)))) Z2 ((∃ x1:Nat,(x1<=nl a/\nl a=nl b/\AX x1 a=AX x1 b)/\((rf (vI Z1))/\(vI (0:Int)=vI (nI x1))/\(rf (L a))/\(rf (L b))))/\∀ x1:Nat,(x1<=nl a/\nl a=nl b/\AX x1 a=AX x1 b)->(ifB ((decide ((nI x1)<Z1))) ((0<=(nI x1)/\(nI x1)<((L a).length:Int))/\((x1<(L a).length)/\((0<=(nI x1)/\(nI x1)<((L b).length:Int))/\((x1<(L b).length)/\(ifB ((((((L a).getD x1 []).getD 0 (.int 0))).n != ((((L b).getD x1 []).getD 0 (.int 0))).n)) Z2 (∃ y2:Nat,(y2<=nl a/\nl a=nl b/\AX y2 a=AX y2 b)/\(nl a-y2<nl a-x1)/\((rf (vI Z1))/\(vI (wR ((nI x1)+(1:Int)))=vI (nI y2))/\(rf (L a))/\(rf (L b))))))))) ((vB true=vB (decide (a=b))))))) (by kernel_rfl) ?_
 conv=>zeta
 delta ifB vB vI wR nI
 have ha:=Aq a
 have hb:=Aq b
 refine ⟨λ c1=>?_,λ c1=>?_⟩
 ·try simp only [nrm] at c1
  exact congrArg Value.bool (decide_eq_false (λ e=>by subst e;omega)).symm
 try simp only [nrm] at c1
 refine ⟨⟨0,by
  exact ⟨Nat.zero_le _,by omega,rfl⟩,?_⟩,?_⟩
 ·refine ⟨rfl,?_,rfl,rfl⟩
  rfl
 intro (k:Nat) hki3
 have hki3:k<=nl a/\nl a=nl b/\AX k a=AX k b:=hki3
 refine And.symm ⟨λ c9=>?_,λ c9=>?_⟩
 ·try simp only [nrm] at c9
  exact congrArg Value.bool (decide_eq_true (Vn hki3.2.1 (by have:=hki3.2.2;rwa [show k=nl a by omega] at this))).symm
 try simp only [nrm] at c9
 refine ao (by omega) λ o10=>?_
 refine ao (by omega) λ o11=>?_
 refine ao (by omega) λ o12=>?_
 refine ao (by omega) λ o13=>?_
 refine ⟨λ c14=>?_,λ c14=>?_⟩
 ·try simp only [nrm] at c14
  rw [L_n,L_n] at c14
  exact congrArg Value.bool (decide_eq_false (λ e=>c14 (by rw [e]))).symm
 try simp only [nrm] at c14
 rw [L_n,L_n] at c14
 refine ⟨k+1,by
  exact ⟨by omega,hki3.2.1,by rw [DR,DR,hki3.2.2,show dgt a k=dgt b k by omega]⟩,by
  omega,?_⟩
 refine ⟨rfl,?_,rfl,rfl⟩
 exact AS (AC (by omega) (by omega))
def BG:Con:={ ι:=Fr×Fr,pre:=λ i=>True,args:=λ i=>[dF i.1,dF i.2],mono:=true,res:=λ i=>⟨false,[none],[rcB (eqF i.1 i.2)]⟩ }
theorem Gw:BG.Ok Tryz.prog 25:=by
 refine fok (X:=⟨tt,[(64,Db)],[],28,[]⟩) mixed AQ (CTok.cons Vo (CTok.nil _)) Tryz.func25 (λ _=>[]) ?_
 rintro ⟨r,s⟩ hpre
 have hpre:True:=hpre
 refine AP (q:=let Z1:=(vB false=vB (eqF r s));ifB (((decide (r.z<0)) == (decide (s.z<0)))) (∃ i1:Nat×Nat,[DA.one (cS (L r.z.natAbs)),DA.one (cS (L s.z.natAbs))]=Db.args i1/\Db.pre i1/\(ifB ((decide (i1.1=i1.2))) (∃ i2:Nat×Nat,[DA.one (cS (L r.d)),DA.one (cS (L s.d))]=Db.args i2/\Db.pre i2/\((vB (decide (i2.1=i2.2))=vB (eqF r s)))) Z1)) Z1) (by kernel_rfl) ?_
 conv=>zeta
 delta ifB vB
 have h1:=r.nlz
 have h2:=r.nld
 have h3:=s.nlz
 have h4:=s.nld
 refine And.symm ⟨λ c1=>?_,λ c1=>?_⟩
 ·try simp only [nrm] at c1
  exact congrArg Value.bool (by unfold eqF;rw [decide_eq_false (λ e=>c1 (by rw [e]))];rfl)
 try simp only [nrm] at c1
 refine ⟨(r.z.natAbs,s.z.natAbs),by
  rfl,by
  show nl r.z.natAbs<=1048576/\nl s.z.natAbs<=1048576
  exact ⟨by omega,by omega⟩,?_⟩
 refine And.symm ⟨λ c5=>?_,λ c5=>?_⟩
 ·try simp only [nrm] at c5
  exact congrArg Value.bool (by unfold eqF;rw [decide_eq_false (λ e=>c5 (by rw [e]))];rfl)
 try simp only [nrm] at c5
 refine ⟨(r.d,s.d),by
  rfl,by
  show nl r.d<=1048576/\nl s.d<=1048576
  exact ⟨by omega,by omega⟩,?_⟩
 exact congrArg Value.bool (by unfold eqF;rw [decide_eq_true (ACz c1 c5)];rfl)
end Go.Proofs.YtkffpiaagjcmpaaGreat
namespace Go.Proofs.YtkffpiaagjcmpaaGreat
set_option linter.unusedVariables false
set_option linter.unusedSimpArgs false
open Go.RowKit
def Ee:Con:={ ι:=Scn,pre:=λ i=>True,args:=λ i=>[DA.agg [cI i.low.1,cI i.low.2,cI i.high.1,cI i.high.2,DC.sl 24 [.int,.int] (AA i.robot),DC.sl 25 [.sl 24 [.int,.int]] (AM i.obst),DC.sl 24 [.int,.int] (AA i.tables)]],res:=λ i=>⟨false,[none],[rcB (AI i)]⟩ }
theorem Vp:Ee.Ok Tryz.prog 37:=CY rfl ⟨_,Tryz.func37,by decide,rfl⟩ (λ _=>Nat.le_of_ble_eq_true rfl) (λ _=>rfl) (λ s=>[.im (.bool (AI s))]) (λ _=>rfl) (λ _=>rfl) (λ i hp w us h=>by
 have h:RdRow w [.int,.int,.int,.int,.sl 24 [.int,.int],.sl 25 [.sl 24 [.int,.int]],.sl 24 [.int,.int]] (Wd i) us:=h
 have hl:=(RdRow.lens _ _ _ h).2
 rw [show BA (Ee.args i) us=[.agg us.toArray] from Fs hl]
 refine (Ed i _ w (RdRow.scene h)).mono ?_
 rintro e w' ⟨rfl,hb⟩
 exact ⟨[.bool (AI i)],rfl,Own.leaf (Fp.mk_bool _),hb⟩)
theorem Xy {s:Scn} (h:AI s=true):(-200<=s.low.1/\s.low.1<=200)/\(-200<=s.low.2/\s.low.2<=200)/\(-200<=s.high.1/\s.high.1<=200)/\(-200<=s.high.2/\s.high.2<=200):=by
 simp only [AI,Bool.and_eq_true,List.all_cons] at h
 have h1:=El h.1.1.1.1.1
 have h2:=El h.1.1.1.1.2.1
 omega
def Gx {α:Type} (p:α->Bool) (l:List α):Int:=match l.findIdx? p with|some k=>(k:Int)|none=>-1
theorem LU {α:Type} {p:α->Bool} {l:List α} {d:α} {k:Nat} (hk:k<l.length) (h:∀ j,j<k->p (l.getD j d)=false) (hp:p (l.getD k d)=true):Gx p l=(k:Int):=by
 have:l.findIdx? p=some k:=by
  rw [List.findIdx?_eq_some_iff_getElem]
  refine ⟨hk,?_,λ j hj=>?_⟩
  ·simpa [List.getD,hk] using hp
  ·have:=h j hj
   simpa [List.getD,show j<l.length by omega] using this
 unfold Gx;rw [this]
theorem J9 {α:Type} {p:α->Bool} {l:List α} {d:α} (h:∀ j,j<l.length->p (l.getD j d)=false):Gx p l=-1:=by
 have:l.findIdx? p=none:=by
  rw [List.findIdx?_eq_none_iff]
  intro x hx
  obtain ⟨j,hj,rfl⟩:=List.getElem_of_mem hx
  have:=h j hj
  simpa [List.getD,hj] using this
 unfold Gx;rw [this]
theorem Xz {α:Type} (p:α->Bool) (l:List α):decide (Gx p l≥0)=l.any p:=by
 unfold Gx
 cases h:l.findIdx? p with
 | none=>
  rw [List.findIdx?_eq_none_iff] at h
  have:l.any p=false:=by
   rw [List.any_eq_false];intro x hx;rw [h x hx];simp
  rw [this];rfl
 | some k=>
  rw [List.findIdx?_eq_some_iff_getElem] at h
  obtain ⟨hk,hp,_⟩:=h
  have:l.any p=true:=List.any_eq_true.2 ⟨_,List.getElem_mem hk,hp⟩
  rw [this]
  exact decide_eq_true (show (0:Int)<=(k:Int) by omega)
end Go.Proofs.YtkffpiaagjcmpaaGreat
namespace Go.Proofs.YtkffpiaagjcmpaaGreat
set_option maxRecDepth 100000
set_option linter.unusedVariables false
set_option linter.unusedSimpArgs false
open Go.RowKit
def A8:Con:={ ι:=(List V2),pre:=λ i=>True,args:=λ i=>[.one (DC.sl 24 [.int,.int] (AA i))],res:=λ i=>⟨false,[none],[rcB (i.all AE)]⟩ }
theorem F6:A8.Ok Tryz.prog 36:=CY rfl ⟨_,Tryz.func36,by decide,rfl⟩ (λ _=>Nat.le_of_ble_eq_true rfl) (λ _=>rfl) (λ l=>[.im (.bool (l.all AE))]) (λ _=>rfl) (λ _=>rfl) (λ i hp w us h=>by
 have h:RdRow w [.sl 24 [.int,.int]] [.sl (AA i)] us:=h
 obtain ⟨v,vs,rfl,h1,h2⟩:=RdRow.cons2 h
 obtain ⟨-,rfl⟩:=RdRow.nil_inv h2
 refine (J6 i v w (Rd.vecs h1)).mono ?_
 rintro e w' ⟨rfl,hb⟩
 exact ⟨[Value.bool (i.all AE)],rfl,Own.leaf (Fp.mk_bool _),hb⟩)
theorem RE {v:V2} (h:AE v=true) (k:Nat):AE (Bz k v)=true:=Nb h k
theorem DJ (l:List V2) (k:Nat):(Ad l k).length=l.length:=by simp [Ad]
theorem IB {l:List V2} {k n:Nat} (hk:k<l.length):AA (Ad (l.take k) n)++[[.int (Bz n (l.getD k (0,0))).1,.int (Bz n (l.getD k (0,0))).2]]=AA (Ad (l.take (k+1)) n):=by
 rw [EQ l (0,0) k hk]
 simp [Ad,AA,Hz]
theorem Vq {k:Int} (h0:0<=k) (h1:k<=3):Int.tmod (IntKind.i64.wrap (Int.tmod k 4+4)) 4=k:=by
 have:k=0∨k=1∨k=2∨k=3:=by omega
 rcases this with rfl|rfl|rfl|rfl <;> rfl
def AF (s:Scn) (h:Int):List V2:=if AI s=true/\0<=h/\h<=3 then Ad s.robot h.toNat else []
theorem Dy {s:Scn} {h:Int} (h1:AI s=true) (h2:0<=h/\h<=3):AF s h=Ad s.robot h.toNat:=by unfold AF;rw [if_pos ⟨h1,h2⟩]
theorem IR {s:Scn} {h:Int} (h1:AI s=false∨¬ (0<=h/\h<=3)):AF s h=[]:=by
 unfold AF
 rw [if_neg]
 rintro ⟨a,b⟩
 rcases h1 with h1|h1
 ·rw [h1] at a;cases a
 ·exact h1 b
theorem KA {s:Scn} (h:AI s=true):AK s.robot=true:=by
 simp only [AI,shape,Bool.and_eq_true] at h
 exact h.1.2.1.1
theorem RF (s:Scn) (h:Int):(AF s h).all AE=true/\(AF s h).length<=16:=by
 unfold AF
 split
 ·next hv=>
  have hp:=Da (KA hv.1)
  rw [DJ]
  refine ⟨?_,hp.2.1⟩
  rw [List.all_eq_true]
  intro x hx
  simp only [Ad,List.mem_map] at hx
  obtain ⟨y,hy,rfl⟩:=hx
  exact RE (List.all_eq_true.1 hp.2.2 y hy) _
 ·exact ⟨rfl,Nat.zero_le _⟩
theorem TJ {s:Scn} {h:Int} (h1:AI s=true) (h2:0<=h/\h<=3):AF s h≠[]:=by
 rw [Dy h1 h2]
 intro e
 have hp:=Da (KA h1)
 have:=DJ s.robot h.toNat
 rw [e,List.length_nil] at this
 omega
def Dj:Con:={ ι:=Int,pre:=λ i=>True,args:=λ i=>[.one (cI i)],res:=λ i=>⟨false,[none],[rcB (decide (i≥0) && decide (i<=3))]⟩ }
theorem PM:Dj.Ok Tryz.prog 38:=by
 refine fok (X:=⟨tt,[(40,Bq)],[],5,[]⟩) mixed AQ (CTok.cons Jy (CTok.nil _)) Tryz.func38 (λ _=>[]) ?_
 intro (n:Int) hpre
 have hpre:True:=hpre
 refine AP (q:=∃ i1:Int×Int×Int,[DA.one (cI n),DA.one (cI (0:Int)),DA.one (cI (3:Int))]=Bq.args i1/\Bq.pre i1/\((vB (decide (i1.1≥i1.2.1) && decide (i1.1<=i1.2.2))=vB (decide (n≥0) && decide (n<=3))))) (by kernel_rfl) ?_
 delta vB
 refine ⟨(n,(0:Int),(3:Int)),by
  rfl,by
  first|trivial|(first|omega|assumption|exact hpre.1|exact hpre.2|(simp;done)),?_⟩
 rfl
def D9:Con:={ ι:=Int×Int×Int,pre:=λ i=>(0<=i.2.2/\i.2.2<=3)/\True/\AE (i.1,i.2.1)=true,args:=λ i=>[DA.agg [cI i.1,cI i.2.1],.one (cI i.2.2)],res:=λ i=>⟨false,[some 2],[rcI ((Bz i.2.2.toNat (i.1,i.2.1)).1),rcI ((Bz i.2.2.toNat (i.1,i.2.1)).2)]⟩ }
theorem RG:D9.Ok Tryz.prog 79:=by
 refine fok (X:=⟨tt,[],[],19,[]⟩) mixed AQ (CTok.nil _) Tryz.func79 (λ (i:Int×Int×Int)=>[(2,.mk 3 (Nat) (λ x1=>{ tm:=[(2,tP 1 0),(4,tP 2 0),(9,tI (nI x1)),(8,tI i.2.2)],en:=[(1,.box [kI ((Bz x1 (i.1,i.2.1)).1),kI ((Bz x1 (i.1,i.2.1)).2)]),(2,.box [kI (0:Int),kI (0:Int)])] }) (λ x1=>x1<=i.2.2.toNat) (λ x1=>i.2.2.toNat-x1) (λ _=>[]))]) ?_
 rintro ⟨x,y,k⟩ hpre
 have hpre:(0<=k/\k<=3)/\True/\AE (x,y)=true:=hpre
 refine AP (q:=let Z2:=vI (0:Int);((4:Int)≠0)/\(((4:Int)≠0)/\((∃ x1:Nat,(x1<=k.toNat)/\((vI (0:Int)=vI (nI x1))/\(vI (Int.tmod (wR ((Int.tmod k (4:Int))+(4:Int))) (4:Int))=vI k)/\(vI x=vI ((Bz x1 (x,y)).1))/\(vI y=vI ((Bz x1 (x,y)).2))/\(rf Z2)/\(rf Z2)))/\∀ x1:Nat,let Z1:=Bz x1 (x,y);(x1<=k.toNat)->(ifB ((decide ((nI x1)<k))) (∃ y2:Nat,(y2<=k.toNat)/\(k.toNat-y2<k.toNat-x1)/\((vI (wR ((nI x1)+(1:Int)))=vI (nI y2))/\(rf (vI k))/\(vI (wR (0-(Z1.2)))=vI ((Bz y2 (x,y)).1))/\(vI (Z1.1)=vI ((Bz y2 (x,y)).2))/\(rf Z2)/\(rf Z2))) ((vI (Z1.1)=vI ((Bz k.toNat (x,y)).1))/\(vI (Z1.2)=vI ((Bz k.toNat (x,y)).2))))))) (by kernel_rfl) ?_
 conv=>zeta
 delta ifB vI wR nI
 have hq:=λ j=>Bs (RE hpre.2.2 j)
 have hw:=Vq hpre.1.1 hpre.1.2
 refine ao (by first|rfl|omega|(simp;done)|(simp;omega)) λ o1=>?_
 refine ao (by first|rfl|omega|(simp;done)|(simp;omega)) λ o2=>?_
 refine ⟨⟨0,by
  first|trivial|omega|(simp;omega),?_⟩,?_⟩
 ·refine ⟨?_,?_,?_,?_,rfl,rfl⟩
  ·first|rfl|(rw [hw])
  ·first|rfl|(rw [hw])
  ·first|rfl|(rw [hw])
  first|rfl|(rw [hw])
 intro (j:Nat) hki3
 have hki3:j<=k.toNat:=hki3
 refine And.symm ⟨λ c11=>?_,λ c11=>?_⟩
 ·try simp only [nrm] at c11
  refine ⟨?_,?_⟩
  ·rw [show k.toNat=j by omega]
  rw [show k.toNat=j by omega]
 try simp only [nrm] at c11
 refine ⟨j+1,by
  first|trivial|omega|(simp;omega),by
  first|omega|(simp;omega),?_⟩
 refine ⟨?_,rfl,?_,?_,rfl,rfl⟩
 ·first|rfl|exact AS (AC (by omega) (by omega))|exact AS (show IntKind.i64.wrap (0-(Bz j (x,y)).2)=-(Bz j (x,y)).2 from by have:=hq j;rw [AC (by omega) (by omega)];omega)|exact AS (by rw [AC (by omega) (by omega)];omega)
 ·first|rfl|exact AS (AC (by omega) (by omega))|exact AS (show IntKind.i64.wrap (0-(Bz j (x,y)).2)=-(Bz j (x,y)).2 from by have:=hq j;rw [AC (by omega) (by omega)];omega)|exact AS (by rw [AC (by omega) (by omega)];omega)
 first|rfl|exact AS (AC (by omega) (by omega))|exact AS (show IntKind.i64.wrap (0-(Bz j (x,y)).2)=-(Bz j (x,y)).2 from by have:=hq j;rw [AC (by omega) (by omega)];omega)|exact AS (by rw [AC (by omega) (by omega)];omega)
def Dk:Con:={ ι:=(List V2)×Int,pre:=λ i=>(0<=i.2/\i.2<=3)/\i.1.length<=1048576/\i.1.all AE=true,args:=λ i=>[.one (DC.sl 24 [.int,.int] (AA i.1)),.one (cI i.2)],res:=λ i=>⟨false,[none],[.own 24 [.int,.int] (AA (Ad i.1 i.2.toNat))]⟩ }
theorem PN:Dk.Ok Tryz.prog 39:=by
 refine fok (X:=⟨tt,[(36,A8),(79,D9)],[],26,[]⟩) mixed AQ (CTok.cons F6 (CTok.cons RG (CTok.nil _))) Tryz.func39 (λ (i:(List V2)×Int)=>[(5,.mk 3 (Nat) (λ x1=>{ tm:=[(12,tX 1),(13,tI (nI ((AA i.1).length))),(14,tI (nI x1)),(1,tI i.2),(5,tX 2)],en:=[(1,.view 24 [.int,.int] (AA i.1) []),(2,.own 24 [.int,.int] (AA (Ad (i.1.take x1) i.2.toNat)))] }) (λ x1=>x1<=i.1.length) (λ x1=>i.1.length-x1) (λ _=>[]))]) ?_
 rintro ⟨l,h⟩ hpre
 have hpre:(0<=h/\h<=3)/\l.length<=1048576/\l.all AE=true:=hpre
 refine AP (q:=let Z3:=nI ((AA l).length);∃ i1:(List V2),[DA.one (DC.sl 24 [.int,.int] (AA l))]=A8.args i1/\A8.pre i1/\(ifB ((!(i1.all AE))) ((([]:List (List Dat))=AA (Ad l h.toNat))) ((∃ x1:Nat,(x1<=l.length)/\((rf (vI Z3))/\(vI (0:Int)=vI (nI x1))/\(rf (vI h))/\(rf (AA l))/\(([]:List (List Dat))=(AA (Ad (l.take x1) h.toNat)))))/\∀ x1:Nat,let Z2:=AA (Ad (l.take x1) h.toNat);(x1<=l.length)->(ifB ((decide ((nI x1)<Z3))) ((0<=(nI x1)/\(nI x1)<((AA l).length:Int))/\((x1<(AA l).length)/\(∃ i2:Int×Int×Int,let Z1:=Bz i2.2.2.toNat (i2.1,i2.2.1);[DA.agg [cI (((((AA l).getD x1 []).getD 0 (.int 0))).n),cI (((((AA l).getD x1 []).getD 1 (.int 0))).n)],DA.one (cI h)]=D9.args i2/\D9.pre i2/\((Z2.length+([[Dat.int (Z1.1),Dat.int (Z1.2)]]:List (List Dat)).length<=2199023255552)/\(∃ y2:Nat,(y2<=l.length)/\(l.length-y2<l.length-x1)/\((rf (vI Z3))/\(vI (wR ((nI x1)+(1:Int)))=vI (nI y2))/\(rf (vI h))/\(rf (AA l))/\((Z2++([[Dat.int (Z1.1),Dat.int (Z1.2)]]:List (List Dat)))=(AA (Ad (l.take y2) h.toNat))))))))) ((Z2=AA (Ad l h.toNat))))))) (by kernel_rfl) ?_
 conv=>zeta
 delta ifB vI wR nI
 have hvl:=AB l
 refine ⟨l,by
  rfl,by
  first|trivial|exact ⟨hpre.1,trivial,A7 hpre.2.2 (by omega)⟩,?_⟩
 refine ⟨λ c4=>?_,λ c4=>?_⟩
 ·try simp only [nrm] at c4
  rw [hpre.2.2] at c4
  cases c4 -- done
 try simp only [nrm] at c4
 refine ⟨⟨0,by
  first|trivial|omega|(simp;omega),?_⟩,?_⟩
 ·refine ⟨rfl,?_,rfl,rfl,?_⟩
  ·first|rfl|(rw [AB])
  first|rfl|(rw [AB])
 intro (k:Nat) hki6
 have hki6:k<=l.length:=hki6
 refine And.symm ⟨λ c13=>?_,λ c13=>?_⟩
 ·try simp only [nrm] at c13
  rw [show k=l.length by omega,List.take_length]
 try simp only [nrm] at c13
 refine ao (by first|omega|(simp only [AB,DJ,List.length_take,List.length_cons,List.length_nil];omega)) λ o14=>?_
 refine ao (by first|omega|(simp only [AB,DJ,List.length_take,List.length_cons,List.length_nil];omega)) λ o15=>?_
 refine ⟨((l.getD k (0,0)).1,(l.getD k (0,0)).2,h),by
  rw [Aj (by omega),Aw (by omega)];rfl,by
  first|trivial|exact ⟨hpre.1,trivial,A7 hpre.2.2 (by omega)⟩,?_⟩
 refine ao (a:=(AA (Ad (l.take k) h.toNat)).length+([[Dat.int ((Bz h.toNat (((l.getD k (0,0)).1),((l.getD k (0,0)).2))).1),Dat.int ((Bz h.toNat (((l.getD k (0,0)).1),((l.getD k (0,0)).2))).2)]]:List (List Dat)).length<=2199023255552) (by first|omega|(simp only [AB,DJ,List.length_take,List.length_cons,List.length_nil];omega)) λ o19=>?_
 refine ⟨k+1,by
  first|trivial|omega|(simp;omega),by
  first|omega|(simp;omega),?_⟩
 refine ⟨rfl,?_,rfl,rfl,?_⟩
 ·first|rfl|exact AS (AC (by omega) (by omega))|exact IB (by omega)
 first|rfl|exact AS (AC (by omega) (by omega))|exact IB (by omega)
def B8:Con:={ ι:=Scn×Int,pre:=λ i=>True,args:=λ i=>[DA.agg [cI i.1.low.1,cI i.1.low.2,cI i.1.high.1,cI i.1.high.2,DC.sl 24 [.int,.int] (AA i.1.robot),DC.sl 25 [.sl 24 [.int,.int]] (AM i.1.obst),DC.sl 24 [.int,.int] (AA i.1.tables)],.one (cI i.2)],res:=λ i=>⟨false,[none],[.own 24 [.int,.int] (AA (AF i.1 i.2))]⟩ }
theorem Kt:B8.Ok Tryz.prog 9:=by
 refine fok (X:=⟨tt,[(37,Ee),(38,Dj),(39,Dk)],[],17,[]⟩) mixed AQ (CTok.cons Vp (CTok.cons PM (CTok.cons PN (CTok.nil _)))) Tryz.func9 (λ _=>[]) ?_
 rintro ⟨s,h⟩ hpre
 have hpre:True:=hpre
 refine AP (q:=let Z1:=(([]:List (List Dat))=AA (AF s h));∃ i1:Scn,[DA.agg [cI s.low.1,cI s.low.2,cI s.high.1,cI s.high.2,DC.sl 24 [.int,.int] (AA s.robot),DC.sl 25 [.sl 24 [.int,.int]] (AM s.obst),DC.sl 24 [.int,.int] (AA s.tables)]]=Ee.args i1/\Ee.pre i1/\(ifB ((!(!(AI i1)))) (∃ i2:Int,[DA.one (cI h)]=Dj.args i2/\Dj.pre i2/\(ifB ((!(decide (i2≥0) && decide (i2<=3)))) Z1 (∃ i3:(List V2)×Int,[DA.one (DC.sl 24 [.int,.int] (AA s.robot)),DA.one (cI h)]=Dk.args i3/\Dk.pre i3/\((AA (Ad i3.1 i3.2.toNat)=AA (AF s h)))))) Z1)) (by kernel_rfl) ?_
 conv=>zeta
 delta ifB
 refine ⟨s,by
  rfl,by
  first|trivial|exact ⟨by omega,by omega,hP.2.2⟩,?_⟩
 refine And.symm ⟨λ c4=>?_,λ c4=>?_⟩
 ·try simp only [nrm] at c4
  have hE:=IR (h:=h) (.inl c4)
  first|(rw [hE];done)|(rw [hE];rfl)
 try simp only [nrm] at c4
 refine ⟨h,by
  rfl,by
  first|trivial|exact ⟨by omega,by omega,hP.2.2⟩,?_⟩
 refine ⟨λ c8=>?_,λ c8=>?_⟩
 ·try simp only [nrm] at c8
  have hE:=IR (s:=s) (h:=h) (.inr (by omega))
  first|(rw [hE];done)|(rw [hE];rfl)
 try simp only [nrm] at c8
 have hE:=Dy c4 (show 0<=h/\h<=3 by omega)
 have hP:=Da (KA c4)
 refine ⟨(s.robot,h),by
  rfl,by
  show (0<=h/\h<=3)/\s.robot.length<=1048576/\s.robot.all AE=true
  first|trivial|exact ⟨by omega,by omega,hP.2.2⟩,?_⟩
 show AA (Ad s.robot h.toNat)=AA (AF s h)
 first|(rw [hE];done)|(rw [hE];rfl)
end Go.Proofs.YtkffpiaagjcmpaaGreat
