import Derived.Test.YtmedodfenejimaaGreatTpRkH
namespace Go.Proofs.YtmedodfenejimaaGreat
set_option maxRecDepth 100000
set_option linter.unusedVariables false
set_option linter.unusedSimpArgs false
open Go.RowKit
def B7:Con:={ ι:=Scn,pre:=λ i=>True,args:=λ i=>[DA.agg [cI i.low.1,cI i.low.2,cI i.high.1,cI i.high.2,DC.sl 39 [.int,.int] (AJ i.robot),DC.sl 40 [.sl 39 [.int,.int]] (Aa i.obst),DC.sl 39 [.int,.int] (AJ i.tables)]],res:=λ i=>⟨false,[none],[rcB (AV i)]⟩ }
theorem LJ:B7.Ok Tryz.prog 66:=FO rfl ⟨_,Tryz.func66,by decide,rfl⟩ (λ _=>Nat.le_of_ble_eq_true rfl) (λ _=>rfl) (λ s=>[.im (.bool (AV s))]) (λ _=>rfl) (λ _=>rfl) (λ i hp w us h=>by
 have h:RdRow w [.int,.int,.int,.int,.sl 39 [.int,.int],.sl 40 [.sl 39 [.int,.int]],.sl 39 [.int,.int]] (Dc i) us:=h
 have hl:=(RdRow.lens _ _ _ h).2
 rw [show DD (B7.args i) us=[.agg us.toArray] from HN hl]
 refine (Nq i _ w (RdRow.scene h)).mono ?_
 rintro e w' ⟨rfl,hb⟩
 exact ⟨[.bool (AV i)],rfl,Own.leaf (Fp.mk_bool _),hb⟩)
def B8:Con:={ ι:=Scn,pre:=λ i=>True,args:=λ i=>[DA.agg [cI i.low.1,cI i.low.2,cI i.high.1,cI i.high.2,DC.sl 39 [.int,.int] (AJ i.robot),DC.sl 40 [.sl 39 [.int,.int]] (Aa i.obst),DC.sl 39 [.int,.int] (AJ i.tables)]],res:=λ i=>⟨false,[none],[rcB (AV i)]⟩ }
theorem LK:B8.Ok Tryz.prog 55:=FO rfl ⟨_,Tryz.func55,by decide,rfl⟩ (λ _=>Nat.le_of_ble_eq_true rfl) (λ _=>rfl) (λ s=>[.im (.bool (AV s))]) (λ _=>rfl) (λ _=>rfl) (λ i hp w us h=>by
 have h:RdRow w [.int,.int,.int,.int,.sl 39 [.int,.int],.sl 40 [.sl 39 [.int,.int]],.sl 39 [.int,.int]] (Dc i) us:=h
 have hl:=(RdRow.lens _ _ _ h).2
 rw [show DD (B8.args i) us=[.agg us.toArray] from HN hl]
 refine (L4 i _ w (RdRow.scene h)).mono ?_
 rintro e w' ⟨rfl,hb⟩
 exact ⟨[.bool (AV i)],rfl,Own.leaf (Fp.mk_bool _),hb⟩)
def sqV (v:V2):Int:=v.1*v.1+v.2*v.2
def Cn (l:List V2):Nat->Int
 | 0=>0
 | k+1=>max (Cn l k) (sqV (l.getD k (0,0)))
def A1 (l:List V2):Int:=if BA l=true then Cn l l.length else 0
theorem Um {a m:Int} (h1:-m<=a) (h2:a<=m):0<=a*a/\a*a<=m*m:=by
 have h:a.natAbs*a.natAbs<=m.natAbs*m.natAbs:=Nat.mul_le_mul (by omega) (by omega)
 have h' : ((a.natAbs*a.natAbs:Nat):Int)<=((m.natAbs*m.natAbs:Nat):Int):=by omega
 rw [Int.natAbs_mul_self,Int.natAbs_mul_self] at h'
 refine ⟨?_,h'⟩
 rw [← Int.natAbs_mul_self]
 exact Int.natCast_nonneg _
theorem Xr {v:V2} (h:A2 v=true):(0<=v.1*v.1/\v.1*v.1<=1000000)/\0<=v.2*v.2/\v.2*v.2<=1000000:=by
 have b:=Cg h
 exact ⟨Um b.1 b.2.1,Um b.2.2.1 b.2.2.2⟩
theorem Kc {v:V2} (h:A2 v=true):IntKind.i64.wrap (IntKind.i64.wrap (v.1*v.1)+IntKind.i64.wrap (v.2*v.2))=sqV v:=by
 have b:=Xr h
 rw [AD (x:=v.1*v.1) (by omega) (by omega),AD (x:=v.2*v.2) (by omega) (by omega)]
 exact AD (by omega) (by omega)
theorem Ri {l:List V2} (h:l.all A2=true):∀ k,k<=l.length->0<=Cn l k/\Cn l k<=2000000
 | 0,_=>by unfold Cn;omega
 | k+1,hk=>by
  have ih:=Ri h k (by omega)
  have b:=Xr (Dw h (show k<l.length by omega))
  unfold Cn sqV
  omega
theorem O5 (l:List V2):0<=A1 l/\A1 l<=2000000:=by
 unfold A1
 split
 ·next h=>exact Ri (EW h).2.2 _ (Nat.le_refl _)
 ·omega
theorem Nu {l:List V2} (h:BA l=true):A1 l=Cn l l.length:=by unfold A1;rw [if_pos h]
theorem O6 {l:List V2} (h:BA l=false):A1 l=0:=by unfold A1;rw [if_neg (by rw [h];simp)]
def CH (r d:Int):Bool:=decide (d>0) && decide (d*d>r)
def Kd (s:Scn) (v:V2) (l:List V2):Bool:=dtB l (ptQ (ptV v)) (A1 s.robot)
def DR (s:Scn) (x y:Int):List Int:=[x-s.low.1,s.high.1-x,y-s.low.2,s.high.2-y]
def rwI (l:List Int):List (List Dat):=l.map λ n=>[Dat.int n]
theorem Yq (l:List Int):(rwI l).length=l.length:=by simp [rwI]
theorem Zk {l:List Int} {k:Nat} (hk:k<l.length):(((rwI l).getD k []).getD 0 (.int 0)).n=l.getD k 0:=by simp [rwI,List.getD,hk,Dat.n]
def Do (s:Scn) (v:V2):Bool:=AV s && (A2 v && ((DR s v.1 v.2).all (CH (A1 s.robot)) && !(s.obst.any (Kd s v))))
theorem Ke {s:Scn} (h:AV s=true):(-200<=s.low.1/\s.low.1<=200)/\(-200<=s.low.2/\s.low.2<=200)/\(-200<=s.high.1/\s.high.1<=200)/\(-200<=s.high.2/\s.high.2<=200):=by
 simp only [AV,Bool.and_eq_true,List.all_cons] at h
 have h1:=L8 h.1.1.1.1.1
 have h2:=L8 h.1.1.1.1.2.1
 omega
theorem Un {s:Scn} {x y:Int} (h:AV s=true) (h2:A2 (x,y)=true):[[Dat.int (IntKind.i64.wrap (x-s.low.1))],[Dat.int (IntKind.i64.wrap (s.high.1-x))],[Dat.int (IntKind.i64.wrap (y-s.low.2))],[Dat.int (IntKind.i64.wrap (s.high.2-y))]]=rwI (DR s x y):=by
 have b:=Ke h
 have c:=Cg h2
 simp only at c
 rw [AD (x:=x-s.low.1) (by omega) (by omega),AD (x:=s.high.1-x) (by omega) (by omega),AD (x:=y-s.low.2) (by omega) (by omega),AD (x:=s.high.2-y) (by omega) (by omega)]
 rfl
theorem Xs {s:Scn} {x y:Int} (h:AV s=true) (h2:A2 (x,y)=true) {k:Nat} (hk:k<4):-2000<=(DR s x y).getD k 0/\(DR s x y).getD k 0<=2000:=by
 have b:=Ke h
 have c:=Cg h2
 simp only at c
 have:k=0∨k=1∨k=2∨k=3:=by omega
 rcases this with rfl|rfl|rfl|rfl
 ·show -2000<=x-s.low.1/\x-s.low.1<=2000;omega
 ·show -2000<=s.high.1-x/\s.high.1-x<=2000;omega
 ·show -2000<=y-s.low.2/\y-s.low.2<=2000;omega
 ·show -2000<=s.high.2-y/\s.high.2-y<=2000;omega
theorem JY {s:Scn} {x y:Int} {k:Nat} (hk:k<4) (h:CH (A1 s.robot) ((DR s x y).getD k 0)=false):Do s (x,y)=false:=by
 have:(DR s x y).all (CH (A1 s.robot))=false:=by
  rw [List.all_eq_false]
  exact ⟨(DR s x y).getD k 0,by simp [List.getD,DR,show k<4 from hk],by rw [h];simp⟩
 unfold Do;rw [this];simp
theorem Rj {s:Scn} {x y:Int} (h1:AV s=true) (h2:A2 (x,y)=true) (h:∀ j,j<4->CH (A1 s.robot) ((DR s x y).getD j 0)=true):Do s (x,y)=!(s.obst.any (Kd s (x,y))):=by
 have:(DR s x y).all (CH (A1 s.robot))=true:=by
  rw [List.all_eq_true]
  intro z hz
  obtain ⟨j,hj,rfl⟩:=List.getElem_of_mem hz
  have:=h j hj
  simpa [List.getD,hj] using this
 unfold Do;rw [this,h1,h2];rfl
theorem V3 {s:Scn} {x y:Int} (h1:AV s=true) (h2:A2 (x,y)=true) (a:CH (A1 s.robot) (x-s.low.1)=true) (b:CH (A1 s.robot) (s.high.1-x)=true) (c:CH (A1 s.robot) (y-s.low.2)=true) (d:CH (A1 s.robot) (s.high.2-y)=true):Do s (x,y)=!(s.obst.any (Kd s (x,y))):=
 Rj h1 h2 λ j hj=>by
  have:j=0∨j=1∨j=2∨j=3:=by omega
  rcases this with rfl|rfl|rfl|rfl
  ·exact a
  ·exact b
  ·exact c
  ·exact d
theorem Xt {r d:Int} (h:0<d) (h2:r<d*d):CH r d=true:=by unfold CH;rw [decide_eq_true h,decide_eq_true h2];rfl
theorem Xu {r d:Int} (h:d<=0):CH r d=false:=by unfold CH;rw [decide_eq_false (show ¬ d>0 by omega)];rfl
theorem Xv {r d:Int} (h:d*d<=r):CH r d=false:=by unfold CH;rw [decide_eq_false (show ¬ d*d>r by omega),Bool.and_false]
def EG (s:Scn):Nat->List (List Dat)
 | 0=>[]
 | k+1=>if Do s (s.tables.getD k (0,0))=true then EG s k++[[.int ((k:Nat):Int)]] else EG s k
def CB (s:Scn):List (List Dat):=if AV s=true then EG s s.tables.length else []
theorem Nv {s:Scn} (h:AV s=false):CB s=[]:=by unfold CB;rw [if_neg (by rw [h];simp)]
theorem LL {s:Scn} (h:AV s=true):CB s=EG s s.tables.length:=by unfold CB;rw [if_pos h]
theorem Nw {s:Scn} {k:Nat} (h:Do s (s.tables.getD k (0,0))=true):EG s (k+1)=EG s k++[[.int ((k:Nat):Int)]]:=if_pos h
theorem Py {s:Scn} {k:Nat} (h:Do s (s.tables.getD k (0,0))=false):EG s (k+1)=EG s k:=if_neg (by rw [h];simp)
theorem JZ (s:Scn):∀ k,(EG s k).length<=k
 | 0=>Nat.le_refl _
 | k+1=>by
  have ih:=JZ s k
  cases h:Do s (s.tables.getD k (0,0)) with
  | true=>rw [Nw h,List.length_append];simp only [List.length_cons,List.length_nil];omega
  | false=>rw [Py h];omega
def Pz {α:Type} (p:α->Bool) (l:List α):Int:=match l.findIdx? p with|some k=>(k:Int)|none=>-1
theorem Yr {α:Type} {p:α->Bool} {l:List α} {d:α} {k:Nat} (hk:k<l.length) (h:∀ j,j<k->p (l.getD j d)=false) (hp:p (l.getD k d)=true):Pz p l=(k:Int):=by
 have:l.findIdx? p=some k:=by
  rw [List.findIdx?_eq_some_iff_getElem]
  refine ⟨hk,?_,λ j hj=>?_⟩
  ·simpa [List.getD,hk] using hp
  ·have:=h j hj
   simpa [List.getD,show j<l.length by omega] using this
 unfold Pz;rw [this]
theorem V4 {α:Type} {p:α->Bool} {l:List α} {d:α} (h:∀ j,j<l.length->p (l.getD j d)=false):Pz p l=-1:=by
 have:l.findIdx? p=none:=by
  rw [List.findIdx?_eq_none_iff]
  intro x hx
  obtain ⟨j,hj,rfl⟩:=List.getElem_of_mem hx
  have:=h j hj
  simpa [List.getD,hj] using this
 unfold Pz;rw [this]
theorem Xw {α:Type} (p:α->Bool) (l:List α):decide (Pz p l≥0)=l.any p:=by
 unfold Pz
 cases h:l.findIdx? p with
 | none=>
  rw [List.findIdx?_eq_none_iff] at h
  have:l.any p=false:=by
   rw [List.any_eq_false];intro x hx;rw [h x hx];simp
  rw [this];rfl
 | some k=>
  rw [List.findIdx?_eq_some_iff_getElem] at h
  obtain ⟨hk,hp,_⟩:=h
  have:l.any p=true:=List.any_eq_true.2 ⟨_,List.getElem_mem hk,hp⟩
  rw [this]
  exact decide_eq_true (show (0:Int)<=(k:Int) by omega)
theorem Zl {α:Type} {p:α->Bool} {l:List α} {d:α} {k:Nat} (hk:k<l.length) (hp:p (l.getD k d)=true):l.any p=true:=List.any_eq_true.2 ⟨l.getD k d,by simp [List.getD,hk],hp⟩
theorem Xx {α:Type} {p:α->Bool} {l:List α} {d:α} (h:∀ j,j<l.length->p (l.getD j d)=false):l.any p=false:=by
 rw [List.any_eq_false];intro x hx
 obtain ⟨j,hj,rfl⟩:=List.getElem_of_mem hx
 have:=h j hj
 simpa [List.getD,hj] using this
def IG:Con:={ ι:=Int×Int,pre:=λ i=>True,args:=λ i=>[.one (cI i.1),.one (cI i.2)],res:=λ i=>⟨false,[none],[rcI (max i.1 i.2)]⟩ }
theorem V5:IG.Ok Tryz.prog 235:=by
 refine fok (X:=⟨tt,[],[],10,[]⟩) AI AF (CTok.nil _) Tryz.func235 (λ _=>[]) ?_
 rintro ⟨a,b⟩ hpre
 have hpre:True:=hpre
 refine AH (q:=ifB ((decide (a>b))) ((vI a=vI (max a b))) ((vI b=vI (max a b)))) (by kernel_rfl) ?_
 delta ifB vI
 refine ⟨λ c1=>?_,λ c1=>?_⟩
 ·try simp only [nrm] at c1
  exact AK (by omega)
 try simp only [nrm] at c1
 exact AK (by omega)
def IH:Con:={ ι:=(List V2),pre:=λ i=>True,args:=λ i=>[.one (DC.sl 39 [.int,.int] (AJ i))],res:=λ i=>⟨false,[none],[rcI (A1 i)]⟩ }
theorem V6:IH.Ok Tryz.prog 188:=by
 refine fok (X:=⟨tt,[(150,C5)],[],30,[]⟩) AI AF (CTok.cons Nr (CTok.nil _)) Tryz.func188 (λ (i:(List V2))=>[(5,.mk 2 (Nat) (λ x1=>{ tm:=[(9,tX 1),(10,tI (nI ((AJ i).length))),(11,tI (nI x1)),(3,tI (Cn i x1))],en:=[(1,.view 39 [.int,.int] (AJ i) [])] }) (λ x1=>x1<=i.length) (λ x1=>i.length-x1) (λ _=>[]))]) ?_
 intro (l:List V2) hpre
 have hpre:True:=hpre
 refine AH (q:=let Z2:=nI ((AJ l).length);∃ i1:(List V2),[DA.one (DC.sl 39 [.int,.int] (AJ l))]=C5.args i1/\C5.pre i1/\(ifB ((!(BA i1))) ((vI (0:Int)=vI (A1 l))) ((∃ x1:Nat,(x1<=l.length)/\((rf (vI Z2))/\(vI (0:Int)=vI (nI x1))/\(vI (0:Int)=vI (Cn l x1))/\(rf (AJ l))))/\∀ x1:Nat,let Z1:=(AJ l).getD x1 [];(x1<=l.length)->(ifB ((decide ((nI x1)<Z2))) ((0<=(nI x1)/\(nI x1)<((AJ l).length:Int))/\((x1<(AJ l).length)/\(∃ y2:Nat,(y2<=l.length)/\(l.length-y2<l.length-x1)/\((rf (vI Z2))/\(vI (wR ((nI x1)+(1:Int)))=vI (nI y2))/\(vI (max (Cn l x1) (wR ((wR (((Z1.getD 0 (.int 0))).n*((Z1.getD 0 (.int 0))).n))+(wR (((Z1.getD 1 (.int 0))).n*((Z1.getD 1 (.int 0))).n)))))=vI (Cn l y2))/\(rf (AJ l)))))) ((vI (Cn l x1)=vI (A1 l))))))) (by kernel_rfl) ?_
 conv=>zeta
 delta ifB vI wR nI
 have hvl:=Ar l
 have hpl:=DQ l
 refine ⟨l,by
  rfl,by
  first|trivial|(first|omega|assumption|exact hpre.1|exact hpre.2|(simp;done)),?_⟩
 refine ⟨λ c4=>?_,λ c4=>?_⟩
 ·try simp only [nrm] at c4
  have hE:=O6 c4
  first|(rw [hE,show k=l.length by omega])|(rw [hE])
 try simp only [nrm] at c4
 have hP:=EW c4
 have hE:=Nu c4
 refine ⟨⟨0,by
  first|trivial|omega|(simp;omega),?_⟩,?_⟩
 ·refine ⟨rfl,?_,?_,rfl⟩
  ·first|rfl|(simp;done)
  first|rfl|(simp;done)
 intro (k:Nat) hki6
 have hki6:k<=l.length:=hki6
 refine And.symm ⟨λ c12=>?_,λ c12=>?_⟩
 ·try simp only [nrm] at c12
  first|(rw [hE,show k=l.length by omega])|(rw [hE])
 try simp only [nrm] at c12
 refine ao (by first|rfl|omega|(simp;done)|(simp;omega)) λ o13=>?_
 refine ao (by first|rfl|omega|(simp;done)|(simp;omega)) λ o14=>?_
 refine ⟨k+1,by
  first|trivial|omega|(simp;omega),by
  first|omega|(simp;omega),?_⟩
 refine ⟨rfl,?_,?_,rfl⟩
 ·first|rfl|exact AK (AD (by omega) (by omega))|(rw [Dk (by omega),Dl (by omega),Kc (Dw hP.2.2 (show k<l.length by omega))];rfl)
 first|rfl|exact AK (AD (by omega) (by omega))|(rw [Dk (by omega),Dl (by omega),Kc (Dw hP.2.2 (show k<l.length by omega))];rfl)
def II:Con:={ ι:=(List V2),pre:=λ i=>True,args:=λ i=>[.one (DC.sl 39 [.int,.int] (AJ i))],res:=λ i=>⟨false,[none],[rcI (A1 i)]⟩ }
theorem V7:II.Ok Tryz.prog 179:=by
 refine fok (X:=⟨tt,[(89,Bu),(235,IG)],[],30,[]⟩) AI AF (CTok.cons J0 (CTok.cons V5 (CTok.nil _))) Tryz.func179 (λ (i:(List V2))=>[(5,.mk 2 (Nat) (λ x1=>{ tm:=[(9,tX 1),(10,tI (nI ((AJ i).length))),(11,tI (nI x1)),(3,tI (Cn i x1))],en:=[(1,.view 39 [.int,.int] (AJ i) [])] }) (λ x1=>x1<=i.length) (λ x1=>i.length-x1) (λ _=>[]))]) ?_
 intro (l:List V2) hpre
 have hpre:True:=hpre
 refine AH (q:=let Z2:=nI ((AJ l).length);∃ i1:(List V2),[DA.one (DC.sl 39 [.int,.int] (AJ l))]=Bu.args i1/\Bu.pre i1/\(ifB ((!(BA i1))) ((vI (0:Int)=vI (A1 l))) ((∃ x1:Nat,(x1<=l.length)/\((rf (vI Z2))/\(vI (0:Int)=vI (nI x1))/\(vI (0:Int)=vI (Cn l x1))/\(rf (AJ l))))/\∀ x1:Nat,let Z1:=(AJ l).getD x1 [];(x1<=l.length)->(ifB ((decide ((nI x1)<Z2))) ((0<=(nI x1)/\(nI x1)<((AJ l).length:Int))/\((x1<(AJ l).length)/\(∃ i2:Int×Int,[DA.one (cI (Cn l x1)),DA.one (cI (wR ((wR (((Z1.getD 0 (.int 0))).n*((Z1.getD 0 (.int 0))).n))+(wR (((Z1.getD 1 (.int 0))).n*((Z1.getD 1 (.int 0))).n)))))]=IG.args i2/\IG.pre i2/\(∃ y2:Nat,(y2<=l.length)/\(l.length-y2<l.length-x1)/\((rf (vI Z2))/\(vI (wR ((nI x1)+(1:Int)))=vI (nI y2))/\(vI (max i2.1 i2.2)=vI (Cn l y2))/\(rf (AJ l))))))) ((vI (Cn l x1)=vI (A1 l))))))) (by kernel_rfl) ?_
 conv=>zeta
 delta ifB vI wR nI
 have hvl:=Ar l
 have hpl:=DQ l
 refine ⟨l,by
  rfl,by
  first|trivial|(first|omega|assumption|exact hpre.1|exact hpre.2|(simp;done)),?_⟩
 refine ⟨λ c4=>?_,λ c4=>?_⟩
 ·try simp only [nrm] at c4
  have hE:=O6 c4
  first|(rw [hE,show k=l.length by omega])|(rw [hE])
 try simp only [nrm] at c4
 have hP:=EW c4
 have hE:=Nu c4
 refine ⟨⟨0,by
  first|trivial|omega|(simp;omega),?_⟩,?_⟩
 ·refine ⟨rfl,?_,?_,rfl⟩
  ·first|rfl|(simp;done)
  first|rfl|(simp;done)
 intro (k:Nat) hki6
 have hki6:k<=l.length:=hki6
 refine And.symm ⟨λ c12=>?_,λ c12=>?_⟩
 ·try simp only [nrm] at c12
  first|(rw [hE,show k=l.length by omega])|(rw [hE])
 try simp only [nrm] at c12
 refine ao (by first|rfl|omega|(simp;done)|(simp;omega)) λ o13=>?_
 refine ao (by first|rfl|omega|(simp;done)|(simp;omega)) λ o14=>?_
 refine ⟨((Cn l k),(IntKind.i64.wrap ((IntKind.i64.wrap (((((AJ l).getD k []).getD 0 (.int 0))).n*((((AJ l).getD k []).getD 0 (.int 0))).n))+(IntKind.i64.wrap (((((AJ l).getD k []).getD 1 (.int 0))).n*((((AJ l).getD k []).getD 1 (.int 0))).n))))),by
  rfl,by
  first|trivial|(first|omega|assumption|exact hpre.1|exact hpre.2|(simp;done)),?_⟩
 refine ⟨k+1,by
  first|trivial|omega|(simp;omega),by
  first|omega|(simp;omega),?_⟩
 refine ⟨rfl,?_,?_,rfl⟩
 ·first|rfl|exact AK (AD (by omega) (by omega))|(rw [Dk (by omega),Dl (by omega),Kc (Dw hP.2.2 (show k<l.length by omega))];rfl)
 first|rfl|exact AK (AD (by omega) (by omega))|(rw [Dk (by omega),Dl (by omega),Kc (Dw hP.2.2 (show k<l.length by omega))];rfl)
def DS:Con:={ ι:=Int×Int,pre:=λ i=>-2000<=i.2/\i.2<=2000,args:=λ i=>[.one (cI i.1),.one (cI i.2)],res:=λ i=>⟨false,[none],[rcB (CH i.1 i.2)]⟩ }
theorem Ys:DS.Ok Tryz.prog 180:=by
 refine fok (X:=⟨tt,[],[],14,[]⟩) AI AF (CTok.nil _) Tryz.func180 (λ _=>[]) ?_
 rintro ⟨r,d⟩ hpre
 have hpre:-2000<=d/\d<=2000:=hpre
 refine AH (q:=ifB ((decide (d>(0:Int)))) ((vB (decide ((wR (d*d))>r))=vB (CH r d))) ((vB false=vB (CH r d)))) (by kernel_rfl) ?_
 delta ifB vB wR
 have hb:=Um hpre.1 hpre.2
 have hw:IntKind.i64.wrap (d*d)=d*d:=AD (by omega) (by omega)
 refine ⟨λ c1=>?_,λ c1=>?_⟩
 ·try simp only [nrm] at c1
  exact congrArg Value.bool (by unfold CH;simp_all;try omega)
 try simp only [nrm] at c1
 exact congrArg Value.bool (by unfold CH;simp_all;try omega)
def Ja:Con:={ ι:=(List V2)×Int×Int×Int,pre:=λ i=>(-9223372036854775808<=i.2.1/\i.2.1<=9223372036854775807)/\(-9223372036854775808<=i.2.2.1/\i.2.2.1<=9223372036854775807)/\i.2.2.2<=9223372036854775807,args:=λ i=>[.one (DC.sl 39 [.int,.int] (AJ i.1)),.one (.ro (.ptr [.im (Value.int .i64 i.2.1),.im (Value.int .i64 i.2.2.1)])),.one (.ro (.ptr [.im (Value.int .i64 i.2.2.2)]))],res:=λ i=>⟨false,[none],[rcB (dtB i.1 (ptQ (ptV (i.2.1,i.2.2.1))) i.2.2.2)]⟩ }
theorem Xy:Ja.Ok Tryz.prog 189:=by
 refine fok (X:=⟨tt,[(70,BY),(190,JV)],[],10,[]⟩) AI AF (CTok.cons It (CTok.cons Xn (CTok.nil _))) Tryz.func189 (λ _=>[]) ?_
 rintro ⟨l,x,y,n⟩ hpre
 have hpre:(-9223372036854775808<=x/\x<=9223372036854775807)/\(-9223372036854775808<=y/\y<=9223372036854775807)/\n<=9223372036854775807:=hpre
 refine AH (q:=∃ i1:Int×Int,let Z2:=Fr.ofInt i1.2;let Z1:=Fr.ofInt i1.1;[DA.agg [cI x,cI y]]=BY.args i1/\BY.pre i1/\(∃ i2:(List V2)×PtD×Int,[DA.one (DC.sl 39 [.int,.int] (AJ l)),DA.agg [cB (decide (Z1.z<0)),cS (L Z1.z.natAbs),cS (L Z1.d),cB (decide (Z2.z<0)),cS (L Z2.z.natAbs),cS (L Z2.d)],DA.one (cI n)]=JV.args i2/\JV.pre i2/\((vB (dtB i2.1 i2.2.1 i2.2.2)=vB (dtB l (ptQ (ptV (x,y))) n))))) (by kernel_rfl) ?_
 conv=>zeta
 delta vB
 refine ⟨(x,y),by
  rfl,by
  show (-9223372036854775808<=x/\x<=9223372036854775807)/\-9223372036854775808<=y/\y<=9223372036854775807
  first|exact ⟨hpre.1,hpre.2.1⟩|exact ⟨Hz _,hpre.2.2⟩,?_⟩
 refine ⟨(l,(ptQ (ptV (x,y))),n),by
  rfl,by
  first|exact ⟨hpre.1,hpre.2.1⟩|exact ⟨Hz _,hpre.2.2⟩,?_⟩
 exact rfl
def Jb:Con:={ ι:=(List (List V2))×Int×Int×Int,pre:=λ i=>i.1.length<=9223372036854775807/\(-9223372036854775808<=i.2.1/\i.2.1<=9223372036854775807)/\(-9223372036854775808<=i.2.2.1/\i.2.2.1<=9223372036854775807)/\i.2.2.2<=9223372036854775807,args:=λ i=>[.one (DC.sl 40 [.sl 39 [.int,.int]] (Aa i.1)),.one (.ro (.fn 189 [[.im (Value.int .i64 i.2.1),.im (Value.int .i64 i.2.2.1)],[.im (Value.int .i64 i.2.2.2)]]))],tag:=190,res:=λ i=>⟨false,[none],[rcI (Pz (λ z=>dtB z (ptQ (ptV (i.2.1,i.2.2.1))) i.2.2.2) i.1)]⟩ }
theorem Xz:Jb.Ok Tryz.prog 186:=by
 refine fok (X:=⟨tt,[(189,Ja)],[],19,[]⟩) AI AF (CTok.cons Xy (CTok.nil _)) Tryz.func186 (λ (i:(List (List V2))×Int×Int×Int)=>[(2,.mk 3 (Nat) (λ x1=>{ tm:=[(0,tX 1),(1,tX 2),(7,tI (nI ((Aa i.1).length))),(8,tI (nI x1))],en:=[(1,.view 40 [.sl 39 [.int,.int]] (Aa i.1) []),(2,.ro (.fn 189 [[.im (Value.int .i64 i.2.1),.im (Value.int .i64 i.2.2.1)],[.im (Value.int .i64 i.2.2.2)]]) [])] }) (λ x1=>x1<=i.1.length/\∀ j,j<x1->(λ z=>dtB z (ptQ (ptV (i.2.1,i.2.2.1))) i.2.2.2) (i.1.getD j [])=false) (λ x1=>i.1.length-x1) (λ _=>[]))]) ?_
 rintro ⟨l,x,y,n⟩ hpre
 have hpre:l.length<=9223372036854775807/\(-9223372036854775808<=x/\x<=9223372036854775807)/\(-9223372036854775808<=y/\y<=9223372036854775807)/\n<=9223372036854775807:=hpre
 refine AH (q:=let Z3:=Aa l;let Z5:=nI (Z3.length);let Z2:=ptQ (ptV (x,y));let Z4:=Pz (λ z=>dtB z Z2 n) l;let Z1:=(.fn 189 [[.im (vI x),.im (vI y)],[.im (vI n)]]:RO)=.fn 189 [[.im (vI x),.im (vI y)],[.im (vI n)]];(∃ x1:Nat,(x1<=l.length/\∀ j,j<x1->(λ z=>dtB z Z2 n) (l.getD j [])=false)/\((rf (vI Z5))/\(vI (0:Int)=vI (nI x1))/\(rf Z3)/\Z1))/\∀ x1:Nat,(x1<=l.length/\∀ j,j<x1->(λ z=>dtB z Z2 n) (l.getD j [])=false)->(ifB ((decide ((nI x1)<Z5))) ((0<=(nI x1)/\(nI x1)<(Z3.length:Int))/\((x1<Z3.length)/\(∃ i1:(List V2)×Int×Int×Int,[DA.one (DC.sl 39 [.int,.int] ((((Z3.getD x1 []).getD 0 (.int 0))).r)),DA.one (DC.ro (.ptr [.im (vI x),.im (vI y)])),DA.one (DC.ro (.ptr [.im (vI n)]))]=Ja.args i1/\Ja.pre i1/\(ifB ((dtB i1.1 (ptQ (ptV (i1.2.1,i1.2.2.1))) i1.2.2.2)) ((vI (nI x1)=vI Z4)) (∃ y2:Nat,(y2<=l.length/\∀ j,j<y2->(λ z=>dtB z Z2 n) (l.getD j [])=false)/\(l.length-y2<l.length-x1)/\((rf (vI Z5))/\(vI (wR ((nI x1)+(1:Int)))=vI (nI y2))/\(rf Z3)/\Z1)))))) ((vI (-1:Int)=vI Z4)))) (by kernel_rfl) ?_
 conv=>zeta
 delta ifB vI wR nI
 have hal:=Bq l
 refine ⟨⟨0,by
  exact ⟨Nat.zero_le _,λ j hj=>absurd hj (Nat.not_lt_zero j)⟩,?_⟩,?_⟩
 ·refine ⟨rfl,?_,rfl,?_⟩
  ·first|rfl|(simp;done)
  first|rfl|(simp;done)
 intro (k:Nat) hki1
 have hki1:k<=l.length/\∀ j,j<k->(λ z=>dtB z (ptQ (ptV (x,y))) n) (l.getD j [])=false:=hki1
 refine And.symm ⟨λ c7=>?_,λ c7=>?_⟩
 ·try simp only [nrm] at c7
  rw [V4 (d:=[]) (λ j hj=>hki1.2 j (by omega))]
 try simp only [nrm] at c7
 refine ao (by first|omega) λ o8=>?_
 refine ao (by first|omega) λ o9=>?_
 refine ⟨(l.getD k [],x,y,n),by
  rw [Oz (by omega)];rfl,by
  exact hpre.2,?_⟩
 refine ⟨λ c13=>?_,λ c13=>?_⟩
 ·try simp only [nrm] at c13
  rw [Yr (d:=[]) (by omega) hki1.2 c13]
 try simp only [nrm] at c13
 refine ⟨k+1,by
  exact ⟨by omega,JC hki1.2 c13⟩,by
  first|omega|(simp;omega),?_⟩
 refine ⟨rfl,?_,rfl,?_⟩
 ·first|rfl|exact AK (AD (by omega) (by omega))
 first|rfl|exact AK (AD (by omega) (by omega))
def Jc:Con:={ ι:=(List (List V2))×Int×Int×Int,pre:=λ i=>i.1.length<=9223372036854775807/\(-9223372036854775808<=i.2.1/\i.2.1<=9223372036854775807)/\(-9223372036854775808<=i.2.2.1/\i.2.2.1<=9223372036854775807)/\i.2.2.2<=9223372036854775807,args:=λ i=>[.one (DC.sl 40 [.sl 39 [.int,.int]] (Aa i.1)),.one (.ro (.fn 189 [[.im (Value.int .i64 i.2.1),.im (Value.int .i64 i.2.2.1)],[.im (Value.int .i64 i.2.2.2)]]))],tag:=190,res:=λ i=>⟨false,[none],[rcB (i.1.any (λ z=>dtB z (ptQ (ptV (i.2.1,i.2.2.1))) i.2.2.2))]⟩ }
theorem X0:Jc.Ok Tryz.prog 124:=by
 refine fok (X:=⟨tt,[(186,Jb)],[],9,[]⟩) AI AF (CTok.cons Xz (CTok.nil _)) Tryz.func124 (λ _=>[]) ?_
 rintro ⟨l,x,y,n⟩ hpre
 have hpre:l.length<=9223372036854775807/\(-9223372036854775808<=x/\x<=9223372036854775807)/\(-9223372036854775808<=y/\y<=9223372036854775807)/\n<=9223372036854775807:=hpre
 refine AH (q:=∃ i1:(List (List V2))×Int×Int×Int,[DA.one (DC.sl 40 [.sl 39 [.int,.int]] (Aa l)),DA.one (DC.ro (.fn 189 [[.im (vI x),.im (vI y)],[.im (vI n)]]))]=Jb.args i1/\Jb.pre i1/\((vB (decide ((Pz (λ z=>dtB z (ptQ (ptV (i1.2.1,i1.2.2.1))) i1.2.2.2) i1.1)≥(0:Int)))=vB (l.any (λ z=>dtB z (ptQ (ptV (x,y))) n))))) (by kernel_rfl) ?_
 delta vB vI
 refine ⟨(l,x,y,n),by
  rfl,by
  exact hpre,?_⟩
 exact congrArg Value.bool (Xw _ _)
def FK:Con:={ ι:=Scn×Int×Int,pre:=λ i=>Ct i.1,args:=λ i=>[DA.agg [cI i.1.low.1,cI i.1.low.2,cI i.1.high.1,cI i.1.high.2,DC.sl 39 [.int,.int] (AJ i.1.robot),DC.sl 40 [.sl 39 [.int,.int]] (Aa i.1.obst),DC.sl 39 [.int,.int] (AJ i.1.tables)],DA.agg [cI i.2.1,cI i.2.2]],res:=λ i=>⟨false,[none],[rcB (Do i.1 (i.2.1,i.2.2))]⟩ }
theorem Rk:FK.Ok Tryz.prog 126:=by
 refine fok (X:=⟨tt,[(66,B7),(187,Hx),(188,IH),(124,Jc)],[],64,[]⟩) AI AF (CTok.cons LJ (CTok.cons Vm (CTok.cons V6 (CTok.cons X0 (CTok.nil _))))) Tryz.func126 (λ (i:Scn×Int×Int)=>[(5,.mk 8 (Nat) (λ x1=>{ tm:=[(2,tP 1 0),(3,tP 5 0),(5,tP 6 0),(45,tI (nI x1)),(44,tI (4:Int)),(43,tX 7)],en:=[(1,.box [kI i.1.low.1,kI i.1.low.2,kI i.1.high.1,kI i.1.high.2,.ext 2,.ext 3,.ext 4]),(5,.box [kI i.2.1,kI i.2.2]),(6,.box [kI (A1 i.1.robot)]),(2,.view 39 [.int,.int] (AJ i.1.robot) []),(3,.view 40 [.sl 39 [.int,.int]] (Aa i.1.obst) []),(4,.view 39 [.int,.int] (AJ i.1.tables) []),(7,.own 3 [.int] (rwI (DR i.1 i.2.1 i.2.2)))] }) (λ x1=>x1<=4/\∀ j,j<x1->CH (A1 i.1.robot) ((DR i.1 i.2.1 i.2.2).getD j 0)=true) (λ x1=>4-x1) (λ _=>[]))]) ?_
 rintro ⟨s,x,y⟩ hpre
 have hpre:Ct s:=hpre
 refine AH (q:=let Z7:=AJ s.tables;let Z6:=Aa s.obst;let Z5:=AJ s.robot;let Z4:=DR s x y;let Z3:=A1 s.robot;let Z2:=(vB false=vB (Do s (x,y)));∃ i1:Scn,[DA.agg [cI s.low.1,cI s.low.2,cI s.high.1,cI s.high.2,DC.sl 39 [.int,.int] Z5,DC.sl 40 [.sl 39 [.int,.int]] Z6,DC.sl 39 [.int,.int] Z7]]=B7.args i1/\B7.pre i1/\(ifB ((!(!(AV i1)))) (∃ i2:Int×Int,[DA.agg [cI x,cI y]]=Hx.args i2/\Hx.pre i2/\(ifB ((!(A2 (i2.1,i2.2)))) Z2 (∃ i3:(List V2),[DA.one (DC.sl 39 [.int,.int] Z5)]=IH.args i3/\IH.pre i3/\((∃ x1:Nat,(x1<=4/\∀ j,j<x1->CH Z3 (Z4.getD j 0)=true)/\((vI (0:Int)=vI (nI x1))/\(vI (nI (([[Dat.int (wR (x-s.low.1))],[Dat.int (wR (s.high.1-x))],[Dat.int (wR (y-s.low.2))],[Dat.int (wR (s.high.2-y))]]:List (List Dat)).length))=vI (4:Int))/\(rf (vI s.low.1))/\(rf (vI s.low.2))/\(rf (vI s.high.1))/\(rf (vI s.high.2))/\(rf (vI x))/\(rf (vI y))/\(vI (A1 i3)=vI Z3)/\(rf Z5)/\(rf Z6)/\(rf Z7)/\(([[Dat.int (wR (x-s.low.1))],[Dat.int (wR (s.high.1-x))],[Dat.int (wR (y-s.low.2))],[Dat.int (wR (s.high.2-y))]]:List (List Dat))=(rwI Z4))))/\∀ x1:Nat,let Z1:=(((rwI Z4).getD x1 []).getD 0 (.int 0));(x1<=4/\∀ j,j<x1->CH Z3 (Z4.getD j 0)=true)->(ifB ((decide ((nI x1)<(4:Int)))) ((0<=(nI x1)/\(nI x1)<((rwI Z4).length:Int))/\((x1<(rwI Z4).length)/\(ifB ((!(decide (Z1.n<=(0:Int))))) (ifB ((decide ((wR (Z1.n*Z1.n))<=Z3))) Z2 (∃ y2:Nat,(y2<=4/\∀ j,j<y2->CH Z3 (Z4.getD j 0)=true)/\(4-y2<4-x1)/\((vI (wR ((nI x1)+(1:Int)))=vI (nI y2))/\(rf (vI (4:Int)))/\(rf (vI s.low.1))/\(rf (vI s.low.2))/\(rf (vI s.high.1))/\(rf (vI s.high.2))/\(rf (vI x))/\(rf (vI y))/\(rf (vI Z3))/\(rf Z5)/\(rf Z6)/\(rf Z7)/\(rf (rwI Z4))))) Z2))) (∃ i4:(List (List V2))×Int×Int×Int,[DA.one (DC.sl 40 [.sl 39 [.int,.int]] Z6),DA.one (DC.ro (.fn 189 [[.im (vI x),.im (vI y)],[.im (vI Z3)]]))]=Jc.args i4/\Jc.pre i4/\((vB (!(i4.1.any (λ z=>dtB z (ptQ (ptV (i4.2.1,i4.2.2.1))) i4.2.2.2)))=vB (Do s (x,y)))))))))) Z2)) (by kernel_rfl) ?_
 conv=>zeta
 delta ifB vB vI wR nI
 refine ⟨s,by
  rfl,by
  first|exact hpre|trivial|omega,?_⟩
 refine And.symm ⟨λ c4=>?_,λ c4=>?_⟩
 ·try simp only [nrm] at c4
  have hE:Do s (x,y)=false:=by unfold Do;rw [c4];rfl
  rw [hE]
 try simp only [nrm] at c4
 refine ⟨(x,y),by
  rfl,by
  first|exact hpre|trivial|omega,?_⟩
 refine ⟨λ c8=>?_,λ c8=>?_⟩
 ·try simp only [nrm] at c8
  have hE:Do s (x,y)=false:=by unfold Do;rw [c8,Bool.false_and,Bool.and_false]
  rw [hE]
 try simp only [nrm] at c8
 have hrw:=Un c4 c8
 have hb:=Cg c8
 simp only at hb
 have hr:=O5 s.robot
 have hbs:=Ke c4
 have hlo:=Bq s.obst
 have hz:=hpre.2.1
 refine ⟨s.robot,by
  rfl,by
  first|exact hpre|trivial|omega,?_⟩
 refine ⟨⟨0,by
  exact ⟨Nat.zero_le _,λ j hj=>absurd hj (Nat.not_lt_zero j)⟩,?_⟩,?_⟩
 ·refine ⟨?_,?_,rfl,rfl,rfl,rfl,rfl,rfl,rfl,rfl,rfl,rfl,?_⟩
  ·first|rfl|(simp;done)
  ·first|rfl|(simp;done)
  exact hrw
 intro (k:Nat) hki13
 have hki13:k<=4/\∀ j,j<k->CH (A1 s.robot) ((DR s x y).getD j 0)=true:=hki13
 refine And.symm ⟨λ c28=>?_,λ c28=>?_⟩
 ·try simp only [nrm] at c28
  have hE:=Rj c4 c8 (λ j hj=>hki13.2 j (by omega))
  refine ⟨(s.obst,x,y,(A1 s.robot)),by
   rfl,by
   show s.obst.length<=9223372036854775807/\(-9223372036854775808<=x/\x<=9223372036854775807)/\(-9223372036854775808<=y/\y<=9223372036854775807)/\(A1 s.robot)<=9223372036854775807
   refine ⟨by omega,?_⟩;omega,?_⟩
  rw [hE];rfl
 try simp only [nrm] at c28
 have hrl:(rwI (DR s x y)).length=4:=Yq _
 have hg:(((rwI (DR s x y)).getD k []).getD 0 (.int 0)).n=(DR s x y).getD k 0:=Zk (show k<4 by omega)
 have hd:=Xs c4 c8 (show k<4 by omega)
 have hsq:=Um hd.1 hd.2
 have hw:IntKind.i64.wrap ((DR s x y).getD k 0*(DR s x y).getD k 0)=(DR s x y).getD k 0*(DR s x y).getD k 0:=AD (by omega) (by omega)
 refine ao (by first|omega) λ o29=>?_
 refine ao (by first|omega) λ o30=>?_
 refine And.symm ⟨λ c31=>?_,λ c31=>?_⟩
 ·try simp only [nrm] at c31
  rw [hg] at c31
  have hE:Do s (x,y)=false:=JY (show k<4 by omega) (Xu c31)
  rw [hE]
 try simp only [nrm] at c31
 rw [hg] at c31
 refine ⟨λ c32=>?_,λ c32=>?_⟩
 ·try simp only [nrm] at c32
  rw [hg,hw] at c32
  have hE:Do s (x,y)=false:=JY (show k<4 by omega) (Xv c32)
  rw [hE]
 try simp only [nrm] at c32
 rw [hg,hw] at c32
 refine ⟨k+1,by
  exact ⟨by omega,JC hki13.2 (Xt (by omega) (by omega))⟩,by
  first|omega|(simp;omega),?_⟩
 refine ⟨?_,rfl,rfl,rfl,rfl,rfl,rfl,rfl,rfl,rfl,rfl,rfl,rfl⟩
 first|rfl|exact AK (AD (by omega) (by omega))
def FL:Con:={ ι:=Scn×Int×Int,pre:=λ i=>Ct i.1,args:=λ i=>[DA.agg [cI i.1.low.1,cI i.1.low.2,cI i.1.high.1,cI i.1.high.2,DC.sl 39 [.int,.int] (AJ i.1.robot),DC.sl 40 [.sl 39 [.int,.int]] (Aa i.1.obst),DC.sl 39 [.int,.int] (AJ i.1.tables)],DA.agg [cI i.2.1,cI i.2.2]],res:=λ i=>⟨false,[none],[rcB (Do i.1 (i.2.1,i.2.2))]⟩ }
theorem Rl:FL.Ok Tryz.prog 116:=by
 refine fok (X:=⟨tt,[(179,II),(55,B8),(135,Hy),(180,DS),(59,AZ),(181,JW)],[],76,[]⟩) AI AF (CTok.cons V7 (CTok.cons LK (CTok.cons Vn (CTok.cons Ys (CTok.cons F8 (CTok.cons Xo (CTok.nil _))))))) Tryz.func116 (λ (i:Scn×Int×Int)=>[(5,.mk 6 (Nat) (λ x1=>{ tm:=[(2,tP 1 0),(3,tP 5 0),(64,tX 3),(65,tI (nI ((Aa i.1.obst).length))),(66,tI (nI x1)),(5,tI (A1 i.1.robot))],en:=[(1,.box [kI i.1.low.1,kI i.1.low.2,kI i.1.high.1,kI i.1.high.2,.ext 2,.ext 3,.ext 4]),(5,.box [kI i.2.1,kI i.2.2]),(2,.view 39 [.int,.int] (AJ i.1.robot) []),(3,.view 40 [.sl 39 [.int,.int]] (Aa i.1.obst) []),(4,.view 39 [.int,.int] (AJ i.1.tables) [])] }) (λ x1=>x1<=i.1.obst.length/\∀ j,j<x1->Kd i.1 (i.2.1,i.2.2) (i.1.obst.getD j [])=false) (λ x1=>i.1.obst.length-x1) (λ _=>[]))]) ?_
 rintro ⟨s,x,y⟩ hpre
 have hpre:Ct s:=hpre
 refine AH (q:=let Z7:=A1 s.robot;let Z5:=AJ s.tables;let Z4:=AJ s.robot;let Z2:=Aa s.obst;let Z6:=nI (Z2.length);let Z1:=(vB false=vB (Do s (x,y)));∃ i1:(List V2),let Z3:=cI (A1 i1);[DA.one (DC.sl 39 [.int,.int] Z4)]=II.args i1/\II.pre i1/\(∃ i2:Scn,[DA.agg [cI s.low.1,cI s.low.2,cI s.high.1,cI s.high.2,DC.sl 39 [.int,.int] Z4,DC.sl 40 [.sl 39 [.int,.int]] Z2,DC.sl 39 [.int,.int] Z5]]=B8.args i2/\B8.pre i2/\(ifB ((!(!(AV i2)))) (∃ i3:Int×Int,[DA.agg [cI x,cI y]]=Hy.args i3/\Hy.pre i3/\(ifB ((!(!(A2 (i3.1,i3.2))))) (∃ i4:Int×Int,[DA.one Z3,DA.one (cI (wR (x-s.low.1)))]=DS.args i4/\DS.pre i4/\(ifB ((!(!(CH i4.1 i4.2)))) (∃ i5:Int×Int,[DA.one Z3,DA.one (cI (wR (s.high.1-x)))]=DS.args i5/\DS.pre i5/\(ifB ((!(!(CH i5.1 i5.2)))) (∃ i6:Int×Int,[DA.one Z3,DA.one (cI (wR (y-s.low.2)))]=DS.args i6/\DS.pre i6/\(ifB ((!(!(CH i6.1 i6.2)))) (∃ i7:Int×Int,[DA.one Z3,DA.one (cI (wR (s.high.2-y)))]=DS.args i7/\DS.pre i7/\(ifB ((!(CH i7.1 i7.2))) Z1 ((∃ x1:Nat,(x1<=s.obst.length/\∀ j,j<x1->Kd s (x,y) (s.obst.getD j [])=false)/\((rf (vI Z6))/\(vI (0:Int)=vI (nI x1))/\(vI (A1 i1)=vI Z7)/\(rf (vI s.low.1))/\(rf (vI s.low.2))/\(rf (vI s.high.1))/\(rf (vI s.high.2))/\(rf (vI x))/\(rf (vI y))/\(rf Z4)/\(rf Z2)/\(rf Z5)))/\∀ x1:Nat,(x1<=s.obst.length/\∀ j,j<x1->Kd s (x,y) (s.obst.getD j [])=false)->(ifB ((decide ((nI x1)<Z6))) ((0<=(nI x1)/\(nI x1)<(Z2.length:Int))/\((x1<Z2.length)/\(∃ i8:Int×Int,let Z9:=Fr.ofInt i8.2;let Z8:=Fr.ofInt i8.1;[DA.agg [cI x,cI y]]=AZ.args i8/\AZ.pre i8/\(∃ i9:(List V2)×PtD×Int,[DA.one (DC.sl 39 [.int,.int] ((((Z2.getD x1 []).getD 0 (.int 0))).r)),DA.agg [cB (decide (Z8.z<0)),cS (L Z8.z.natAbs),cS (L Z8.d),cB (decide (Z9.z<0)),cS (L Z9.z.natAbs),cS (L Z9.d)],DA.one (cI Z7)]=JW.args i9/\JW.pre i9/\(ifB ((dtB i9.1 i9.2.1 i9.2.2)) Z1 (∃ y2:Nat,(y2<=s.obst.length/\∀ j,j<y2->Kd s (x,y) (s.obst.getD j [])=false)/\(s.obst.length-y2<s.obst.length-x1)/\((rf (vI Z6))/\(vI (wR ((nI x1)+(1:Int)))=vI (nI y2))/\(rf (vI Z7))/\(rf (vI s.low.1))/\(rf (vI s.low.2))/\(rf (vI s.high.1))/\(rf (vI s.high.2))/\(rf (vI x))/\(rf (vI y))/\(rf Z4)/\(rf Z2)/\(rf Z5)))))))) ((vB true=vB (Do s (x,y)))))))) Z1)) Z1)) Z1)) Z1)) Z1))) (by kernel_rfl) ?_
 conv=>zeta
 delta ifB vB vI wR nI
 refine ⟨s.robot,by
  rfl,by
  first|exact hpre|trivial|omega,?_⟩
 refine ⟨s,by
  rfl,by
  first|exact hpre|trivial|omega,?_⟩
 refine And.symm ⟨λ c7=>?_,λ c7=>?_⟩
 ·try simp only [nrm] at c7
  have hE:Do s (x,y)=false:=by unfold Do;rw [c7];rfl
  rw [hE]
 try simp only [nrm] at c7
 refine ⟨(x,y),by
  rfl,by
  first|exact hpre|trivial|omega,?_⟩
 refine And.symm ⟨λ c11=>?_,λ c11=>?_⟩
 ·try simp only [nrm] at c11
  have hE:Do s (x,y)=false:=by unfold Do;rw [c11,Bool.false_and,Bool.and_false]
  rw [hE]
 try simp only [nrm] at c11
 have hrw:=Un c7 c11
 have hb:=Cg c11
 simp only at hb
 have hr:=O5 s.robot
 have hbs:=Ke c7
 have hlo:=Bq s.obst
 have hz:=hpre.2.1
 have hw1:IntKind.i64.wrap (x-s.low.1)=x-s.low.1:=AD (by omega) (by omega)
 have hw2:IntKind.i64.wrap (s.high.1-x)=s.high.1-x:=AD (by omega) (by omega)
 have hw3:IntKind.i64.wrap (y-s.low.2)=y-s.low.2:=AD (by omega) (by omega)
 have hw4:IntKind.i64.wrap (s.high.2-y)=s.high.2-y:=AD (by omega) (by omega)
 refine ⟨(A1 s.robot,x-s.low.1),by
  rw [hw1];rfl,by
  show -2000<=(x-s.low.1)/\(x-s.low.1)<=2000
  first|exact hpre|trivial|omega,?_⟩
 refine And.symm ⟨λ c15=>?_,λ c15=>?_⟩
 ·try simp only [nrm] at c15
  have hE:Do s (x,y)=false:=JY (k:=0) (by decide) c15
  rw [hE]
 try simp only [nrm] at c15
 refine ⟨(A1 s.robot,s.high.1-x),by
  rw [hw2];rfl,by
  show -2000<=(s.high.1-x)/\(s.high.1-x)<=2000
  first|exact hpre|trivial|omega,?_⟩
 refine And.symm ⟨λ c19=>?_,λ c19=>?_⟩
 ·try simp only [nrm] at c19
  have hE:Do s (x,y)=false:=JY (k:=1) (by decide) c19
  rw [hE]
 try simp only [nrm] at c19
 refine ⟨(A1 s.robot,y-s.low.2),by
  rw [hw3];rfl,by
  show -2000<=(y-s.low.2)/\(y-s.low.2)<=2000
  first|exact hpre|trivial|omega,?_⟩
 refine And.symm ⟨λ c23=>?_,λ c23=>?_⟩
 ·try simp only [nrm] at c23
  have hE:Do s (x,y)=false:=JY (k:=2) (by decide) c23
  rw [hE]
 try simp only [nrm] at c23
 refine ⟨(A1 s.robot,s.high.2-y),by
  rw [hw4];rfl,by
  show -2000<=(s.high.2-y)/\(s.high.2-y)<=2000
  first|exact hpre|trivial|omega,?_⟩
 refine ⟨λ c27=>?_,λ c27=>?_⟩
 ·try simp only [nrm] at c27
  have hE:Do s (x,y)=false:=JY (k:=3) (by decide) c27
  rw [hE]
 try simp only [nrm] at c27
 have hE:=V3 c7 c11 c15 c19 c23 c27
 refine ⟨⟨0,by
  exact ⟨Nat.zero_le _,λ j hj=>absurd hj (Nat.not_lt_zero j)⟩,?_⟩,?_⟩
 ·refine ⟨rfl,?_,rfl,rfl,rfl,rfl,rfl,rfl,rfl,rfl,rfl,rfl⟩
  first|rfl|(simp;done)
 intro (k:Nat) hki29
 have hki29:k<=s.obst.length/\∀ j,j<k->Kd s (x,y) (s.obst.getD j [])=false:=hki29
 refine And.symm ⟨λ c43=>?_,λ c43=>?_⟩
 ·try simp only [nrm] at c43
  rw [hE,Xx (d:=[]) (λ j hj=>hki29.2 j (by omega))];rfl
 try simp only [nrm] at c43
 refine ao (by first|omega) λ o44=>?_
 refine ao (by first|omega) λ o45=>?_
 refine ⟨(x,y),by
  rfl,by
  show (-9223372036854775808<=x/\x<=9223372036854775807)/\-9223372036854775808<=y/\y<=9223372036854775807
  first|exact hpre|trivial|omega,?_⟩
 refine ⟨(s.obst.getD k [],(ptQ (ptV (x,y))),A1 s.robot),by
  rw [Oz (by omega)];rfl,by
  show (ptQ (ptV (x,y))).has/\(A1 s.robot)<=9223372036854775807
  exact ⟨Hz _,by omega⟩,?_⟩
 refine ⟨λ c52=>?_,λ c52=>?_⟩
 ·try simp only [nrm] at c52
  rw [hE,Zl (p:=Kd s (x,y)) (k:=k) (d:=[]) (by omega) c52];rfl
 try simp only [nrm] at c52
 refine ⟨k+1,by
  exact ⟨by omega,JC hki29.2 c52⟩,by
  first|omega|(simp;omega),?_⟩
 refine ⟨rfl,?_,rfl,rfl,rfl,rfl,rfl,rfl,rfl,rfl,rfl,rfl⟩
 first|rfl|exact AK (AD (by omega) (by omega))
def Jd:Con:={ ι:=Scn,pre:=λ i=>Ct i,args:=λ i=>[DA.agg [cI i.low.1,cI i.low.2,cI i.high.1,cI i.high.2,DC.sl 39 [.int,.int] (AJ i.robot),DC.sl 40 [.sl 39 [.int,.int]] (Aa i.obst),DC.sl 39 [.int,.int] (AJ i.tables)]],res:=λ i=>⟨false,[none],[.own 3 [.int] (CB i)]⟩ }
theorem X1:Jd.Ok Tryz.prog 67:=by
 refine fok (X:=⟨tt,[(66,B7),(126,FK)],[],27,[]⟩) AI AF (CTok.cons LJ (CTok.cons Rk (CTok.nil _))) Tryz.func67 (λ (i:Scn)=>[(5,.mk 6 (Nat) (λ x1=>{ tm:=[(1,tP 1 0),(11,tX 4),(12,tI (nI ((AJ i.tables).length))),(13,tI (nI x1)),(3,tX 5)],en:=[(1,.box [kI i.low.1,kI i.low.2,kI i.high.1,kI i.high.2,.ext 2,.ext 3,.ext 4]),(2,.view 39 [.int,.int] (AJ i.robot) []),(3,.view 40 [.sl 39 [.int,.int]] (Aa i.obst) []),(4,.view 39 [.int,.int] (AJ i.tables) []),(5,.own 3 [.int] (EG i x1))] }) (λ x1=>x1<=i.tables.length) (λ x1=>i.tables.length-x1) (λ _=>[]))]) ?_
 intro (s:Scn) hpre
 have hpre:Ct s:=hpre
 refine AH (q:=let Z3:=Aa s.obst;let Z2:=AJ s.robot;let Z1:=AJ s.tables;let Z4:=nI (Z1.length);∃ i1:Scn,[DA.agg [cI s.low.1,cI s.low.2,cI s.high.1,cI s.high.2,DC.sl 39 [.int,.int] Z2,DC.sl 40 [.sl 39 [.int,.int]] Z3,DC.sl 39 [.int,.int] Z1]]=B7.args i1/\B7.pre i1/\(ifB ((!(AV i1))) ((([]:List (List Dat))=CB s)) ((∃ x1:Nat,(x1<=s.tables.length)/\((rf (vI Z4))/\(vI (0:Int)=vI (nI x1))/\(rf (vI s.low.1))/\(rf (vI s.low.2))/\(rf (vI s.high.1))/\(rf (vI s.high.2))/\(rf Z2)/\(rf Z3)/\(rf Z1)/\(([]:List (List Dat))=(EG s x1))))/\∀ x1:Nat,let Z6:=wR ((nI x1)+(1:Int));let Z5:=EG s x1;(x1<=s.tables.length)->(ifB ((decide ((nI x1)<Z4))) ((0<=(nI x1)/\(nI x1)<(Z1.length:Int))/\((x1<Z1.length)/\(∃ i2:Scn×Int×Int,[DA.agg [cI s.low.1,cI s.low.2,cI s.high.1,cI s.high.2,DC.sl 39 [.int,.int] Z2,DC.sl 40 [.sl 39 [.int,.int]] Z3,DC.sl 39 [.int,.int] Z1],DA.agg [cI ((((Z1.getD x1 []).getD 0 (.int 0))).n),cI ((((Z1.getD x1 []).getD 1 (.int 0))).n)]]=FK.args i2/\FK.pre i2/\(ifB ((Do i2.1 (i2.2.1,i2.2.2))) ((Z5.length+([[Dat.int (nI x1)]]:List (List Dat)).length<=1073741824)/\(∃ y2:Nat,(y2<=s.tables.length)/\(s.tables.length-y2<s.tables.length-x1)/\((rf (vI Z4))/\(vI Z6=vI (nI y2))/\(rf (vI s.low.1))/\(rf (vI s.low.2))/\(rf (vI s.high.1))/\(rf (vI s.high.2))/\(rf Z2)/\(rf Z3)/\(rf Z1)/\((Z5++([[Dat.int (nI x1)]]:List (List Dat)))=(EG s y2))))) (∃ y3:Nat,(y3<=s.tables.length)/\(s.tables.length-y3<s.tables.length-x1)/\((rf (vI Z4))/\(vI Z6=vI (nI y3))/\(rf (vI s.low.1))/\(rf (vI s.low.2))/\(rf (vI s.high.1))/\(rf (vI s.high.2))/\(rf Z2)/\(rf Z3)/\(rf Z1)/\(Z5=(EG s y3)))))))) ((Z5=CB s)))))) (by kernel_rfl) ?_
 conv=>zeta
 delta ifB vI wR nI
 have hz:=hpre.2.2.2
 have hvl:=Ar s.tables
 refine ⟨s,by
  rfl,by
  first|exact hpre|trivial|omega,?_⟩
 refine ⟨λ c4=>?_,λ c4=>?_⟩
 ·try simp only [nrm] at c4
  have hE:=Nv c4
  rw [hE]
 try simp only [nrm] at c4
 have hE:=LL c4
 refine ⟨⟨0,by
  first|trivial|omega|(simp;omega),?_⟩,?_⟩
 ·refine ⟨rfl,?_,rfl,rfl,rfl,rfl,rfl,rfl,rfl,?_⟩
  ·first|rfl|(simp;done)
  first|rfl|(simp;done)
 intro (k:Nat) hki6
 have hki6:k<=s.tables.length:=hki6
 refine And.symm ⟨λ c18=>?_,λ c18=>?_⟩
 ·try simp only [nrm] at c18
  rw [hE,show k=s.tables.length by omega]
 try simp only [nrm] at c18
 have hol:=JZ s k
 refine ao (by first|omega|(simp only [List.length_cons,List.length_nil];omega)) λ o19=>?_
 refine ao (by first|omega|(simp only [List.length_cons,List.length_nil];omega)) λ o20=>?_
 refine ⟨(s,(s.tables.getD k (0,0)).1,(s.tables.getD k (0,0)).2),by
  rw [Dk (by omega),Dl (by omega)];rfl,by
  show Ct s
  first|exact hpre|trivial|omega,?_⟩
 refine And.symm ⟨λ c24=>?_,λ c24=>?_⟩
 ·try simp only [nrm] at c24
  refine ⟨k+1,by
   first|trivial|omega|(simp;omega),by
   first|omega|(simp;omega),?_⟩
  refine ⟨rfl,?_,rfl,rfl,rfl,rfl,rfl,rfl,rfl,?_⟩
  ·first|rfl|exact AK (AD (by omega) (by omega))
  exact (Py c24).symm
 try simp only [nrm] at c24
 refine ao (by first|omega|(simp only [List.length_cons,List.length_nil];omega)) λ o25=>?_
 refine ⟨k+1,by
  first|trivial|omega|(simp;omega),by
  first|omega|(simp;omega),?_⟩
 refine ⟨rfl,?_,rfl,rfl,rfl,rfl,rfl,rfl,rfl,?_⟩
 ·first|rfl|exact AK (AD (by omega) (by omega))
 exact (Nw c24).symm
def Je:Con:={ ι:=Scn,pre:=λ i=>Ct i,args:=λ i=>[DA.agg [cI i.low.1,cI i.low.2,cI i.high.1,cI i.high.2,DC.sl 39 [.int,.int] (AJ i.robot),DC.sl 40 [.sl 39 [.int,.int]] (Aa i.obst),DC.sl 39 [.int,.int] (AJ i.tables)]],res:=λ i=>⟨false,[none],[.own 3 [.int] (CB i)]⟩ }
theorem X2:Je.Ok Tryz.prog 56:=by
 refine fok (X:=⟨tt,[(55,B8),(116,FL)],[],27,[]⟩) AI AF (CTok.cons LK (CTok.cons Rl (CTok.nil _))) Tryz.func56 (λ (i:Scn)=>[(5,.mk 6 (Nat) (λ x1=>{ tm:=[(1,tP 1 0),(11,tX 4),(12,tI (nI ((AJ i.tables).length))),(13,tI (nI x1)),(3,tX 5)],en:=[(1,.box [kI i.low.1,kI i.low.2,kI i.high.1,kI i.high.2,.ext 2,.ext 3,.ext 4]),(2,.view 39 [.int,.int] (AJ i.robot) []),(3,.view 40 [.sl 39 [.int,.int]] (Aa i.obst) []),(4,.view 39 [.int,.int] (AJ i.tables) []),(5,.own 3 [.int] (EG i x1))] }) (λ x1=>x1<=i.tables.length) (λ x1=>i.tables.length-x1) (λ _=>[]))]) ?_
 intro (s:Scn) hpre
 have hpre:Ct s:=hpre
 refine AH (q:=let Z3:=Aa s.obst;let Z2:=AJ s.robot;let Z1:=AJ s.tables;let Z4:=nI (Z1.length);∃ i1:Scn,[DA.agg [cI s.low.1,cI s.low.2,cI s.high.1,cI s.high.2,DC.sl 39 [.int,.int] Z2,DC.sl 40 [.sl 39 [.int,.int]] Z3,DC.sl 39 [.int,.int] Z1]]=B8.args i1/\B8.pre i1/\(ifB ((!(AV i1))) ((([]:List (List Dat))=CB s)) ((∃ x1:Nat,(x1<=s.tables.length)/\((rf (vI Z4))/\(vI (0:Int)=vI (nI x1))/\(rf (vI s.low.1))/\(rf (vI s.low.2))/\(rf (vI s.high.1))/\(rf (vI s.high.2))/\(rf Z2)/\(rf Z3)/\(rf Z1)/\(([]:List (List Dat))=(EG s x1))))/\∀ x1:Nat,let Z6:=wR ((nI x1)+(1:Int));let Z5:=EG s x1;(x1<=s.tables.length)->(ifB ((decide ((nI x1)<Z4))) ((0<=(nI x1)/\(nI x1)<(Z1.length:Int))/\((x1<Z1.length)/\(∃ i2:Scn×Int×Int,[DA.agg [cI s.low.1,cI s.low.2,cI s.high.1,cI s.high.2,DC.sl 39 [.int,.int] Z2,DC.sl 40 [.sl 39 [.int,.int]] Z3,DC.sl 39 [.int,.int] Z1],DA.agg [cI ((((Z1.getD x1 []).getD 0 (.int 0))).n),cI ((((Z1.getD x1 []).getD 1 (.int 0))).n)]]=FL.args i2/\FL.pre i2/\(ifB ((Do i2.1 (i2.2.1,i2.2.2))) ((Z5.length+([[Dat.int (nI x1)]]:List (List Dat)).length<=1073741824)/\(∃ y2:Nat,(y2<=s.tables.length)/\(s.tables.length-y2<s.tables.length-x1)/\((rf (vI Z4))/\(vI Z6=vI (nI y2))/\(rf (vI s.low.1))/\(rf (vI s.low.2))/\(rf (vI s.high.1))/\(rf (vI s.high.2))/\(rf Z2)/\(rf Z3)/\(rf Z1)/\((Z5++([[Dat.int (nI x1)]]:List (List Dat)))=(EG s y2))))) (∃ y3:Nat,(y3<=s.tables.length)/\(s.tables.length-y3<s.tables.length-x1)/\((rf (vI Z4))/\(vI Z6=vI (nI y3))/\(rf (vI s.low.1))/\(rf (vI s.low.2))/\(rf (vI s.high.1))/\(rf (vI s.high.2))/\(rf Z2)/\(rf Z3)/\(rf Z1)/\(Z5=(EG s y3)))))))) ((Z5=CB s)))))) (by kernel_rfl) ?_
 conv=>zeta
 delta ifB vI wR nI
 have hz:=hpre.2.2.2
 have hvl:=Ar s.tables
 refine ⟨s,by
  rfl,by
  first|exact hpre|trivial|omega,?_⟩
 refine ⟨λ c4=>?_,λ c4=>?_⟩
 ·try simp only [nrm] at c4
  have hE:=Nv c4
  rw [hE]
 try simp only [nrm] at c4
 have hE:=LL c4
 refine ⟨⟨0,by
  first|trivial|omega|(simp;omega),?_⟩,?_⟩
 ·refine ⟨rfl,?_,rfl,rfl,rfl,rfl,rfl,rfl,rfl,?_⟩
  ·first|rfl|(simp;done)
  first|rfl|(simp;done)
 intro (k:Nat) hki6
 have hki6:k<=s.tables.length:=hki6
 refine And.symm ⟨λ c18=>?_,λ c18=>?_⟩
 ·try simp only [nrm] at c18
  rw [hE,show k=s.tables.length by omega]
 try simp only [nrm] at c18
 have hol:=JZ s k
 refine ao (by first|omega|(simp only [List.length_cons,List.length_nil];omega)) λ o19=>?_
 refine ao (by first|omega|(simp only [List.length_cons,List.length_nil];omega)) λ o20=>?_
 refine ⟨(s,(s.tables.getD k (0,0)).1,(s.tables.getD k (0,0)).2),by
  rw [Dk (by omega),Dl (by omega)];rfl,by
  show Ct s
  first|exact hpre|trivial|omega,?_⟩
 refine And.symm ⟨λ c24=>?_,λ c24=>?_⟩
 ·try simp only [nrm] at c24
  refine ⟨k+1,by
   first|trivial|omega|(simp;omega),by
   first|omega|(simp;omega),?_⟩
  refine ⟨rfl,?_,rfl,rfl,rfl,rfl,rfl,rfl,rfl,?_⟩
  ·first|rfl|exact AK (AD (by omega) (by omega))
  exact (Py c24).symm
 try simp only [nrm] at c24
 refine ao (by first|omega|(simp only [List.length_cons,List.length_nil];omega)) λ o25=>?_
 refine ⟨k+1,by
  first|trivial|omega|(simp;omega),by
  first|omega|(simp;omega),?_⟩
 refine ⟨rfl,?_,rfl,rfl,rfl,rfl,rfl,rfl,rfl,?_⟩
 ·first|rfl|exact AK (AD (by omega) (by omega))
 exact (Nw c24).symm
end Go.Proofs.YtmedodfenejimaaGreat
