import Derived.Test.YtblmlkdefjoebaaGreatTuRkI
namespace Go.Proofs.YtblmlkdefjoebaaGreat
set_option maxRecDepth 100000
set_option linter.unusedVariables false
set_option linter.unusedSimpArgs false
open Go.RowKit
def bxOk (b:V2×V2):Prop:=((-9223372036854775808≤b.1.1∧b.1.1≤9223372036854775807)∧(-9223372036854775808≤b.1.2∧b.1.2≤9223372036854775807)∧(-9223372036854775808≤b.2.1∧b.2.1≤9223372036854775807)∧(-9223372036854775808≤b.2.2∧b.2.2≤9223372036854775807))
abbrev bxR (r:List Dat):V2×V2:=(((r.getD 2 (.int 0)).n,(r.getD 3 (.int 0)).n),((r.getD 4 (.int 0)).n,(r.getD 5 (.int 0)).n))
def inQ (b:V2×V2) (p:Pq):Bool:=decide (Fr.cmp p.x (Fr.ofInt b.1.1) > 0) && (decide (Fr.cmp p.x (Fr.ofInt b.2.1) < 0) && (decide (Fr.cmp p.y (Fr.ofInt b.1.2) > 0) && decide (Fr.cmp p.y (Fr.ofInt b.2.2) < 0)))
def inBoxB (b:V2×V2) (p:PtD):Bool:=okP p && inQ b (pqR p)
def cmpD (r:RatD) (s:Fr):Int:=if okR r=true then Fr.cmp (frR r) s else 0
theorem cmpD_yes {r:RatD} {s:Fr} (h:okR r=true):cmpD r s=Fr.cmp (frR r) s:=by unfold cmpD;rw [if_pos h]
theorem cmpD_no {r:RatD} {s:Fr} (h:okR r=false):cmpD r s=0:=by unfold cmpD;rw [if_neg (by rw [h];simp)]
def inD (b:V2×V2) (p:PtD):Bool:=decide (cmpD p.x (Fr.ofInt b.1.1) > 0) && (decide (cmpD p.x (Fr.ofInt b.2.1) < 0) && (decide (cmpD p.y (Fr.ofInt b.1.2) > 0) && decide (cmpD p.y (Fr.ofInt b.2.2) < 0)))
theorem inD_eq (b:V2×V2) (p:PtD):inD b p=inBoxB b p:=by
 unfold inD inBoxB
 cases h1:okR p.x with
 | false=>rw [cmpD_no h1];simp [okP,h1]
 | true=>
  cases h2:okR p.y with
  | false=>rw [cmpD_no (r:=p.y) h2,cmpD_no (r:=p.y) h2];simp [okP,h2]
  | true=>
   have h3:okP p=true:=by unfold okP;rw [h1,h2];rfl
   rw [cmpD_yes h1,cmpD_yes h1,cmpD_yes h2,cmpD_yes h2,h3];rfl
def pthB (b:V2×V2) (ar:List (List V2)) (l:List (List Dat)) (k:Nat):Bool:=
 (inBoxB b (ptOf (l.getD k [])) && !(ar.any fun z=>decide (0≤cpZ z (ptOf (l.getD k []))))) && !(decide (0 < k) && ar.any fun z=>smZ z (ptOf (l.getD (k - 1) [])) (ptOf (l.getD k [])))
def pathB (b:V2×V2) (ar:List (List V2)) (l:List (List Dat)):Bool:=decide (0 < l.length) && (List.range l.length).all (pthB b ar l)
theorem path_no {b:V2×V2} {ar:List (List V2)} {l:List (List Dat)} {k:Nat} (hk:k < l.length) (h:pthB b ar l k=false):pathB b ar l=false:=by
 have:(List.range l.length).all (pthB b ar l)=false:=by
  rw [List.all_eq_false];exact ⟨k,List.mem_range.2 hk,by rw [h];simp⟩
 unfold pathB;rw [this,Bool.and_false]
theorem path_yes {b:V2×V2} {ar:List (List V2)} {l:List (List Dat)} (h:∀ j,j < l.length→pthB b ar l j=true):pathB b ar l=decide (0 < l.length):=by
 have:(List.range l.length).all (pthB b ar l)=true:=by
  rw [List.all_eq_true];exact fun j hj=>h j (List.mem_range.1 hj)
 unfold pathB;rw [this,Bool.and_true]
def freeA (b:V2×V2) (ar:List (List V2)) (p:PtD):Bool:=inBoxB b p && !(ar.any fun z=>decide (0≤cpZ z p))
theorem pthB_eq (b:V2×V2) (ar:List (List V2)) (l:List (List Dat)) (k:Nat):pthB b ar l k=(freeA b ar (ptOf (l.getD k [])) && !(decide (0 < k) && ar.any fun z=>smZ z (ptOf (l.getD (k - 1) [])) (ptOf (l.getD k [])))):=rfl
theorem freeA_hit {b:V2×V2} {ar:List (List V2)} {p:PtD} {k:Nat} (hk:k < ar.length) (h:cpZ (ar.getD k []) p≥0):freeA b ar p=false:=by
 have:(ar.any fun z=>decide (0≤cpZ z p))=true:=List.any_eq_true.2 ⟨ar.getD k [],by simp [List.getD,hk],by simpa using h⟩
 unfold freeA;rw [this];simp
theorem freeA_none {b:V2×V2} {ar:List (List V2)} {p:PtD} (h:∀ j,j < ar.length→cpZ (ar.getD j []) p < 0):freeA b ar p=inBoxB b p:=by
 have:(ar.any fun z=>decide (0≤cpZ z p))=false:=by
  rw [List.any_eq_false]
  intro z hz
  obtain ⟨j,hj,rfl⟩:=List.getElem_of_mem hz
  have:=h j hj
  simp only [List.getD,List.getElem?_eq_getElem hj,Option.getD_some] at this
  simp only [decide_eq_true_eq];omega
 unfold freeA;rw [this];simp
theorem anyF_none {α:Type} {p:α→Bool} {l:List α} {d:α} (h:∀ j,j < l.length→p (l.getD j d)=false):l.any p=false:=by
 rw [List.any_eq_false]
 intro z hz
 obtain ⟨j,hj,rfl⟩:=List.getElem_of_mem hz
 have:=h j hj
 simp only [List.getD,List.getElem?_eq_getElem hj,Option.getD_some] at this
 rw [this];simp
theorem anyF_hit {α:Type} {p:α→Bool} {l:List α} {d:α} {k:Nat} (hk:k < l.length) (h:p (l.getD k d)=true):l.any p=true:=
 List.any_eq_true.2 ⟨l.getD k d,by simp [List.getD,hk],h⟩
theorem ofI_good {n:Int} (h:-9223372036854775808≤n∧n≤9223372036854775807):(Fr.ofInt n).good=true:=Fr.good_some (ofInt_v (int_nl h))
theorem pth_no1 {b:V2×V2} {ar:List (List V2)} {l:List (List Dat)} {k:Nat} (h:inBoxB b (ptOf (l.getD k []))=false):pthB b ar l k=false:=by unfold pthB;rw [h];rfl
theorem pth_no2 {b:V2×V2} {ar:List (List V2)} {l:List (List Dat)} {k:Nat} (h:(ar.any fun z=>decide (0≤cpZ z (ptOf (l.getD k []))))=true):pthB b ar l k=false:=by unfold pthB;rw [h];simp
theorem pth_no3 {b:V2×V2} {ar:List (List V2)} {l:List (List Dat)} {k:Nat} (h0:0 < k) (h:(ar.any fun z=>smZ z (ptOf (l.getD (k - 1) [])) (ptOf (l.getD k [])))=true):pthB b ar l k=false:=by unfold pthB;rw [h,decide_eq_true h0];simp
theorem pth_ok {b:V2×V2} {ar:List (List V2)} {l:List (List Dat)} {k:Nat} (h1:inBoxB b (ptOf (l.getD k []))=true) (h2:(ar.any fun z=>decide (0≤cpZ z (ptOf (l.getD k []))))=false) (h3:k=0∨(ar.any fun z=>smZ z (ptOf (l.getD (k - 1) [])) (ptOf (l.getD k [])))=false):pthB b ar l k=true:=by
 unfold pthB;rw [h1,h2]
 rcases h3 with rfl|h3
 ·simp
 ·rw [h3];simp
theorem pth_fr {b:V2×V2} {ar:List (List V2)} {l:List (List Dat)} {k:Nat} (h1:freeA b ar (ptOf (l.getD k []))=false):pthB b ar l k=false:=by rw [pthB_eq,h1];rfl
theorem pth_ok' {b:V2×V2} {ar:List (List V2)} {l:List (List Dat)} {k:Nat} (h1:freeA b ar (ptOf (l.getD k []))=true) (h3:∀ j,j < ar.length→(decide (0 < k) && smZ (ar.getD j []) (ptOf (l.getD (k - 1) [])) (ptOf (l.getD k [])))=false):pthB b ar l k=true:=by
 rw [pthB_eq,h1]
 by_cases h0:0 < k
 ·rw [decide_eq_true h0]
  have:(ar.any fun z=>smZ z (ptOf (l.getD (k - 1) [])) (ptOf (l.getD k [])))=false:=anyF_none (d:=[]) fun j hj=>by have:=h3 j hj;rwa [decide_eq_true h0,Bool.true_and] at this
  rw [this];rfl
 ·rw [decide_eq_false h0];rfl
def inBox_con:Con:={ ι:=(V2×V2)×Pq,pre:=fun i=>bxOk i.1,args:=fun i=>[.agg [.im (.int .i64 i.1.1.1),.im (.int .i64 i.1.1.2),.im (.int .i64 i.1.2.1),.im (.int .i64 i.1.2.2)],.agg [.im (.bool (decide (i.2.x.z < 0))),.sl 3 [.int] (L i.2.x.z.natAbs),.sl 3 [.int] (L i.2.x.d),.im (.bool (decide (i.2.y.z < 0))),.sl 3 [.int] (L i.2.y.z.natAbs),.sl 3 [.int] (L i.2.y.d)]],res:=fun i=>⟨false,[none],[.im (Value.bool (inQ i.1 i.2))]⟩ }
theorem inBox_ok:inBox_con.Ok Tryz.prog 162:=by
 refine fn_ok (X:=⟨tt,[(184,ratInt_con),(186,ratCmp_con)],[],43,[]⟩) mixed tt_ok (CTok.cons ratInt_ok (CTok.cons ratCmp_ok (CTok.nil _))) (InlOk.nil _) Tryz.func162 (by decide) rfl rfl rfl (fun _=>Nat.le_of_ble_eq_true rfl) (fun _=>Nat.le_of_ble_eq_true rfl) (fun _=>[]) ?_
 rintro ⟨b,p⟩ hpre
 have hpre:bxOk b:=hpre
 refine by_nf (q:=∃ i1:Int,[DA.one (cI b.1.1)]=ratInt_con.args i1∧ratInt_con.pre i1∧(∃ i2:Fr×Fr,[dF p.x,dF (Fr.ofInt i1)]=ratCmp_con.args i2∧ratCmp_con.pre i2∧(((decide ((Fr.cmp i2.1 i2.2) > (0:Int)))=true→(∃ i3:Int,[DA.one (cI b.2.1)]=ratInt_con.args i3∧ratInt_con.pre i3∧(∃ i4:Fr×Fr,[dF p.x,dF (Fr.ofInt i3)]=ratCmp_con.args i4∧ratCmp_con.pre i4∧(((decide ((Fr.cmp i4.1 i4.2) < (0:Int)))=true→(∃ i5:Int,[DA.one (cI b.1.2)]=ratInt_con.args i5∧ratInt_con.pre i5∧(∃ i6:Fr×Fr,[dF p.y,dF (Fr.ofInt i5)]=ratCmp_con.args i6∧ratCmp_con.pre i6∧(((decide ((Fr.cmp i6.1 i6.2) > (0:Int)))=true→(∃ i7:Int,[DA.one (cI b.2.2)]=ratInt_con.args i7∧ratInt_con.pre i7∧(∃ i8:Fr×Fr,[dF p.y,dF (Fr.ofInt i7)]=ratCmp_con.args i8∧ratCmp_con.pre i8∧((Value.bool (decide ((Fr.cmp i8.1 i8.2) < (0:Int)))=Value.bool (inQ b p))))))∧((decide ((Fr.cmp i6.1 i6.2) > (0:Int)))=false→((Value.bool false=Value.bool (inQ b p))))))))∧((decide ((Fr.cmp i4.1 i4.2) < (0:Int)))=false→((Value.bool false=Value.bool (inQ b p))))))))∧((decide ((Fr.cmp i2.1 i2.2) > (0:Int)))=false→((Value.bool false=Value.bool (inQ b p))))))) (by kernel_rfl) ?_
 refine ⟨b.1.1,by
  rfl,by
  exact hpre.1,?_⟩
 refine ⟨(p.x,(Fr.ofInt b.1.1)),by
  rfl,by
  trivial,?_⟩
 refine And.symm ⟨fun c7=>?_,fun c7=>?_⟩
 ·replace c7:(decide ((Fr.cmp p.x (Fr.ofInt b.1.1)) > (0:Int)))=false:=c7
  try simp only [nrm] at c7
  exact congrArg Value.bool (by unfold inQ;simp_all;try (intros;omega))
 replace c7:(decide ((Fr.cmp p.x (Fr.ofInt b.1.1)) > (0:Int)))=true:=c7
 try simp only [nrm] at c7
 refine ⟨b.2.1,by
  rfl,by
  exact hpre.2.2.1,?_⟩
 refine ⟨(p.x,(Fr.ofInt b.2.1)),by
  rfl,by
  trivial,?_⟩
 refine And.symm ⟨fun c14=>?_,fun c14=>?_⟩
 ·replace c14:(decide ((Fr.cmp p.x (Fr.ofInt b.2.1)) < (0:Int)))=false:=c14
  try simp only [nrm] at c14
  exact congrArg Value.bool (by unfold inQ;simp_all;try (intros;omega))
 replace c14:(decide ((Fr.cmp p.x (Fr.ofInt b.2.1)) < (0:Int)))=true:=c14
 try simp only [nrm] at c14
 refine ⟨b.1.2,by
  rfl,by
  exact hpre.2.1,?_⟩
 refine ⟨(p.y,(Fr.ofInt b.1.2)),by
  rfl,by
  trivial,?_⟩
 refine And.symm ⟨fun c21=>?_,fun c21=>?_⟩
 ·replace c21:(decide ((Fr.cmp p.y (Fr.ofInt b.1.2)) > (0:Int)))=false:=c21
  try simp only [nrm] at c21
  exact congrArg Value.bool (by unfold inQ;simp_all;try (intros;omega))
 replace c21:(decide ((Fr.cmp p.y (Fr.ofInt b.1.2)) > (0:Int)))=true:=c21
 try simp only [nrm] at c21
 refine ⟨b.2.2,by
  rfl,by
  exact hpre.2.2.2,?_⟩
 refine ⟨(p.y,(Fr.ofInt b.2.2)),by
  rfl,by
  trivial,?_⟩
 show Value.bool (decide ((Fr.cmp p.y (Fr.ofInt b.2.2)) < (0:Int)))=Value.bool (inQ b p)
 exact congrArg Value.bool (by unfold inQ;simp_all;try (intros;omega))
def iInBox_con:Con:={ ι:=(V2×V2)×PtD,pre:=fun i=>i.2.has∧bxOk i.1,args:=fun i=>[.agg [.im (.int .i64 i.1.1.1),.im (.int .i64 i.1.1.2),.im (.int .i64 i.1.2.1),.im (.int .i64 i.1.2.2)],.agg [.im (.bool i.2.x.neg),.sl 3 [.int] i.2.x.num,.sl 3 [.int] i.2.x.den,.im (.bool i.2.y.neg),.sl 3 [.int] i.2.y.num,.sl 3 [.int] i.2.y.den]],res:=fun i=>⟨false,[none],[.im (Value.bool (inBoxB i.1 i.2))]⟩ }
theorem iInBox_ok:iInBox_con.Ok Tryz.prog 79:=by
 refine fn_ok (X:=⟨tt,[(104,arePoints_con),(162,inBox_con)],[],13,[]⟩) mixed tt_ok (CTok.cons arePoints_ok (CTok.cons inBox_ok (CTok.nil _))) (InlOk.nil _) Tryz.func79 (by decide) rfl rfl rfl (fun _=>Nat.le_of_ble_eq_true rfl) (fun _=>Nat.le_of_ble_eq_true rfl) (fun _=>[]) ?_
 rintro ⟨b,p⟩ hpre
 have hpre:p.has∧bxOk b:=hpre
 refine by_nf (q:=∃ i1:(List (List Dat)),[DA.one (DC.sl 82 [.bool,.sl 3 [.int],.sl 3 [.int],.bool,.sl 3 [.int],.sl 3 [.int]] ([[Dat.bool p.x.neg,Dat.sl p.x.num,Dat.sl p.x.den,Dat.bool p.y.neg,Dat.sl p.y.num,Dat.sl p.y.den]]:List (List Dat)))]=arePoints_con.args i1∧arePoints_con.pre i1∧(((!(i1.any (fun r=>!(okP (ptOf r)))))=true→(∃ i2:(V2×V2)×Pq,[DA.agg [cI b.1.1,cI b.1.2,cI b.2.1,cI b.2.2],DA.agg [cB p.x.neg,cS p.x.num,cS p.x.den,cB p.y.neg,cS p.y.num,cS p.y.den]]=inBox_con.args i2∧inBox_con.pre i2∧((Value.bool (inQ i2.1 i2.2)=Value.bool (inBoxB b p)))))∧((!(i1.any (fun r=>!(okP (ptOf r)))))=false→((Value.bool false=Value.bool (inBoxB b p)))))) (by kernel_rfl) ?_
 refine ⟨([[Dat.bool p.x.neg,Dat.sl p.x.num,Dat.sl p.x.den,Dat.bool p.y.neg,Dat.sl p.y.num,Dat.sl p.y.den]]:List (List Dat)),by
  rfl,by
  try dsimp only [arePoints_con]
  exact ⟨by show 1≤_;decide,one_has hpre.1⟩,?_⟩
 refine And.symm ⟨fun c4=>?_,fun c4=>?_⟩
 ·try simp only [nrm] at c4
  have q:okP p=false:=by have h:=(any1 p).symm.trans c4;simpa using h
  have hE:inBoxB b p=false:=by unfold inBoxB;rw [q];rfl
  rw [hE]
 try simp only [nrm] at c4
 have q:okP p=true:=by have h:=(any1 p).symm.trans c4;simpa using h
 obtain ⟨e1,e2,e3,e4,e5,e6,e7,e8⟩:=pqR_ok hpre.1 q
 have hE:inBoxB b p=inQ b (pqR p):=by unfold inBoxB;rw [q];rfl
 refine ⟨(b,pqR p),by
  rw [e1,e2,e3,e4,e5,e6];rfl,by
  exact hpre.2,?_⟩
 show Value.bool (inQ b (pqR p))=Value.bool (inBoxB b p)
 rw [hE]
def sRatCmpD_con:Con:={ ι:=RatD×Fr,pre:=fun i=>i.1.has∧i.2.good=true,args:=fun i=>[.agg [.im (.bool i.1.neg),.sl 3 [.int] i.1.num,.sl 3 [.int] i.1.den],.agg [.im (.bool (decide (i.2.z < 0))),.sl 3 [.int] (L i.2.z.natAbs),.sl 3 [.int] (L i.2.d)]],res:=fun i=>⟨false,[none],[.im (Value.int .i64 (cmpD i.1 i.2))]⟩ }
theorem sRatCmpD_ok:sRatCmpD_con.Ok Tryz.prog 93:=by
 refine fn_ok (X:=⟨tt,[(179,sRatOk_con),(180,l04Cmp_con)],[],16,[]⟩) mixed tt_ok (CTok.cons sRatOk_ok (CTok.cons l04Cmp_ok (CTok.nil _))) (InlOk.nil _) Tryz.func93 (by decide) rfl rfl rfl (fun _=>Nat.le_of_ble_eq_true rfl) (fun _=>Nat.le_of_ble_eq_true rfl) (fun _=>[]) ?_
 rintro ⟨r,s⟩ hpre
 have hpre:r.has∧s.good=true:=hpre
 refine by_nf (q:=∃ i1:Bool×(List (List Dat))×(List (List Dat))×Bool,[DA.agg [cB r.neg,cS r.num,cS r.den]]=sRatOk_con.args i1∧sRatOk_con.pre i1∧(((!(!i1.2.2.2))=true→(∃ i2:Bool×(List (List Dat))×(List (List Dat))×Bool,[dF s]=sRatOk_con.args i2∧sRatOk_con.pre i2∧(((!i2.2.2.2)=true→((Value.int .i64 (0:Int)=Value.int .i64 (cmpD r s))))∧((!i2.2.2.2)=false→(∃ i3:Fr×Fr,[DA.agg [cB r.neg,cS r.num,cS r.den],dF s]=l04Cmp_con.args i3∧l04Cmp_con.pre i3∧((Value.int .i64 (Fr.cmp i3.1 i3.2)=Value.int .i64 (cmpD r s))))))))∧((!(!i1.2.2.2))=false→((Value.int .i64 (0:Int)=Value.int .i64 (cmpD r s)))))) (by kernel_rfl) ?_
 have h3:=s.nlz
 have h4:=s.nld
 have ls:=L_len s.d
 have lw:=L_len s.z.natAbs
 refine ⟨(r.neg,r.num,r.den,(ratOkR r.neg r.num r.den)),by
  rfl,by
  try dsimp only [sRatOk_con]
  exact ⟨hpre.1.1,hpre.1.2,len_has hpre.1.1,len_has hpre.1.2,rfl⟩,?_⟩
 refine And.symm ⟨fun c4=>?_,fun c4=>?_⟩
 ·replace c4:(!(!(ratOkR r.neg r.num r.den)))=false:=c4
  try simp only [nrm] at c4
  have hE:=cmpD_no (s:=s) c4
  rw [hE]
 replace c4:(!(!(ratOkR r.neg r.num r.den)))=true:=c4
 try simp only [nrm] at c4
 have q:=frR_ok hpre.1 c4
 have hE:=cmpD_yes (s:=s) c4
 refine ⟨(decide (s.z < 0),(L s.z.natAbs),(L s.d),s.good),by
  rfl,by
  try dsimp only [sRatOk_con]
  exact ⟨L_has _ (by omega),L_has _ (by omega),by omega,by omega,ratOkR_zd _⟩,?_⟩
 refine ⟨fun c8=>?_,fun c8=>?_⟩
 ·replace c8:(!s.good)=true:=c8
  try simp only [nrm] at c8
  rw [hpre.2] at c8
  cases c8 -- done
 replace c8:(!s.good)=false:=c8
 try simp only [nrm] at c8
 refine ⟨(frR r,s),by
  rw [q.1,q.2.1,q.2.2.1];rfl,by
  show (frR r).d≠0∧s.d≠0
  exact ⟨q.2.2.2,good_d c8⟩,?_⟩
 show Value.int .i64 (Fr.cmp (frR r) s)=Value.int .i64 (cmpD r s)
 rw [hE]
def sInBox_con:Con:={ ι:=(V2×V2)×PtD,pre:=fun i=>i.2.has∧bxOk i.1,args:=fun i=>[.agg [.im (.int .i64 i.1.1.1),.im (.int .i64 i.1.1.2),.im (.int .i64 i.1.2.1),.im (.int .i64 i.1.2.2)],.agg [.im (.bool i.2.x.neg),.sl 3 [.int] i.2.x.num,.sl 3 [.int] i.2.x.den,.im (.bool i.2.y.neg),.sl 3 [.int] i.2.y.num,.sl 3 [.int] i.2.y.den]],res:=fun i=>⟨false,[none],[.im (Value.bool (inBoxB i.1 i.2))]⟩ }
theorem sInBox_ok:sInBox_con.Ok Tryz.prog 156:=by
 refine fn_ok (X:=⟨tt,[(89,sRatFromInt_con),(93,sRatCmpD_con)],[],45,[]⟩) mixed tt_ok (CTok.cons sRatFromInt_ok (CTok.cons sRatCmpD_ok (CTok.nil _))) (InlOk.nil _) Tryz.func156 (by decide) rfl rfl rfl (fun _=>Nat.le_of_ble_eq_true rfl) (fun _=>Nat.le_of_ble_eq_true rfl) (fun _=>[]) ?_
 rintro ⟨b,p⟩ hpre
 have hpre:p.has∧bxOk b:=hpre
 refine by_nf (q:=∃ i1:Int,[DA.one (cI b.1.1)]=sRatFromInt_con.args i1∧sRatFromInt_con.pre i1∧(∃ i2:RatD×Fr,[DA.agg [cB p.x.neg,cS p.x.num,cS p.x.den],dF (Fr.ofInt i1)]=sRatCmpD_con.args i2∧sRatCmpD_con.pre i2∧(((decide ((cmpD i2.1 i2.2) > (0:Int)))=true→(∃ i3:Int,[DA.one (cI b.2.1)]=sRatFromInt_con.args i3∧sRatFromInt_con.pre i3∧(∃ i4:RatD×Fr,[DA.agg [cB p.x.neg,cS p.x.num,cS p.x.den],dF (Fr.ofInt i3)]=sRatCmpD_con.args i4∧sRatCmpD_con.pre i4∧(((decide ((cmpD i4.1 i4.2) < (0:Int)))=true→(∃ i5:Int,[DA.one (cI b.1.2)]=sRatFromInt_con.args i5∧sRatFromInt_con.pre i5∧(∃ i6:RatD×Fr,[DA.agg [cB p.y.neg,cS p.y.num,cS p.y.den],dF (Fr.ofInt i5)]=sRatCmpD_con.args i6∧sRatCmpD_con.pre i6∧(((decide ((cmpD i6.1 i6.2) > (0:Int)))=true→(∃ i7:Int,[DA.one (cI b.2.2)]=sRatFromInt_con.args i7∧sRatFromInt_con.pre i7∧(∃ i8:RatD×Fr,[DA.agg [cB p.y.neg,cS p.y.num,cS p.y.den],dF (Fr.ofInt i7)]=sRatCmpD_con.args i8∧sRatCmpD_con.pre i8∧((Value.bool (decide ((cmpD i8.1 i8.2) < (0:Int)))=Value.bool (inBoxB b p))))))∧((decide ((cmpD i6.1 i6.2) > (0:Int)))=false→((Value.bool false=Value.bool (inBoxB b p))))))))∧((decide ((cmpD i4.1 i4.2) < (0:Int)))=false→((Value.bool false=Value.bool (inBoxB b p))))))))∧((decide ((cmpD i2.1 i2.2) > (0:Int)))=false→((Value.bool false=Value.bool (inBoxB b p))))))) (by kernel_rfl) ?_
 have hE:=inD_eq b p
 refine ⟨b.1.1,by
  rfl,by
  exact hpre.2.1,?_⟩
 refine ⟨(p.x,(Fr.ofInt b.1.1)),by
  rfl,by
  show p.x.has∧(Fr.ofInt b.1.1).good=true
  exact ⟨hpre.1.1,ofI_good hpre.2.1⟩,?_⟩
 refine And.symm ⟨fun c7=>?_,fun c7=>?_⟩
 ·replace c7:(decide ((cmpD p.x (Fr.ofInt b.1.1)) > (0:Int)))=false:=c7
  try simp only [nrm] at c7
  rw [← hE];exact congrArg Value.bool (by unfold inD;simp_all;try (intros;omega))
 replace c7:(decide ((cmpD p.x (Fr.ofInt b.1.1)) > (0:Int)))=true:=c7
 try simp only [nrm] at c7
 refine ⟨b.2.1,by
  rfl,by
  exact hpre.2.2.2.1,?_⟩
 refine ⟨(p.x,(Fr.ofInt b.2.1)),by
  rfl,by
  show p.x.has∧(Fr.ofInt b.2.1).good=true
  exact ⟨hpre.1.1,ofI_good hpre.2.2.2.1⟩,?_⟩
 refine And.symm ⟨fun c14=>?_,fun c14=>?_⟩
 ·replace c14:(decide ((cmpD p.x (Fr.ofInt b.2.1)) < (0:Int)))=false:=c14
  try simp only [nrm] at c14
  rw [← hE];exact congrArg Value.bool (by unfold inD;simp_all;try (intros;omega))
 replace c14:(decide ((cmpD p.x (Fr.ofInt b.2.1)) < (0:Int)))=true:=c14
 try simp only [nrm] at c14
 refine ⟨b.1.2,by
  rfl,by
  exact hpre.2.2.1,?_⟩
 refine ⟨(p.y,(Fr.ofInt b.1.2)),by
  rfl,by
  show p.y.has∧(Fr.ofInt b.1.2).good=true
  exact ⟨hpre.1.2,ofI_good hpre.2.2.1⟩,?_⟩
 refine And.symm ⟨fun c21=>?_,fun c21=>?_⟩
 ·replace c21:(decide ((cmpD p.y (Fr.ofInt b.1.2)) > (0:Int)))=false:=c21
  try simp only [nrm] at c21
  rw [← hE];exact congrArg Value.bool (by unfold inD;simp_all;try (intros;omega))
 replace c21:(decide ((cmpD p.y (Fr.ofInt b.1.2)) > (0:Int)))=true:=c21
 try simp only [nrm] at c21
 refine ⟨b.2.2,by
  rfl,by
  exact hpre.2.2.2.2,?_⟩
 refine ⟨(p.y,(Fr.ofInt b.2.2)),by
  rfl,by
  show p.y.has∧(Fr.ofInt b.2.2).good=true
  exact ⟨hpre.1.2,ofI_good hpre.2.2.2.2⟩,?_⟩
 show Value.bool (decide ((cmpD p.y (Fr.ofInt b.2.2)) < (0:Int)))=Value.bool (inBoxB b p)
 rw [← hE];exact congrArg Value.bool (by unfold inD;simp_all;try (intros;omega))
def fp1_con:Con:={ ι:=(List V2)×PtD,pre:=fun i=>i.2.has,args:=fun i=>[.one (.sl 37 [.int,.int] (vecsD i.1)),.one (.ro (.ptr [.im (Value.bool i.2.x.neg),.sl 3 [.int] i.2.x.num,.sl 3 [.int] i.2.x.den,.im (Value.bool i.2.y.neg),.sl 3 [.int] i.2.y.num,.sl 3 [.int] i.2.y.den]))],res:=fun i=>⟨false,[none],[.im (Value.bool (decide (0≤cpZ i.1 i.2)))]⟩ }
theorem fp1_ok:fp1_con.Ok Tryz.prog 81:=by
 refine fn_ok (X:=⟨tt,[(82,iContains_con)],[],8,[]⟩) mixed tt_ok (CTok.cons iContains_ok (CTok.nil _)) (InlOk.nil _) Tryz.func81 (by decide) rfl rfl rfl (fun _=>Nat.le_of_ble_eq_true rfl) (fun _=>Nat.le_of_ble_eq_true rfl) (fun _=>[]) ?_
 rintro ⟨l,p⟩ hpre
 have hpre:p.has:=hpre
 refine by_nf (q:=∃ i1:(List V2)×PtD,[DA.one (DC.sl 37 [.int,.int] (vecsD l)),DA.agg [cB p.x.neg,cS p.x.num,cS p.x.den,cB p.y.neg,cS p.y.num,cS p.y.den]]=iContains_con.args i1∧iContains_con.pre i1∧((Value.bool (decide ((cpZ i1.1 i1.2)≥(0:Int)))=Value.bool (decide (0≤cpZ l p))))) (by kernel_rfl) ?_
 refine ⟨(l,p),by
  rfl,by
  show p.has
  trivial,?_⟩
 show Value.bool (decide ((cpZ l p)≥(0:Int)))=Value.bool (decide (0≤cpZ l p))
 rfl
def fp2_con:Con:={ ι:=(List V2)×(List (List Dat))×Nat,pre:=fun i=>0 < i.2.2∧i.2.2 < i.2.1.length∧i.2.1.length≤1048576∧(∀ j,j < i.2.1.length→(ptOf (i.2.1.getD j [])).has),args:=fun i=>[.one (.sl 37 [.int,.int] (vecsD i.1)),.one (.ro (.ptr [.sl 82 [.bool,.sl 3 [.int],.sl 3 [.int],.bool,.sl 3 [.int],.sl 3 [.int]] i.2.1])),.one (.ro (.ptr [.im (Value.int .i64 ((i.2.2:Nat):Int))])),.one (.ro (.ptr [.im (Value.bool ((ptOf (i.2.1.getD i.2.2 [])).x.neg)),.sl 3 [.int] ((ptOf (i.2.1.getD i.2.2 [])).x.num),.sl 3 [.int] ((ptOf (i.2.1.getD i.2.2 [])).x.den),.im (Value.bool ((ptOf (i.2.1.getD i.2.2 [])).y.neg)),.sl 3 [.int] ((ptOf (i.2.1.getD i.2.2 [])).y.num),.sl 3 [.int] ((ptOf (i.2.1.getD i.2.2 [])).y.den)]))],res:=fun i=>⟨false,[none],[.im (Value.bool (smZ i.1 (ptOf (i.2.1.getD (i.2.2 - 1) [])) (ptOf (i.2.1.getD i.2.2 []))))]⟩ }
theorem fp2_ok:fp2_con.Ok Tryz.prog 83:=by
 refine fn_ok (X:=⟨tt,[(84,iSegMeets_con)],[],14,[]⟩) mixed tt_ok (CTok.cons iSegMeets_ok (CTok.nil _)) (InlOk.nil _) Tryz.func83 (by decide) rfl rfl rfl (fun _=>Nat.le_of_ble_eq_true rfl) (fun _=>Nat.le_of_ble_eq_true rfl) (fun _=>[]) ?_
 rintro ⟨l,m,k⟩ hpre
 have hpre:0 < k∧k < m.length∧m.length≤1048576∧(∀ j,j < m.length→(ptOf (m.getD j [])).has):=hpre
 refine by_nf (q:=(0≤(IntKind.i64.wrap (((k:Nat):Int) - (1:Int)))∧(IntKind.i64.wrap (((k:Nat):Int) - (1:Int))) < (m.length:Int))∧(((IntKind.i64.wrap (((k:Nat):Int) - (1:Int))).toNat < m.length)∧(∃ i1:(List V2)×PtD×PtD,[DA.one (DC.sl 37 [.int,.int] (vecsD l)),DA.agg [cB ((((m.getD ((IntKind.i64.wrap (((k:Nat):Int) - (1:Int))).toNat) []).getD 0 (.int 0))).b),cS ((((m.getD ((IntKind.i64.wrap (((k:Nat):Int) - (1:Int))).toNat) []).getD 1 (.int 0))).r),cS ((((m.getD ((IntKind.i64.wrap (((k:Nat):Int) - (1:Int))).toNat) []).getD 2 (.int 0))).r),cB ((((m.getD ((IntKind.i64.wrap (((k:Nat):Int) - (1:Int))).toNat) []).getD 3 (.int 0))).b),cS ((((m.getD ((IntKind.i64.wrap (((k:Nat):Int) - (1:Int))).toNat) []).getD 4 (.int 0))).r),cS ((((m.getD ((IntKind.i64.wrap (((k:Nat):Int) - (1:Int))).toNat) []).getD 5 (.int 0))).r)],DA.agg [cB ((ptOf (m.getD k [])).x.neg),cS ((ptOf (m.getD k [])).x.num),cS ((ptOf (m.getD k [])).x.den),cB ((ptOf (m.getD k [])).y.neg),cS ((ptOf (m.getD k [])).y.num),cS ((ptOf (m.getD k [])).y.den)]]=iSegMeets_con.args i1∧iSegMeets_con.pre i1∧((Value.bool (smZ i1.1 i1.2.1 i1.2.2)=Value.bool (smZ l (ptOf (m.getD (k - 1) [])) (ptOf (m.getD k [])))))))) (by kernel_rfl) ?_
 obtain ⟨k0,k1,k2,hp⟩:=hpre
 have hw:IntKind.i64.wrap (((k:Nat):Int) - (1:Int))=((k - 1:Nat):Int):=by rw [wrap64 (by omega) (by omega)];omega
 have hn:(IntKind.i64.wrap (((k:Nat):Int) - (1:Int))).toNat=k - 1:=by rw [hw];exact Int.toNat_natCast _
 have o1:0≤(IntKind.i64.wrap (((k:Nat):Int) - (1:Int)))∧(IntKind.i64.wrap (((k:Nat):Int) - (1:Int))) < (m.length:Int):=by
  omega
 refine ⟨o1,?_⟩
 have o2:(IntKind.i64.wrap (((k:Nat):Int) - (1:Int))).toNat < m.length:=by
  omega
 refine ⟨o2,?_⟩
 refine ⟨(l,(ptOf (m.getD (k - 1) [])),(ptOf (m.getD k []))),by
  rw [hn];rfl,by
  show (ptOf (m.getD (k - 1) [])).has∧(ptOf (m.getD k [])).has
  exact ⟨hp _ (by omega),hp _ (by omega)⟩,?_⟩
 exact rfl
def fpAny_idx_con:Con:={ ι:=(List (List V2))×PtD,pre:=fun i=>i.1.length≤9223372036854775807∧i.2.has,args:=fun i=>[.one (.sl 74 [.sl 37 [.int,.int]] (areasD i.1)),.one (.ro (.fn 81 [[.im (Value.bool i.2.x.neg),.sl 3 [.int] i.2.x.num,.sl 3 [.int] i.2.x.den,.im (Value.bool i.2.y.neg),.sl 3 [.int] i.2.y.num,.sl 3 [.int] i.2.y.den]]))],tag:=82,res:=fun i=>⟨false,[none],[.im (Value.int .i64 (idxG (fun z=>decide (0≤cpZ z i.2)) i.1))]⟩ }
theorem fpAny_idx_ok:fpAny_idx_con.Ok Tryz.prog 163:=by
 refine fn_ok (X:=⟨tt,[(81,fp1_con)],[],19,[]⟩) mixed tt_ok (CTok.cons fp1_ok (CTok.nil _)) (InlOk.nil _) Tryz.func163 (by decide) rfl rfl rfl (fun _=>Nat.le_of_ble_eq_true rfl) (fun _=>Nat.le_of_ble_eq_true rfl) (fun (i:(List (List V2))×PtD)=>[(2,.mk 3 (Nat) (fun x1=>{ tm:=[(0,.one (.one (.ext 1))),(1,.one (.one (.ext 2))),(7,.one (.one (.im (Value.int .i64 (((areasD i.1).length:Nat):Int))))),(8,.one (.one (.im (Value.int .i64 ((x1:Nat):Int)))))],en:=[(1,.view 74 [.sl 37 [.int,.int]] (areasD i.1) []),(2,.ro (.fn 81 [[.im (Value.bool i.2.x.neg),.sl 3 [.int] i.2.x.num,.sl 3 [.int] i.2.x.den,.im (Value.bool i.2.y.neg),.sl 3 [.int] i.2.y.num,.sl 3 [.int] i.2.y.den]]) [])] }) (fun x1=>x1≤i.1.length∧∀ j,j < x1→(fun z=>decide (0≤cpZ z i.2)) (i.1.getD j [])=false) (fun x1=>i.1.length - x1) (fun _=>[]))]) ?_
 rintro ⟨ar,p⟩ hpre
 have hpre:ar.length≤9223372036854775807∧p.has:=hpre
 refine by_nf (q:=(∃ x1:Nat,(x1≤ar.length∧∀ j,j < x1→(fun z=>decide (0≤cpZ z p)) (ar.getD j [])=false)∧((rf (Value.int .i64 (((areasD ar).length:Nat):Int)))∧(Value.int .i64 (0:Int)=Value.int .i64 ((x1:Nat):Int))∧(rf (areasD ar))∧((.fn 81 [[.im (Value.bool p.x.neg),.sl 3 [.int] p.x.num,.sl 3 [.int] p.x.den,.im (Value.bool p.y.neg),.sl 3 [.int] p.y.num,.sl 3 [.int] p.y.den]]:RO)=.fn 81 [[.im (Value.bool p.x.neg),.sl 3 [.int] p.x.num,.sl 3 [.int] p.x.den,.im (Value.bool p.y.neg),.sl 3 [.int] p.y.num,.sl 3 [.int] p.y.den]])))∧∀ x1:Nat,(x1≤ar.length∧∀ j,j < x1→(fun z=>decide (0≤cpZ z p)) (ar.getD j [])=false)→(((decide (((x1:Nat):Int) < (((areasD ar).length:Nat):Int)))=true→((0≤((x1:Nat):Int)∧((x1:Nat):Int) < ((areasD ar).length:Int))∧((x1 < (areasD ar).length)∧(∃ i1:(List V2)×PtD,[DA.one (DC.sl 37 [.int,.int] (((((areasD ar).getD x1 []).getD 0 (.int 0))).r)),DA.one (DC.ro (.ptr [.im (Value.bool p.x.neg),.sl 3 [.int] p.x.num,.sl 3 [.int] p.x.den,.im (Value.bool p.y.neg),.sl 3 [.int] p.y.num,.sl 3 [.int] p.y.den]))]=fp1_con.args i1∧fp1_con.pre i1∧(((decide (0≤cpZ i1.1 i1.2))=true→((Value.int .i64 ((x1:Nat):Int)=Value.int .i64 (idxG (fun z=>decide (0≤cpZ z p)) ar))))∧((decide (0≤cpZ i1.1 i1.2))=false→(∃ y2:Nat,(y2≤ar.length∧∀ j,j < y2→(fun z=>decide (0≤cpZ z p)) (ar.getD j [])=false)∧(ar.length - y2 < ar.length - x1)∧((rf (Value.int .i64 (((areasD ar).length:Nat):Int)))∧(Value.int .i64 (IntKind.i64.wrap (((x1:Nat):Int)+(1:Int)))=Value.int .i64 ((y2:Nat):Int))∧(rf (areasD ar))∧((.fn 81 [[.im (Value.bool p.x.neg),.sl 3 [.int] p.x.num,.sl 3 [.int] p.x.den,.im (Value.bool p.y.neg),.sl 3 [.int] p.y.num,.sl 3 [.int] p.y.den]]:RO)=.fn 81 [[.im (Value.bool p.x.neg),.sl 3 [.int] p.x.num,.sl 3 [.int] p.x.den,.im (Value.bool p.y.neg),.sl 3 [.int] p.y.num,.sl 3 [.int] p.y.den]])))))))))∧((decide (((x1:Nat):Int) < (((areasD ar).length:Nat):Int)))=false→((Value.int .i64 (-1:Int)=Value.int .i64 (idxG (fun z=>decide (0≤cpZ z p)) ar)))))) (by kernel_rfl) ?_
 have hal:=areasD_length ar
 refine ⟨⟨0,by
  exact ⟨Nat.zero_le _,fun j hj=>absurd hj (Nat.not_lt_zero j)⟩,?_⟩,?_⟩
 ·refine ⟨rfl,?_,rfl,?_⟩
  ·rfl
  rfl
 intro (k:Nat) hki1
 have hki1:k≤ar.length∧∀ j,j < k→(fun z=>decide (0≤cpZ z p)) (ar.getD j [])=false:=hki1
 refine And.symm ⟨fun c7=>?_,fun c7=>?_⟩
 ·try simp only [nrm] at c7
  rw [idxG_none (d:=[]) (fun j hj=>hki1.2 j (by omega))]
 try simp only [nrm] at c7
 have o8:0≤((k:Nat):Int)∧((k:Nat):Int) < ((areasD ar).length:Int):=by
  first|omega
 refine ⟨o8,?_⟩
 have o9:k < (areasD ar).length:=by
  first|omega
 refine ⟨o9,?_⟩
 refine ⟨(ar.getD k [],p),by
  rw [areasD_at (by omega)];rfl,by
  exact hpre.2,?_⟩
 refine ⟨fun c13=>?_,fun c13=>?_⟩
 ·replace c13:(decide (0≤cpZ (ar.getD k []) p))=true:=c13
  try simp only [nrm] at c13
  rw [idxG_at (d:=[]) (by omega) hki1.2 (by simpa using c13)]
 replace c13:(decide (0≤cpZ (ar.getD k []) p))=false:=c13
 try simp only [nrm] at c13
 refine ⟨k+1,by
  exact ⟨by omega,lt_step hki1.2 (by simpa using c13)⟩,by
  omega,?_⟩
 refine ⟨rfl,?_,rfl,?_⟩
 ·exact vint (wrap64 (by omega) (by omega))
 rfl
def fpAny_con:Con:={ ι:=(List (List V2))×PtD,pre:=fun i=>i.1.length≤9223372036854775807∧i.2.has,args:=fun i=>[.one (.sl 74 [.sl 37 [.int,.int]] (areasD i.1)),.one (.ro (.fn 81 [[.im (Value.bool i.2.x.neg),.sl 3 [.int] i.2.x.num,.sl 3 [.int] i.2.x.den,.im (Value.bool i.2.y.neg),.sl 3 [.int] i.2.y.num,.sl 3 [.int] i.2.y.den]]))],tag:=82,res:=fun i=>⟨false,[none],[.im (Value.bool (i.1.any (fun z=>decide (0≤cpZ z i.2))))]⟩ }
theorem fpAny_ok:fpAny_con.Ok Tryz.prog 80:=by
 refine fn_ok (X:=⟨tt,[(163,fpAny_idx_con)],[],9,[]⟩) mixed tt_ok (CTok.cons fpAny_idx_ok (CTok.nil _)) (InlOk.nil _) Tryz.func80 (by decide) rfl rfl rfl (fun _=>Nat.le_of_ble_eq_true rfl) (fun _=>Nat.le_of_ble_eq_true rfl) (fun _=>[]) ?_
 rintro ⟨ar,p⟩ hpre
 have hpre:ar.length≤9223372036854775807∧p.has:=hpre
 refine by_nf (q:=∃ i1:(List (List V2))×PtD,[DA.one (DC.sl 74 [.sl 37 [.int,.int]] (areasD ar)),DA.one (DC.ro (.fn 81 [[.im (Value.bool p.x.neg),.sl 3 [.int] p.x.num,.sl 3 [.int] p.x.den,.im (Value.bool p.y.neg),.sl 3 [.int] p.y.num,.sl 3 [.int] p.y.den]]))]=fpAny_idx_con.args i1∧fpAny_idx_con.pre i1∧((Value.bool (decide ((idxG (fun z=>decide (0≤cpZ z i1.2)) i1.1)≥(0:Int)))=Value.bool (ar.any (fun z=>decide (0≤cpZ z p)))))) (by kernel_rfl) ?_
 refine ⟨(ar,p),by
  rfl,by
  exact hpre,?_⟩
 show Value.bool (decide ((idxG (fun z=>decide (0≤cpZ z p)) ar)≥(0:Int)))=Value.bool (ar.any (fun z=>decide (0≤cpZ z p)))
 exact congrArg Value.bool (idxG_any _ _)
def fpSeg_idx_con:Con:={ ι:=(List (List V2))×(List (List Dat))×Nat,pre:=fun i=>i.1.length≤9223372036854775807∧(0 < i.2.2∧i.2.2 < i.2.1.length∧i.2.1.length≤1048576∧(∀ j,j < i.2.1.length→(ptOf (i.2.1.getD j [])).has)),args:=fun i=>[.one (.sl 74 [.sl 37 [.int,.int]] (areasD i.1)),.one (.ro (.fn 83 [[.sl 82 [.bool,.sl 3 [.int],.sl 3 [.int],.bool,.sl 3 [.int],.sl 3 [.int]] i.2.1],[.im (Value.int .i64 ((i.2.2:Nat):Int))],[.im (Value.bool ((ptOf (i.2.1.getD i.2.2 [])).x.neg)),.sl 3 [.int] ((ptOf (i.2.1.getD i.2.2 [])).x.num),.sl 3 [.int] ((ptOf (i.2.1.getD i.2.2 [])).x.den),.im (Value.bool ((ptOf (i.2.1.getD i.2.2 [])).y.neg)),.sl 3 [.int] ((ptOf (i.2.1.getD i.2.2 [])).y.num),.sl 3 [.int] ((ptOf (i.2.1.getD i.2.2 [])).y.den)]]))],tag:=84,res:=fun i=>⟨false,[none],[.im (Value.int .i64 (idxG (fun z=>smZ z (ptOf (i.2.1.getD (i.2.2 - 1) [])) (ptOf (i.2.1.getD i.2.2 []))) i.1))]⟩ }
theorem fpSeg_idx_ok:fpSeg_idx_con.Ok Tryz.prog 163:=by
 refine fn_ok (X:=⟨tt,[(83,fp2_con)],[],19,[]⟩) mixed tt_ok (CTok.cons fp2_ok (CTok.nil _)) (InlOk.nil _) Tryz.func163 (by decide) rfl rfl rfl (fun _=>Nat.le_of_ble_eq_true rfl) (fun _=>Nat.le_of_ble_eq_true rfl) (fun (i:(List (List V2))×(List (List Dat))×Nat)=>[(2,.mk 3 (Nat) (fun x1=>{ tm:=[(0,.one (.one (.ext 1))),(1,.one (.one (.ext 2))),(7,.one (.one (.im (Value.int .i64 (((areasD i.1).length:Nat):Int))))),(8,.one (.one (.im (Value.int .i64 ((x1:Nat):Int)))))],en:=[(1,.view 74 [.sl 37 [.int,.int]] (areasD i.1) []),(2,.ro (.fn 83 [[.sl 82 [.bool,.sl 3 [.int],.sl 3 [.int],.bool,.sl 3 [.int],.sl 3 [.int]] i.2.1],[.im (Value.int .i64 ((i.2.2:Nat):Int))],[.im (Value.bool ((ptOf (i.2.1.getD i.2.2 [])).x.neg)),.sl 3 [.int] ((ptOf (i.2.1.getD i.2.2 [])).x.num),.sl 3 [.int] ((ptOf (i.2.1.getD i.2.2 [])).x.den),.im (Value.bool ((ptOf (i.2.1.getD i.2.2 [])).y.neg)),.sl 3 [.int] ((ptOf (i.2.1.getD i.2.2 [])).y.num),.sl 3 [.int] ((ptOf (i.2.1.getD i.2.2 [])).y.den)]]) [])] }) (fun x1=>x1≤i.1.length∧∀ j,j < x1→(fun z=>smZ z (ptOf (i.2.1.getD (i.2.2 - 1) [])) (ptOf (i.2.1.getD i.2.2 []))) (i.1.getD j [])=false) (fun x1=>i.1.length - x1) (fun _=>[]))]) ?_
 rintro ⟨ar,m,q⟩ hpre
 have hpre:ar.length≤9223372036854775807∧(0 < q∧q < m.length∧m.length≤1048576∧(∀ j,j < m.length→(ptOf (m.getD j [])).has)):=hpre
 refine by_nf (q:=(∃ x1:Nat,(x1≤ar.length∧∀ j,j < x1→(fun z=>smZ z (ptOf (m.getD (q - 1) [])) (ptOf (m.getD q []))) (ar.getD j [])=false)∧((rf (Value.int .i64 (((areasD ar).length:Nat):Int)))∧(Value.int .i64 (0:Int)=Value.int .i64 ((x1:Nat):Int))∧(rf (areasD ar))∧((.fn 83 [[.sl 82 [.bool,.sl 3 [.int],.sl 3 [.int],.bool,.sl 3 [.int],.sl 3 [.int]] m],[.im (Value.int .i64 ((q:Nat):Int))],[.im (Value.bool ((ptOf (m.getD q [])).x.neg)),.sl 3 [.int] ((ptOf (m.getD q [])).x.num),.sl 3 [.int] ((ptOf (m.getD q [])).x.den),.im (Value.bool ((ptOf (m.getD q [])).y.neg)),.sl 3 [.int] ((ptOf (m.getD q [])).y.num),.sl 3 [.int] ((ptOf (m.getD q [])).y.den)]]:RO)=.fn 83 [[.sl 82 [.bool,.sl 3 [.int],.sl 3 [.int],.bool,.sl 3 [.int],.sl 3 [.int]] m],[.im (Value.int .i64 ((q:Nat):Int))],[.im (Value.bool ((ptOf (m.getD q [])).x.neg)),.sl 3 [.int] ((ptOf (m.getD q [])).x.num),.sl 3 [.int] ((ptOf (m.getD q [])).x.den),.im (Value.bool ((ptOf (m.getD q [])).y.neg)),.sl 3 [.int] ((ptOf (m.getD q [])).y.num),.sl 3 [.int] ((ptOf (m.getD q [])).y.den)]])))∧∀ x1:Nat,(x1≤ar.length∧∀ j,j < x1→(fun z=>smZ z (ptOf (m.getD (q - 1) [])) (ptOf (m.getD q []))) (ar.getD j [])=false)→(((decide (((x1:Nat):Int) < (((areasD ar).length:Nat):Int)))=true→((0≤((x1:Nat):Int)∧((x1:Nat):Int) < ((areasD ar).length:Int))∧((x1 < (areasD ar).length)∧(∃ i1:(List V2)×(List (List Dat))×Nat,[DA.one (DC.sl 37 [.int,.int] (((((areasD ar).getD x1 []).getD 0 (.int 0))).r)),DA.one (DC.ro (.ptr [.sl 82 [.bool,.sl 3 [.int],.sl 3 [.int],.bool,.sl 3 [.int],.sl 3 [.int]] m])),DA.one (DC.ro (.ptr [.im (Value.int .i64 ((q:Nat):Int))])),DA.one (DC.ro (.ptr [.im (Value.bool ((ptOf (m.getD q [])).x.neg)),.sl 3 [.int] ((ptOf (m.getD q [])).x.num),.sl 3 [.int] ((ptOf (m.getD q [])).x.den),.im (Value.bool ((ptOf (m.getD q [])).y.neg)),.sl 3 [.int] ((ptOf (m.getD q [])).y.num),.sl 3 [.int] ((ptOf (m.getD q [])).y.den)]))]=fp2_con.args i1∧fp2_con.pre i1∧(((smZ i1.1 (ptOf (i1.2.1.getD (i1.2.2 - 1) [])) (ptOf (i1.2.1.getD i1.2.2 [])))=true→((Value.int .i64 ((x1:Nat):Int)=Value.int .i64 (idxG (fun z=>smZ z (ptOf (m.getD (q - 1) [])) (ptOf (m.getD q []))) ar))))∧((smZ i1.1 (ptOf (i1.2.1.getD (i1.2.2 - 1) [])) (ptOf (i1.2.1.getD i1.2.2 [])))=false→(∃ y2:Nat,(y2≤ar.length∧∀ j,j < y2→(fun z=>smZ z (ptOf (m.getD (q - 1) [])) (ptOf (m.getD q []))) (ar.getD j [])=false)∧(ar.length - y2 < ar.length - x1)∧((rf (Value.int .i64 (((areasD ar).length:Nat):Int)))∧(Value.int .i64 (IntKind.i64.wrap (((x1:Nat):Int)+(1:Int)))=Value.int .i64 ((y2:Nat):Int))∧(rf (areasD ar))∧((.fn 83 [[.sl 82 [.bool,.sl 3 [.int],.sl 3 [.int],.bool,.sl 3 [.int],.sl 3 [.int]] m],[.im (Value.int .i64 ((q:Nat):Int))],[.im (Value.bool ((ptOf (m.getD q [])).x.neg)),.sl 3 [.int] ((ptOf (m.getD q [])).x.num),.sl 3 [.int] ((ptOf (m.getD q [])).x.den),.im (Value.bool ((ptOf (m.getD q [])).y.neg)),.sl 3 [.int] ((ptOf (m.getD q [])).y.num),.sl 3 [.int] ((ptOf (m.getD q [])).y.den)]]:RO)=.fn 83 [[.sl 82 [.bool,.sl 3 [.int],.sl 3 [.int],.bool,.sl 3 [.int],.sl 3 [.int]] m],[.im (Value.int .i64 ((q:Nat):Int))],[.im (Value.bool ((ptOf (m.getD q [])).x.neg)),.sl 3 [.int] ((ptOf (m.getD q [])).x.num),.sl 3 [.int] ((ptOf (m.getD q [])).x.den),.im (Value.bool ((ptOf (m.getD q [])).y.neg)),.sl 3 [.int] ((ptOf (m.getD q [])).y.num),.sl 3 [.int] ((ptOf (m.getD q [])).y.den)]])))))))))∧((decide (((x1:Nat):Int) < (((areasD ar).length:Nat):Int)))=false→((Value.int .i64 (-1:Int)=Value.int .i64 (idxG (fun z=>smZ z (ptOf (m.getD (q - 1) [])) (ptOf (m.getD q []))) ar)))))) (by kernel_rfl) ?_
 have hal:=areasD_length ar
 refine ⟨⟨0,by
  exact ⟨Nat.zero_le _,fun j hj=>absurd hj (Nat.not_lt_zero j)⟩,?_⟩,?_⟩
 ·refine ⟨rfl,?_,rfl,?_⟩
  ·rfl
  rfl
 intro (k:Nat) hki1
 have hki1:k≤ar.length∧∀ j,j < k→(fun z=>smZ z (ptOf (m.getD (q - 1) [])) (ptOf (m.getD q []))) (ar.getD j [])=false:=hki1
 refine And.symm ⟨fun c7=>?_,fun c7=>?_⟩
 ·try simp only [nrm] at c7
  rw [idxG_none (d:=[]) (fun j hj=>hki1.2 j (by omega))]
 try simp only [nrm] at c7
 have o8:0≤((k:Nat):Int)∧((k:Nat):Int) < ((areasD ar).length:Int):=by
  first|omega
 refine ⟨o8,?_⟩
 have o9:k < (areasD ar).length:=by
  first|omega
 refine ⟨o9,?_⟩
 refine ⟨(ar.getD k [],m,q),by
  rw [areasD_at (by omega)];rfl,by
  exact hpre.2,?_⟩
 refine ⟨fun c13=>?_,fun c13=>?_⟩
 ·replace c13:(smZ (ar.getD k []) (ptOf (m.getD (q - 1) [])) (ptOf (m.getD q [])))=true:=c13
  try simp only [nrm] at c13
  rw [idxG_at (d:=[]) (by omega) hki1.2 (by simpa using c13)]
 replace c13:(smZ (ar.getD k []) (ptOf (m.getD (q - 1) [])) (ptOf (m.getD q [])))=false:=c13
 try simp only [nrm] at c13
 refine ⟨k+1,by
  exact ⟨by omega,lt_step hki1.2 (by simpa using c13)⟩,by
  omega,?_⟩
 refine ⟨rfl,?_,rfl,?_⟩
 ·exact vint (wrap64 (by omega) (by omega))
 rfl
def fpSeg_con:Con:={ ι:=(List (List V2))×(List (List Dat))×Nat,pre:=fun i=>i.1.length≤9223372036854775807∧(0 < i.2.2∧i.2.2 < i.2.1.length∧i.2.1.length≤1048576∧(∀ j,j < i.2.1.length→(ptOf (i.2.1.getD j [])).has)),args:=fun i=>[.one (.sl 74 [.sl 37 [.int,.int]] (areasD i.1)),.one (.ro (.fn 83 [[.sl 82 [.bool,.sl 3 [.int],.sl 3 [.int],.bool,.sl 3 [.int],.sl 3 [.int]] i.2.1],[.im (Value.int .i64 ((i.2.2:Nat):Int))],[.im (Value.bool ((ptOf (i.2.1.getD i.2.2 [])).x.neg)),.sl 3 [.int] ((ptOf (i.2.1.getD i.2.2 [])).x.num),.sl 3 [.int] ((ptOf (i.2.1.getD i.2.2 [])).x.den),.im (Value.bool ((ptOf (i.2.1.getD i.2.2 [])).y.neg)),.sl 3 [.int] ((ptOf (i.2.1.getD i.2.2 [])).y.num),.sl 3 [.int] ((ptOf (i.2.1.getD i.2.2 [])).y.den)]]))],tag:=84,res:=fun i=>⟨false,[none],[.im (Value.bool (i.1.any (fun z=>smZ z (ptOf (i.2.1.getD (i.2.2 - 1) [])) (ptOf (i.2.1.getD i.2.2 [])))))]⟩ }
theorem fpSeg_ok:fpSeg_con.Ok Tryz.prog 80:=by
 refine fn_ok (X:=⟨tt,[(163,fpSeg_idx_con)],[],9,[]⟩) mixed tt_ok (CTok.cons fpSeg_idx_ok (CTok.nil _)) (InlOk.nil _) Tryz.func80 (by decide) rfl rfl rfl (fun _=>Nat.le_of_ble_eq_true rfl) (fun _=>Nat.le_of_ble_eq_true rfl) (fun _=>[]) ?_
 rintro ⟨ar,m,q⟩ hpre
 have hpre:ar.length≤9223372036854775807∧(0 < q∧q < m.length∧m.length≤1048576∧(∀ j,j < m.length→(ptOf (m.getD j [])).has)):=hpre
 refine by_nf (q:=∃ i1:(List (List V2))×(List (List Dat))×Nat,[DA.one (DC.sl 74 [.sl 37 [.int,.int]] (areasD ar)),DA.one (DC.ro (.fn 83 [[.sl 82 [.bool,.sl 3 [.int],.sl 3 [.int],.bool,.sl 3 [.int],.sl 3 [.int]] m],[.im (Value.int .i64 ((q:Nat):Int))],[.im (Value.bool ((ptOf (m.getD q [])).x.neg)),.sl 3 [.int] ((ptOf (m.getD q [])).x.num),.sl 3 [.int] ((ptOf (m.getD q [])).x.den),.im (Value.bool ((ptOf (m.getD q [])).y.neg)),.sl 3 [.int] ((ptOf (m.getD q [])).y.num),.sl 3 [.int] ((ptOf (m.getD q [])).y.den)]]))]=fpSeg_idx_con.args i1∧fpSeg_idx_con.pre i1∧((Value.bool (decide ((idxG (fun z=>smZ z (ptOf (i1.2.1.getD (i1.2.2 - 1) [])) (ptOf (i1.2.1.getD i1.2.2 []))) i1.1)≥(0:Int)))=Value.bool (ar.any (fun z=>smZ z (ptOf (m.getD (q - 1) [])) (ptOf (m.getD q []))))))) (by kernel_rfl) ?_
 refine ⟨(ar,m,q),by
  rfl,by
  exact hpre,?_⟩
 show Value.bool (decide ((idxG (fun z=>smZ z (ptOf (m.getD (q - 1) [])) (ptOf (m.getD q []))) ar)≥(0:Int)))=Value.bool (ar.any (fun z=>smZ z (ptOf (m.getD (q - 1) [])) (ptOf (m.getD q []))))
 exact congrArg Value.bool (idxG_any _ _)
def iFreePath_con:Con:={ ι:=(List Dat)×(List (List V2))×(List (List Dat)),pre:=fun i=>i.2.2.length≤1048576∧i.2.1.length≤1048576∧(∀ j,j < i.2.2.length→(ptOf (i.2.2.getD j [])).has)∧bxOk (bxR i.1),args:=fun i=>[.agg [.im (.int .i64 ((i.1.getD 0 (.int 0)).n)),.im (.bool ((i.1.getD 1 (.int 0)).b)),.im (.int .i64 ((i.1.getD 2 (.int 0)).n)),.im (.int .i64 ((i.1.getD 3 (.int 0)).n)),.im (.int .i64 ((i.1.getD 4 (.int 0)).n)),.im (.int .i64 ((i.1.getD 5 (.int 0)).n)),.sl 74 [.sl 37 [.int,.int]] (areasD i.2.1),.sl 190 [.bool,.sl 3 [.int],.sl 3 [.int],.bool,.sl 3 [.int],.sl 3 [.int],.bool,.sl 3 [.int],.sl 3 [.int],.bool,.sl 3 [.int],.sl 3 [.int],.bool,.sl 3 [.int],.sl 3 [.int],.bool,.sl 3 [.int],.sl 3 [.int]] ((i.1.getD 7 (.int 0)).r),.sl 185 [.bool,.sl 3 [.int],.sl 3 [.int],.bool,.sl 3 [.int],.sl 3 [.int],.bool,.sl 3 [.int],.sl 3 [.int]] ((i.1.getD 8 (.int 0)).r),.sl 195 [.int,.int] ((i.1.getD 9 (.int 0)).r),.sl 3 [.int] ((i.1.getD 10 (.int 0)).r)],.one (.sl 82 [.bool,.sl 3 [.int],.sl 3 [.int],.bool,.sl 3 [.int],.sl 3 [.int]] i.2.2)],res:=fun i=>⟨false,[none],[.im (Value.bool (pathB (bxR i.1) i.2.1 i.2.2))]⟩ }
theorem iFreePath_ok:iFreePath_con.Ok Tryz.prog 17:=by
 refine fn_ok (X:=⟨tt,[(79,iInBox_con),(80,fpAny_con),(80,fpSeg_con)],[],37,[]⟩) mixed tt_ok (CTok.cons iInBox_ok (CTok.cons fpAny_ok (CTok.cons fpSeg_ok (CTok.nil _)))) (InlOk.nil _) Tryz.func17 (by decide) rfl rfl rfl (fun _=>Nat.le_of_ble_eq_true rfl) (fun _=>Nat.le_of_ble_eq_true rfl) (fun (i:(List Dat)×(List (List V2))×(List (List Dat)))=>[(2,.mk 9 (Nat) (fun x1=>{ tm:=[(2,.one (.one (.bp 1 0))),(3,.one (.one (.bp 7 0))),(7,.one (.one (.ext 8))),(9,.one (.one (.im (Value.int .i64 ((x1:Nat):Int))))),(8,.one (.one (.im (Value.int .i64 ((i.2.2.length:Nat):Int)))))],en:=[(1,.box [.im (Value.int .i64 ((i.1.getD 0 (.int 0)).n)),.im (Value.bool ((i.1.getD 1 (.int 0)).b)),.im (Value.int .i64 ((i.1.getD 2 (.int 0)).n)),.im (Value.int .i64 ((i.1.getD 3 (.int 0)).n)),.im (Value.int .i64 ((i.1.getD 4 (.int 0)).n)),.im (Value.int .i64 ((i.1.getD 5 (.int 0)).n)),.ext 2,.ext 3,.ext 4,.ext 5,.ext 6]),(7,.box [.ext 8]),(2,.view 74 [.sl 37 [.int,.int]] (areasD i.2.1) []),(3,.view 190 [.bool,.sl 3 [.int],.sl 3 [.int],.bool,.sl 3 [.int],.sl 3 [.int],.bool,.sl 3 [.int],.sl 3 [.int],.bool,.sl 3 [.int],.sl 3 [.int],.bool,.sl 3 [.int],.sl 3 [.int],.bool,.sl 3 [.int],.sl 3 [.int]] ((i.1.getD 7 (.int 0)).r) []),(4,.view 185 [.bool,.sl 3 [.int],.sl 3 [.int],.bool,.sl 3 [.int],.sl 3 [.int],.bool,.sl 3 [.int],.sl 3 [.int]] ((i.1.getD 8 (.int 0)).r) []),(5,.view 195 [.int,.int] ((i.1.getD 9 (.int 0)).r) []),(6,.view 3 [.int] ((i.1.getD 10 (.int 0)).r) []),(8,.view 82 [.bool,.sl 3 [.int],.sl 3 [.int],.bool,.sl 3 [.int],.sl 3 [.int]] i.2.2 [])] }) (fun x1=>x1≤i.2.2.length∧∀ j,j < x1→pthB (bxR i.1) i.2.1 i.2.2 j=true) (fun x1=>i.2.2.length - x1) (fun _=>[]))]) ?_
 rintro ⟨r,ar,m⟩ hpre
 have hpre:m.length≤1048576∧ar.length≤1048576∧(∀ j,j < m.length→(ptOf (m.getD j [])).has)∧bxOk (bxR r):=hpre
 refine by_nf (q:=(∃ x1:Nat,(x1≤m.length∧∀ j,j < x1→pthB (bxR r) ar m j=true)∧((Value.int .i64 (0:Int)=Value.int .i64 ((x1:Nat):Int))∧(rf (Value.int .i64 ((m.length:Nat):Int)))∧(rf (Value.int .i64 ((r.getD 0 (.int 0)).n)))∧(rf (Value.bool ((r.getD 1 (.int 0)).b)))∧(rf (Value.int .i64 ((r.getD 2 (.int 0)).n)))∧(rf (Value.int .i64 ((r.getD 3 (.int 0)).n)))∧(rf (Value.int .i64 ((r.getD 4 (.int 0)).n)))∧(rf (Value.int .i64 ((r.getD 5 (.int 0)).n)))∧(rf (areasD ar))∧(rf ((r.getD 7 (.int 0)).r))∧(rf ((r.getD 8 (.int 0)).r))∧(rf ((r.getD 9 (.int 0)).r))∧(rf ((r.getD 10 (.int 0)).r))∧(rf (m))))∧∀ x1:Nat,(x1≤m.length∧∀ j,j < x1→pthB (bxR r) ar m j=true)→(((decide (((x1:Nat):Int) < ((m.length:Nat):Int)))=true→((0≤((x1:Nat):Int)∧((x1:Nat):Int) < (m.length:Int))∧((x1 < m.length)∧(∃ i1:(V2×V2)×PtD,[DA.agg [cI ((r.getD 2 (.int 0)).n),cI ((r.getD 3 (.int 0)).n),cI ((r.getD 4 (.int 0)).n),cI ((r.getD 5 (.int 0)).n)],DA.agg [cB ((((m.getD x1 []).getD 0 (.int 0))).b),cS ((((m.getD x1 []).getD 1 (.int 0))).r),cS ((((m.getD x1 []).getD 2 (.int 0))).r),cB ((((m.getD x1 []).getD 3 (.int 0))).b),cS ((((m.getD x1 []).getD 4 (.int 0))).r),cS ((((m.getD x1 []).getD 5 (.int 0))).r)]]=iInBox_con.args i1∧iInBox_con.pre i1∧(((!(!(inBoxB i1.1 i1.2)))=true→(∃ i2:(List (List V2))×PtD,[DA.one (DC.sl 74 [.sl 37 [.int,.int]] (areasD ar)),DA.one (DC.ro (.fn 81 [[.im (Value.bool ((((m.getD x1 []).getD 0 (.int 0))).b)),.sl 3 [.int] ((((m.getD x1 []).getD 1 (.int 0))).r),.sl 3 [.int] ((((m.getD x1 []).getD 2 (.int 0))).r),.im (Value.bool ((((m.getD x1 []).getD 3 (.int 0))).b)),.sl 3 [.int] ((((m.getD x1 []).getD 4 (.int 0))).r),.sl 3 [.int] ((((m.getD x1 []).getD 5 (.int 0))).r)]]))]=fpAny_con.args i2∧fpAny_con.pre i2∧(((i2.1.any (fun z=>decide (0≤cpZ z i2.2)))=true→((Value.bool false=Value.bool (pathB (bxR r) ar m))))∧((i2.1.any (fun z=>decide (0≤cpZ z i2.2)))=false→(((decide (((x1:Nat):Int) > (0:Int)))=true→(∃ i3:(List (List V2))×(List (List Dat))×Nat,[DA.one (DC.sl 74 [.sl 37 [.int,.int]] (areasD ar)),DA.one (DC.ro (.fn 83 [[.sl 82 [.bool,.sl 3 [.int],.sl 3 [.int],.bool,.sl 3 [.int],.sl 3 [.int]] m],[.im (Value.int .i64 ((x1:Nat):Int))],[.im (Value.bool ((((m.getD x1 []).getD 0 (.int 0))).b)),.sl 3 [.int] ((((m.getD x1 []).getD 1 (.int 0))).r),.sl 3 [.int] ((((m.getD x1 []).getD 2 (.int 0))).r),.im (Value.bool ((((m.getD x1 []).getD 3 (.int 0))).b)),.sl 3 [.int] ((((m.getD x1 []).getD 4 (.int 0))).r),.sl 3 [.int] ((((m.getD x1 []).getD 5 (.int 0))).r)]]))]=fpSeg_con.args i3∧fpSeg_con.pre i3∧(((i3.1.any (fun z=>smZ z (ptOf (i3.2.1.getD (i3.2.2 - 1) [])) (ptOf (i3.2.1.getD i3.2.2 []))))=true→((Value.bool false=Value.bool (pathB (bxR r) ar m))))∧((i3.1.any (fun z=>smZ z (ptOf (i3.2.1.getD (i3.2.2 - 1) [])) (ptOf (i3.2.1.getD i3.2.2 []))))=false→(∃ y2:Nat,(y2≤m.length∧∀ j,j < y2→pthB (bxR r) ar m j=true)∧(m.length - y2 < m.length - x1)∧((Value.int .i64 (IntKind.i64.wrap (((x1:Nat):Int)+(1:Int)))=Value.int .i64 ((y2:Nat):Int))∧(rf (Value.int .i64 ((m.length:Nat):Int)))∧(rf (Value.int .i64 ((r.getD 0 (.int 0)).n)))∧(rf (Value.bool ((r.getD 1 (.int 0)).b)))∧(rf (Value.int .i64 ((r.getD 2 (.int 0)).n)))∧(rf (Value.int .i64 ((r.getD 3 (.int 0)).n)))∧(rf (Value.int .i64 ((r.getD 4 (.int 0)).n)))∧(rf (Value.int .i64 ((r.getD 5 (.int 0)).n)))∧(rf (areasD ar))∧(rf ((r.getD 7 (.int 0)).r))∧(rf ((r.getD 8 (.int 0)).r))∧(rf ((r.getD 9 (.int 0)).r))∧(rf ((r.getD 10 (.int 0)).r))∧(rf (m))))))))∧((decide (((x1:Nat):Int) > (0:Int)))=false→(∃ y3:Nat,(y3≤m.length∧∀ j,j < y3→pthB (bxR r) ar m j=true)∧(m.length - y3 < m.length - x1)∧((Value.int .i64 (IntKind.i64.wrap (((x1:Nat):Int)+(1:Int)))=Value.int .i64 ((y3:Nat):Int))∧(rf (Value.int .i64 ((m.length:Nat):Int)))∧(rf (Value.int .i64 ((r.getD 0 (.int 0)).n)))∧(rf (Value.bool ((r.getD 1 (.int 0)).b)))∧(rf (Value.int .i64 ((r.getD 2 (.int 0)).n)))∧(rf (Value.int .i64 ((r.getD 3 (.int 0)).n)))∧(rf (Value.int .i64 ((r.getD 4 (.int 0)).n)))∧(rf (Value.int .i64 ((r.getD 5 (.int 0)).n)))∧(rf (areasD ar))∧(rf ((r.getD 7 (.int 0)).r))∧(rf ((r.getD 8 (.int 0)).r))∧(rf ((r.getD 9 (.int 0)).r))∧(rf ((r.getD 10 (.int 0)).r))∧(rf (m))))))))))∧((!(!(inBoxB i1.1 i1.2)))=false→((Value.bool false=Value.bool (pathB (bxR r) ar m)))))))))∧((decide (((x1:Nat):Int) < ((m.length:Nat):Int)))=false→((Value.bool (decide (((m.length:Nat):Int) > (0:Int)))=Value.bool (pathB (bxR r) ar m)))))) (by kernel_rfl) ?_
 obtain ⟨hm,ha,hp,hb⟩:=hpre
 have hal:=areasD_length ar
 refine ⟨⟨0,by
  exact ⟨Nat.zero_le _,fun j hj=>absurd hj (Nat.not_lt_zero j)⟩,?_⟩,?_⟩
 ·refine ⟨?_,rfl,rfl,rfl,rfl,rfl,rfl,rfl,rfl,rfl,rfl,rfl,rfl,rfl⟩
  rfl
 intro (k:Nat) hki1
 have hki1:k≤m.length∧∀ j,j < k→pthB (bxR r) ar m j=true:=hki1
 refine And.symm ⟨fun c17=>?_,fun c17=>?_⟩
 ·try simp only [nrm] at c17
  have hE:=path_yes (b:=bxR r) (ar:=ar) (l:=m) (fun j hj=>hki1.2 j (by omega))
  rw [hE];exact congrArg Value.bool (by simp)
 try simp only [nrm] at c17
 have o18:0≤((k:Nat):Int)∧((k:Nat):Int) < (m.length:Int):=by
  omega
 refine ⟨o18,?_⟩
 have o19:k < m.length:=by
  omega
 refine ⟨o19,?_⟩
 refine ⟨((bxR r),(ptOf (m.getD k []))),by
  rfl,by
  show (ptOf (m.getD k [])).has∧bxOk (bxR r)
  exact ⟨hp k (by omega),hb⟩,?_⟩
 refine And.symm ⟨fun c23=>?_,fun c23=>?_⟩
 ·replace c23:(!(!(inBoxB (bxR r) (ptOf (m.getD k [])))))=false:=c23
  try simp only [nrm] at c23
  have hE:=path_no (ar:=ar) (show k < m.length by omega) (pth_no1 c23)
  rw [hE]
 replace c23:(!(!(inBoxB (bxR r) (ptOf (m.getD k [])))))=true:=c23
 try simp only [nrm] at c23
 refine ⟨(ar,(ptOf (m.getD k []))),by
  rfl,by
  show ar.length≤9223372036854775807∧(ptOf (m.getD k [])).has
  exact ⟨by omega,hp k (by omega)⟩,?_⟩
 refine ⟨fun c27=>?_,fun c27=>?_⟩
 ·replace c27:(ar.any (fun z=>decide (0≤cpZ z (ptOf (m.getD k [])))))=true:=c27
  try simp only [nrm] at c27
  have hE:=path_no (ar:=ar) (show k < m.length by omega) (pth_no2 (b:=bxR r) c27)
  rw [hE]
 replace c27:(ar.any (fun z=>decide (0≤cpZ z (ptOf (m.getD k [])))))=false:=c27
 try simp only [nrm] at c27
 refine And.symm ⟨fun c29=>?_,fun c29=>?_⟩
 ·try simp only [nrm] at c29
  refine ⟨k+1,by
   exact ⟨by omega,lt_step hki1.2 (pth_ok c23 c27 (.inl (by omega)))⟩,by
   omega,?_⟩
  refine ⟨?_,rfl,rfl,rfl,rfl,rfl,rfl,rfl,rfl,rfl,rfl,rfl,rfl,rfl⟩
  exact vint (wrap64 (by omega) (by omega))
 try simp only [nrm] at c29
 refine ⟨(ar,m,k),by
  rfl,by
  show ar.length≤9223372036854775807∧(0 < k∧k < m.length∧m.length≤1048576∧(∀ j,j < m.length→(ptOf (m.getD j [])).has))
  exact ⟨by omega,by omega,by omega,hm,hp⟩,?_⟩
 refine ⟨fun c33=>?_,fun c33=>?_⟩
 ·replace c33:(ar.any (fun z=>smZ z (ptOf (m.getD (k - 1) [])) (ptOf (m.getD k []))))=true:=c33
  try simp only [nrm] at c33
  have hE:=path_no (ar:=ar) (show k < m.length by omega) (pth_no3 (b:=bxR r) (by omega) c33)
  rw [hE]
 replace c33:(ar.any (fun z=>smZ z (ptOf (m.getD (k - 1) [])) (ptOf (m.getD k []))))=false:=c33
 try simp only [nrm] at c33
 refine ⟨k+1,by
  exact ⟨by omega,lt_step hki1.2 (pth_ok c23 c27 (.inr c33))⟩,by
  omega,?_⟩
 refine ⟨?_,rfl,rfl,rfl,rfl,rfl,rfl,rfl,rfl,rfl,rfl,rfl,rfl,rfl⟩
 exact vint (wrap64 (by omega) (by omega))
def l11Free_con:Con:={ ι:=(V2×V2)×(List (List V2))×PtD,pre:=fun i=>i.2.2.has∧i.2.1.length≤1048576∧bxOk i.1,args:=fun i=>[.agg [.im (.int .i64 i.1.1.1),.im (.int .i64 i.1.1.2),.im (.int .i64 i.1.2.1),.im (.int .i64 i.1.2.2)],.one (.sl 74 [.sl 37 [.int,.int]] (areasD i.2.1)),.agg [.im (.bool i.2.2.x.neg),.sl 3 [.int] i.2.2.x.num,.sl 3 [.int] i.2.2.x.den,.im (.bool i.2.2.y.neg),.sl 3 [.int] i.2.2.y.num,.sl 3 [.int] i.2.2.y.den]],res:=fun i=>⟨false,[none],[.im (Value.bool (freeA i.1 i.2.1 i.2.2))]⟩ }
theorem l11Free_ok:l11Free_con.Ok Tryz.prog 73:=by
 refine fn_ok (X:=⟨tt,[(155,sContains_con),(156,sInBox_con)],[],23,[]⟩) mixed tt_ok (CTok.cons sContains_ok (CTok.cons sInBox_ok (CTok.nil _))) (InlOk.nil _) Tryz.func73 (by decide) rfl rfl rfl (fun _=>Nat.le_of_ble_eq_true rfl) (fun _=>Nat.le_of_ble_eq_true rfl) (fun (i:(V2×V2)×(List (List V2))×PtD)=>[(2,.mk 8 (Nat) (fun x1=>{ tm:=[(3,.one (.one (.bp 1 0))),(5,.one (.one (.bp 2 0))),(9,.one (.one (.ext 7))),(11,.one (.one (.im (Value.int .i64 ((x1:Nat):Int))))),(10,.one (.one (.im (Value.int .i64 ((i.2.1.length:Nat):Int)))))],en:=[(1,.box [.im (Value.int .i64 i.1.1.1),.im (Value.int .i64 i.1.1.2),.im (Value.int .i64 i.1.2.1),.im (Value.int .i64 i.1.2.2)]),(2,.box [.im (Value.bool i.2.2.x.neg),.ext 3,.ext 4,.im (Value.bool i.2.2.y.neg),.ext 5,.ext 6]),(3,.view 3 [.int] i.2.2.x.num []),(4,.view 3 [.int] i.2.2.x.den []),(5,.view 3 [.int] i.2.2.y.num []),(6,.view 3 [.int] i.2.2.y.den []),(7,.view 74 [.sl 37 [.int,.int]] (areasD i.2.1) [])] }) (fun x1=>x1≤i.2.1.length∧∀ j,j < x1→cpZ (i.2.1.getD j []) i.2.2 < 0) (fun x1=>i.2.1.length - x1) (fun _=>[]))]) ?_
 rintro ⟨b,ar,p⟩ hpre
 have hpre:p.has∧ar.length≤1048576∧bxOk b:=hpre
 refine by_nf (q:=(∃ x1:Nat,(x1≤ar.length∧∀ j,j < x1→cpZ (ar.getD j []) p < 0)∧((Value.int .i64 (0:Int)=Value.int .i64 ((x1:Nat):Int))∧(Value.int .i64 (((areasD ar).length:Nat):Int)=Value.int .i64 ((ar.length:Nat):Int))∧(rf (Value.int .i64 b.1.1))∧(rf (Value.int .i64 b.1.2))∧(rf (Value.int .i64 b.2.1))∧(rf (Value.int .i64 b.2.2))∧(rf (Value.bool p.x.neg))∧(rf (Value.bool p.y.neg))∧(rf (p.x.num))∧(rf (p.x.den))∧(rf (p.y.num))∧(rf (p.y.den))∧(rf (areasD ar))))∧∀ x1:Nat,(x1≤ar.length∧∀ j,j < x1→cpZ (ar.getD j []) p < 0)→(((decide (((x1:Nat):Int) < ((ar.length:Nat):Int)))=true→((0≤((x1:Nat):Int)∧((x1:Nat):Int) < ((areasD ar).length:Int))∧((x1 < (areasD ar).length)∧(∃ i1:(List V2)×PtD,[DA.one (DC.sl 37 [.int,.int] (((((areasD ar).getD x1 []).getD 0 (.int 0))).r)),DA.agg [cB p.x.neg,cS p.x.num,cS p.x.den,cB p.y.neg,cS p.y.num,cS p.y.den]]=sContains_con.args i1∧sContains_con.pre i1∧(((decide ((cpZ i1.1 i1.2)≥(0:Int)))=true→((Value.bool false=Value.bool (freeA b ar p))))∧((decide ((cpZ i1.1 i1.2)≥(0:Int)))=false→(∃ y2:Nat,(y2≤ar.length∧∀ j,j < y2→cpZ (ar.getD j []) p < 0)∧(ar.length - y2 < ar.length - x1)∧((Value.int .i64 (IntKind.i64.wrap (((x1:Nat):Int)+(1:Int)))=Value.int .i64 ((y2:Nat):Int))∧(rf (Value.int .i64 ((ar.length:Nat):Int)))∧(rf (Value.int .i64 b.1.1))∧(rf (Value.int .i64 b.1.2))∧(rf (Value.int .i64 b.2.1))∧(rf (Value.int .i64 b.2.2))∧(rf (Value.bool p.x.neg))∧(rf (Value.bool p.y.neg))∧(rf (p.x.num))∧(rf (p.x.den))∧(rf (p.y.num))∧(rf (p.y.den))∧(rf (areasD ar))))))))))∧((decide (((x1:Nat):Int) < ((ar.length:Nat):Int)))=false→(∃ i2:(V2×V2)×PtD,[DA.agg [cI b.1.1,cI b.1.2,cI b.2.1,cI b.2.2],DA.agg [cB p.x.neg,cS p.x.num,cS p.x.den,cB p.y.neg,cS p.y.num,cS p.y.den]]=sInBox_con.args i2∧sInBox_con.pre i2∧((Value.bool (inBoxB i2.1 i2.2)=Value.bool (freeA b ar p))))))) (by kernel_rfl) ?_
 have hal:=areasD_length ar
 refine ⟨⟨0,by
  exact ⟨Nat.zero_le _,fun j hj=>absurd hj (Nat.not_lt_zero j)⟩,?_⟩,?_⟩
 ·refine ⟨?_,?_,rfl,rfl,rfl,rfl,rfl,rfl,rfl,rfl,rfl,rfl,rfl⟩
  ·rfl
  rw [hal]
 intro (k:Nat) hki1
 have hki1:k≤ar.length∧∀ j,j < k→cpZ (ar.getD j []) p < 0:=hki1
 refine And.symm ⟨fun c16=>?_,fun c16=>?_⟩
 ·try simp only [nrm] at c16
  refine ⟨(b,p),by
   rfl,by
   show p.has∧bxOk b
   exact ⟨hpre.1,hpre.2.2⟩,?_⟩
  show Value.bool (inBoxB b p)=Value.bool (freeA b ar p)
  rw [freeA_none (fun j hj=>hki1.2 j (by omega))]
 try simp only [nrm] at c16
 have o17:0≤((k:Nat):Int)∧((k:Nat):Int) < ((areasD ar).length:Int):=by
  omega
 refine ⟨o17,?_⟩
 have o18:k < (areasD ar).length:=by
  omega
 refine ⟨o18,?_⟩
 refine ⟨(ar.getD k [],p),by
  rw [areasD_at (by omega)];rfl,by
  exact hpre.1,?_⟩
 refine ⟨fun c22=>?_,fun c22=>?_⟩
 ·replace c22:(decide ((cpZ (ar.getD k []) p)≥(0:Int)))=true:=c22
  try simp only [nrm] at c22
  rw [freeA_hit (show k < ar.length by omega) c22]
 replace c22:(decide ((cpZ (ar.getD k []) p)≥(0:Int)))=false:=c22
 try simp only [nrm] at c22
 refine ⟨k+1,by
  exact ⟨by omega,lt_step hki1.2 (by omega)⟩,by
  omega,?_⟩
 refine ⟨?_,rfl,rfl,rfl,rfl,rfl,rfl,rfl,rfl,rfl,rfl,rfl,rfl⟩
 exact vint (wrap64 (by omega) (by omega))
def sFreePath_con:Con:={ ι:=(List Dat)×(List (List V2))×(List (List Dat)),pre:=fun i=>i.2.2.length≤1048576∧i.2.1.length≤1048576∧(∀ j,j < i.2.2.length→(ptOf (i.2.2.getD j [])).has)∧bxOk (bxR i.1),args:=fun i=>[.agg [.im (.int .i64 ((i.1.getD 0 (.int 0)).n)),.im (.bool ((i.1.getD 1 (.int 0)).b)),.im (.int .i64 ((i.1.getD 2 (.int 0)).n)),.im (.int .i64 ((i.1.getD 3 (.int 0)).n)),.im (.int .i64 ((i.1.getD 4 (.int 0)).n)),.im (.int .i64 ((i.1.getD 5 (.int 0)).n)),.sl 74 [.sl 37 [.int,.int]] (areasD i.2.1),.sl 190 [.bool,.sl 3 [.int],.sl 3 [.int],.bool,.sl 3 [.int],.sl 3 [.int],.bool,.sl 3 [.int],.sl 3 [.int],.bool,.sl 3 [.int],.sl 3 [.int],.bool,.sl 3 [.int],.sl 3 [.int],.bool,.sl 3 [.int],.sl 3 [.int]] ((i.1.getD 7 (.int 0)).r),.sl 185 [.bool,.sl 3 [.int],.sl 3 [.int],.bool,.sl 3 [.int],.sl 3 [.int],.bool,.sl 3 [.int],.sl 3 [.int]] ((i.1.getD 8 (.int 0)).r),.sl 195 [.int,.int] ((i.1.getD 9 (.int 0)).r),.sl 3 [.int] ((i.1.getD 10 (.int 0)).r)],.one (.sl 82 [.bool,.sl 3 [.int],.sl 3 [.int],.bool,.sl 3 [.int],.sl 3 [.int]] i.2.2)],res:=fun i=>⟨false,[none],[.im (Value.bool (pathB (bxR i.1) i.2.1 i.2.2))]⟩ }
theorem sFreePath_ok:sFreePath_con.Ok Tryz.prog 14:=by
 refine fn_ok (X:=⟨tt,[(73,l11Free_con),(74,sSegMeets_con)],[],47,[]⟩) mixed tt_ok (CTok.cons l11Free_ok (CTok.cons sSegMeets_ok (CTok.nil _))) (InlOk.nil _) Tryz.func14 (by decide) rfl rfl rfl (fun _=>Nat.le_of_ble_eq_true rfl) (fun _=>Nat.le_of_ble_eq_true rfl) (fun (i:(List Dat)×(List (List V2))×(List (List Dat)))=>[(2,.mk 8 (Nat) (fun x1=>{ tm:=[(1,.one (.one (.ext 1))),(2,.one (.one (.bp 2 0))),(9,.one (.one (.ext 1))),(11,.one (.one (.im (Value.int .i64 ((x1:Nat):Int))))),(10,.one (.one (.im (Value.int .i64 ((i.2.2.length:Nat):Int)))))],en:=[(2,.box [.im (Value.int .i64 ((i.1.getD 0 (.int 0)).n)),.im (Value.bool ((i.1.getD 1 (.int 0)).b)),.im (Value.int .i64 ((i.1.getD 2 (.int 0)).n)),.im (Value.int .i64 ((i.1.getD 3 (.int 0)).n)),.im (Value.int .i64 ((i.1.getD 4 (.int 0)).n)),.im (Value.int .i64 ((i.1.getD 5 (.int 0)).n)),.ext 3,.ext 4,.ext 5,.ext 6,.ext 7]),(1,.view 82 [.bool,.sl 3 [.int],.sl 3 [.int],.bool,.sl 3 [.int],.sl 3 [.int]] i.2.2 []),(3,.view 74 [.sl 37 [.int,.int]] (areasD i.2.1) []),(4,.view 190 [.bool,.sl 3 [.int],.sl 3 [.int],.bool,.sl 3 [.int],.sl 3 [.int],.bool,.sl 3 [.int],.sl 3 [.int],.bool,.sl 3 [.int],.sl 3 [.int],.bool,.sl 3 [.int],.sl 3 [.int],.bool,.sl 3 [.int],.sl 3 [.int]] ((i.1.getD 7 (.int 0)).r) []),(5,.view 185 [.bool,.sl 3 [.int],.sl 3 [.int],.bool,.sl 3 [.int],.sl 3 [.int],.bool,.sl 3 [.int],.sl 3 [.int]] ((i.1.getD 8 (.int 0)).r) []),(6,.view 195 [.int,.int] ((i.1.getD 9 (.int 0)).r) []),(7,.view 3 [.int] ((i.1.getD 10 (.int 0)).r) [])] }) (fun x1=>x1≤i.2.2.length∧∀ j,j < x1→pthB (bxR i.1) i.2.1 i.2.2 j=true) (fun x1=>i.2.2.length - x1) (fun x1=>[(7,.mk 13 (Nat) (fun x2=>{ tm:=[(1,.one (.one (.ext 1))),(2,.one (.one (.bp 2 0))),(9,.one (.one (.ext 1))),(10,.one (.one (.im (Value.int .i64 ((i.2.2.length:Nat):Int))))),(11,.one (.one (.im (Value.int .i64 ((x1:Nat):Int))))),(5,.one (.one (.im (Value.int .i64 ((x1:Nat):Int))))),(6,.one (.one (.bp 8 0))),(24,.one (.one (.ext 3))),(26,.one (.one (.im (Value.int .i64 ((x2:Nat):Int))))),(25,.one (.one (.im (Value.int .i64 ((i.2.1.length:Nat):Int)))))],en:=[(2,.box [.im (Value.int .i64 ((i.1.getD 0 (.int 0)).n)),.im (Value.bool ((i.1.getD 1 (.int 0)).b)),.im (Value.int .i64 ((i.1.getD 2 (.int 0)).n)),.im (Value.int .i64 ((i.1.getD 3 (.int 0)).n)),.im (Value.int .i64 ((i.1.getD 4 (.int 0)).n)),.im (Value.int .i64 ((i.1.getD 5 (.int 0)).n)),.ext 3,.ext 4,.ext 5,.ext 6,.ext 7]),(8,.box [.im (Value.bool ((((i.2.2.getD x1 []).getD 0 (.int 0))).b)),.ext 9,.ext 10,.im (Value.bool ((((i.2.2.getD x1 []).getD 3 (.int 0))).b)),.ext 11,.ext 12]),(1,.view 82 [.bool,.sl 3 [.int],.sl 3 [.int],.bool,.sl 3 [.int],.sl 3 [.int]] i.2.2 []),(3,.view 74 [.sl 37 [.int,.int]] (areasD i.2.1) []),(4,.view 190 [.bool,.sl 3 [.int],.sl 3 [.int],.bool,.sl 3 [.int],.sl 3 [.int],.bool,.sl 3 [.int],.sl 3 [.int],.bool,.sl 3 [.int],.sl 3 [.int],.bool,.sl 3 [.int],.sl 3 [.int],.bool,.sl 3 [.int],.sl 3 [.int]] ((i.1.getD 7 (.int 0)).r) []),(5,.view 185 [.bool,.sl 3 [.int],.sl 3 [.int],.bool,.sl 3 [.int],.sl 3 [.int],.bool,.sl 3 [.int],.sl 3 [.int]] ((i.1.getD 8 (.int 0)).r) []),(6,.view 195 [.int,.int] ((i.1.getD 9 (.int 0)).r) []),(7,.view 3 [.int] ((i.1.getD 10 (.int 0)).r) []),(9,.view 3 [.int] ((((i.2.2.getD x1 []).getD 1 (.int 0))).r) []),(10,.view 3 [.int] ((((i.2.2.getD x1 []).getD 2 (.int 0))).r) []),(11,.view 3 [.int] ((((i.2.2.getD x1 []).getD 4 (.int 0))).r) []),(12,.view 3 [.int] ((((i.2.2.getD x1 []).getD 5 (.int 0))).r) [])] }) (fun x2=>x2≤i.2.1.length∧∀ j,j < x2→(decide (0 < x1) && smZ (i.2.1.getD j []) (ptOf (i.2.2.getD (x1 - 1) [])) (ptOf (i.2.2.getD x1 [])))=false) (fun x2=>i.2.1.length - x2) (fun _=>[]))]))]) ?_
 rintro ⟨r,ar,m⟩ hpre
 have hpre:m.length≤1048576∧ar.length≤1048576∧(∀ j,j < m.length→(ptOf (m.getD j [])).has)∧bxOk (bxR r):=hpre
 refine by_nf (q:=(∃ x1:Nat,(x1≤m.length∧∀ j,j < x1→pthB (bxR r) ar m j=true)∧((Value.int .i64 (0:Int)=Value.int .i64 ((x1:Nat):Int))∧(rf (Value.int .i64 ((m.length:Nat):Int)))∧(rf (Value.int .i64 ((r.getD 0 (.int 0)).n)))∧(rf (Value.bool ((r.getD 1 (.int 0)).b)))∧(rf (Value.int .i64 ((r.getD 2 (.int 0)).n)))∧(rf (Value.int .i64 ((r.getD 3 (.int 0)).n)))∧(rf (Value.int .i64 ((r.getD 4 (.int 0)).n)))∧(rf (Value.int .i64 ((r.getD 5 (.int 0)).n)))∧(rf (m))∧(rf (areasD ar))∧(rf ((r.getD 7 (.int 0)).r))∧(rf ((r.getD 8 (.int 0)).r))∧(rf ((r.getD 9 (.int 0)).r))∧(rf ((r.getD 10 (.int 0)).r))))∧∀ x1:Nat,(x1≤m.length∧∀ j,j < x1→pthB (bxR r) ar m j=true)→(((decide (((x1:Nat):Int) < ((m.length:Nat):Int)))=true→((0≤((x1:Nat):Int)∧((x1:Nat):Int) < (m.length:Int))∧((x1 < m.length)∧(∃ i1:(V2×V2)×(List (List V2))×PtD,[DA.agg [cI ((r.getD 2 (.int 0)).n),cI ((r.getD 3 (.int 0)).n),cI ((r.getD 4 (.int 0)).n),cI ((r.getD 5 (.int 0)).n)],DA.one (DC.sl 74 [.sl 37 [.int,.int]] (areasD ar)),DA.agg [cB ((((m.getD x1 []).getD 0 (.int 0))).b),cS ((((m.getD x1 []).getD 1 (.int 0))).r),cS ((((m.getD x1 []).getD 2 (.int 0))).r),cB ((((m.getD x1 []).getD 3 (.int 0))).b),cS ((((m.getD x1 []).getD 4 (.int 0))).r),cS ((((m.getD x1 []).getD 5 (.int 0))).r)]]=l11Free_con.args i1∧l11Free_con.pre i1∧(((!(freeA i1.1 i1.2.1 i1.2.2))=true→((Value.bool false=Value.bool (pathB (bxR r) ar m))))∧((!(freeA i1.1 i1.2.1 i1.2.2))=false→((∃ x2:Nat,(x2≤ar.length∧∀ j,j < x2→(decide (0 < x1) && smZ (ar.getD j []) (ptOf (m.getD (x1 - 1) [])) (ptOf (m.getD x1 [])))=false)∧((rf (Value.int .i64 ((m.length:Nat):Int)))∧(rf (Value.int .i64 ((x1:Nat):Int)))∧(rf (Value.int .i64 ((x1:Nat):Int)))∧(Value.int .i64 (0:Int)=Value.int .i64 ((x2:Nat):Int))∧(Value.int .i64 (((areasD ar).length:Nat):Int)=Value.int .i64 ((ar.length:Nat):Int))∧(rf (Value.int .i64 ((r.getD 0 (.int 0)).n)))∧(rf (Value.bool ((r.getD 1 (.int 0)).b)))∧(rf (Value.int .i64 ((r.getD 2 (.int 0)).n)))∧(rf (Value.int .i64 ((r.getD 3 (.int 0)).n)))∧(rf (Value.int .i64 ((r.getD 4 (.int 0)).n)))∧(rf (Value.int .i64 ((r.getD 5 (.int 0)).n)))∧(rf (Value.bool ((((m.getD x1 []).getD 0 (.int 0))).b)))∧(rf (Value.bool ((((m.getD x1 []).getD 3 (.int 0))).b)))∧(rf (m))∧(rf (areasD ar))∧(rf ((r.getD 7 (.int 0)).r))∧(rf ((r.getD 8 (.int 0)).r))∧(rf ((r.getD 9 (.int 0)).r))∧(rf ((r.getD 10 (.int 0)).r))∧(rf ((((m.getD x1 []).getD 1 (.int 0))).r))∧(rf ((((m.getD x1 []).getD 2 (.int 0))).r))∧(rf ((((m.getD x1 []).getD 4 (.int 0))).r))∧(rf ((((m.getD x1 []).getD 5 (.int 0))).r))))∧∀ x2:Nat,(x2≤ar.length∧∀ j,j < x2→(decide (0 < x1) && smZ (ar.getD j []) (ptOf (m.getD (x1 - 1) [])) (ptOf (m.getD x1 [])))=false)→(((decide (((x2:Nat):Int) < ((ar.length:Nat):Int)))=true→((0≤((x2:Nat):Int)∧((x2:Nat):Int) < ((areasD ar).length:Int))∧((x2 < (areasD ar).length)∧(((decide (((x1:Nat):Int) > (0:Int)))=true→((0≤(IntKind.i64.wrap (((x1:Nat):Int) - (1:Int)))∧(IntKind.i64.wrap (((x1:Nat):Int) - (1:Int))) < (m.length:Int))∧(((IntKind.i64.wrap (((x1:Nat):Int) - (1:Int))).toNat < m.length)∧(∃ i2:(List V2)×PtD×PtD,[DA.one (DC.sl 37 [.int,.int] (((((areasD ar).getD x2 []).getD 0 (.int 0))).r)),DA.agg [cB ((((m.getD ((IntKind.i64.wrap (((x1:Nat):Int) - (1:Int))).toNat) []).getD 0 (.int 0))).b),cS ((((m.getD ((IntKind.i64.wrap (((x1:Nat):Int) - (1:Int))).toNat) []).getD 1 (.int 0))).r),cS ((((m.getD ((IntKind.i64.wrap (((x1:Nat):Int) - (1:Int))).toNat) []).getD 2 (.int 0))).r),cB ((((m.getD ((IntKind.i64.wrap (((x1:Nat):Int) - (1:Int))).toNat) []).getD 3 (.int 0))).b),cS ((((m.getD ((IntKind.i64.wrap (((x1:Nat):Int) - (1:Int))).toNat) []).getD 4 (.int 0))).r),cS ((((m.getD ((IntKind.i64.wrap (((x1:Nat):Int) - (1:Int))).toNat) []).getD 5 (.int 0))).r)],DA.agg [cB ((((m.getD x1 []).getD 0 (.int 0))).b),cS ((((m.getD x1 []).getD 1 (.int 0))).r),cS ((((m.getD x1 []).getD 2 (.int 0))).r),cB ((((m.getD x1 []).getD 3 (.int 0))).b),cS ((((m.getD x1 []).getD 4 (.int 0))).r),cS ((((m.getD x1 []).getD 5 (.int 0))).r)]]=sSegMeets_con.args i2∧sSegMeets_con.pre i2∧(((smZ i2.1 i2.2.1 i2.2.2)=true→((Value.bool false=Value.bool (pathB (bxR r) ar m))))∧((smZ i2.1 i2.2.1 i2.2.2)=false→(∃ y3:Nat,(y3≤ar.length∧∀ j,j < y3→(decide (0 < x1) && smZ (ar.getD j []) (ptOf (m.getD (x1 - 1) [])) (ptOf (m.getD x1 [])))=false)∧(ar.length - y3 < ar.length - x2)∧((rf (Value.int .i64 ((m.length:Nat):Int)))∧(rf (Value.int .i64 ((x1:Nat):Int)))∧(rf (Value.int .i64 ((x1:Nat):Int)))∧(Value.int .i64 (IntKind.i64.wrap (((x2:Nat):Int)+(1:Int)))=Value.int .i64 ((y3:Nat):Int))∧(rf (Value.int .i64 ((ar.length:Nat):Int)))∧(rf (Value.int .i64 ((r.getD 0 (.int 0)).n)))∧(rf (Value.bool ((r.getD 1 (.int 0)).b)))∧(rf (Value.int .i64 ((r.getD 2 (.int 0)).n)))∧(rf (Value.int .i64 ((r.getD 3 (.int 0)).n)))∧(rf (Value.int .i64 ((r.getD 4 (.int 0)).n)))∧(rf (Value.int .i64 ((r.getD 5 (.int 0)).n)))∧(rf (Value.bool ((((m.getD x1 []).getD 0 (.int 0))).b)))∧(rf (Value.bool ((((m.getD x1 []).getD 3 (.int 0))).b)))∧(rf (m))∧(rf (areasD ar))∧(rf ((r.getD 7 (.int 0)).r))∧(rf ((r.getD 8 (.int 0)).r))∧(rf ((r.getD 9 (.int 0)).r))∧(rf ((r.getD 10 (.int 0)).r))∧(rf ((((m.getD x1 []).getD 1 (.int 0))).r))∧(rf ((((m.getD x1 []).getD 2 (.int 0))).r))∧(rf ((((m.getD x1 []).getD 4 (.int 0))).r))∧(rf ((((m.getD x1 []).getD 5 (.int 0))).r))))))))))∧((decide (((x1:Nat):Int) > (0:Int)))=false→(∃ y4:Nat,(y4≤ar.length∧∀ j,j < y4→(decide (0 < x1) && smZ (ar.getD j []) (ptOf (m.getD (x1 - 1) [])) (ptOf (m.getD x1 [])))=false)∧(ar.length - y4 < ar.length - x2)∧((rf (Value.int .i64 ((m.length:Nat):Int)))∧(rf (Value.int .i64 ((x1:Nat):Int)))∧(rf (Value.int .i64 ((x1:Nat):Int)))∧(Value.int .i64 (IntKind.i64.wrap (((x2:Nat):Int)+(1:Int)))=Value.int .i64 ((y4:Nat):Int))∧(rf (Value.int .i64 ((ar.length:Nat):Int)))∧(rf (Value.int .i64 ((r.getD 0 (.int 0)).n)))∧(rf (Value.bool ((r.getD 1 (.int 0)).b)))∧(rf (Value.int .i64 ((r.getD 2 (.int 0)).n)))∧(rf (Value.int .i64 ((r.getD 3 (.int 0)).n)))∧(rf (Value.int .i64 ((r.getD 4 (.int 0)).n)))∧(rf (Value.int .i64 ((r.getD 5 (.int 0)).n)))∧(rf (Value.bool ((((m.getD x1 []).getD 0 (.int 0))).b)))∧(rf (Value.bool ((((m.getD x1 []).getD 3 (.int 0))).b)))∧(rf (m))∧(rf (areasD ar))∧(rf ((r.getD 7 (.int 0)).r))∧(rf ((r.getD 8 (.int 0)).r))∧(rf ((r.getD 9 (.int 0)).r))∧(rf ((r.getD 10 (.int 0)).r))∧(rf ((((m.getD x1 []).getD 1 (.int 0))).r))∧(rf ((((m.getD x1 []).getD 2 (.int 0))).r))∧(rf ((((m.getD x1 []).getD 4 (.int 0))).r))∧(rf ((((m.getD x1 []).getD 5 (.int 0))).r)))))))))∧((decide (((x2:Nat):Int) < ((ar.length:Nat):Int)))=false→(∃ y5:Nat,(y5≤m.length∧∀ j,j < y5→pthB (bxR r) ar m j=true)∧(m.length - y5 < m.length - x1)∧((Value.int .i64 (IntKind.i64.wrap (((x1:Nat):Int)+(1:Int)))=Value.int .i64 ((y5:Nat):Int))∧(rf (Value.int .i64 ((m.length:Nat):Int)))∧(rf (Value.int .i64 ((r.getD 0 (.int 0)).n)))∧(rf (Value.bool ((r.getD 1 (.int 0)).b)))∧(rf (Value.int .i64 ((r.getD 2 (.int 0)).n)))∧(rf (Value.int .i64 ((r.getD 3 (.int 0)).n)))∧(rf (Value.int .i64 ((r.getD 4 (.int 0)).n)))∧(rf (Value.int .i64 ((r.getD 5 (.int 0)).n)))∧(rf (m))∧(rf (areasD ar))∧(rf ((r.getD 7 (.int 0)).r))∧(rf ((r.getD 8 (.int 0)).r))∧(rf ((r.getD 9 (.int 0)).r))∧(rf ((r.getD 10 (.int 0)).r)))))))))))))∧((decide (((x1:Nat):Int) < ((m.length:Nat):Int)))=false→((Value.bool (decide (((m.length:Nat):Int) > (0:Int)))=Value.bool (pathB (bxR r) ar m)))))) (by kernel_rfl) ?_
 obtain ⟨hm,ha,hp,hb⟩:=hpre
 have hal:=areasD_length ar
 refine ⟨⟨0,by
  exact ⟨Nat.zero_le _,fun j hj=>absurd hj (Nat.not_lt_zero j)⟩,?_⟩,?_⟩
 ·refine ⟨?_,rfl,rfl,rfl,rfl,rfl,rfl,rfl,rfl,rfl,rfl,rfl,rfl,rfl⟩
  rfl
 intro (k:Nat) hki1
 have hki1:k≤m.length∧∀ j,j < k→pthB (bxR r) ar m j=true:=hki1
 refine And.symm ⟨fun c17=>?_,fun c17=>?_⟩
 ·try simp only [nrm] at c17
  have hE:=path_yes (b:=bxR r) (ar:=ar) (l:=m) (fun j hj=>hki1.2 j (by omega))
  rw [hE];exact congrArg Value.bool (by simp)
 try simp only [nrm] at c17
 have o18:0≤((k:Nat):Int)∧((k:Nat):Int) < (m.length:Int):=by
  omega
 refine ⟨o18,?_⟩
 have o19:k < m.length:=by
  omega
 refine ⟨o19,?_⟩
 refine ⟨((bxR r),ar,(ptOf (m.getD k []))),by
  rfl,by
  show (ptOf (m.getD k [])).has∧ar.length≤1048576∧bxOk (bxR r)
  exact ⟨hp k (by omega),ha,hb⟩,?_⟩
 refine ⟨fun c23=>?_,fun c23=>?_⟩
 ·replace c23:(!(freeA (bxR r) ar (ptOf (m.getD k []))))=true:=c23
  try simp only [nrm] at c23
  have hE:=path_no (show k < m.length by omega) (pth_fr c23)
  rw [hE]
 replace c23:(!(freeA (bxR r) ar (ptOf (m.getD k []))))=false:=c23
 try simp only [nrm] at c23
 refine ⟨⟨0,by
  exact ⟨Nat.zero_le _,fun j hj=>absurd hj (Nat.not_lt_zero j)⟩,?_⟩,?_⟩
 ·refine ⟨rfl,rfl,rfl,?_,?_,rfl,rfl,rfl,rfl,rfl,rfl,rfl,rfl,rfl,rfl,rfl,rfl,rfl,rfl,rfl,rfl,rfl,rfl⟩
  ·rfl
  rw [hal]
 intro (q:Nat) hki25
 have hki25:q≤ar.length∧∀ j,j < q→(decide (0 < k) && smZ (ar.getD j []) (ptOf (m.getD (k - 1) [])) (ptOf (m.getD k [])))=false:=hki25
 refine And.symm ⟨fun c50=>?_,fun c50=>?_⟩
 ·try simp only [nrm] at c50
  refine ⟨k+1,by
   exact ⟨by omega,lt_step hki1.2 (pth_ok' c23 (fun j hj=>hki25.2 j (by omega)))⟩,by
   omega,?_⟩
  refine ⟨?_,rfl,rfl,rfl,rfl,rfl,rfl,rfl,rfl,rfl,rfl,rfl,rfl,rfl⟩
  exact vint (wrap64 (by omega) (by omega))
 try simp only [nrm] at c50
 have o51:0≤((q:Nat):Int)∧((q:Nat):Int) < ((areasD ar).length:Int):=by
  omega
 refine ⟨o51,?_⟩
 have o52:q < (areasD ar).length:=by
  omega
 refine ⟨o52,?_⟩
 refine And.symm ⟨fun c53=>?_,fun c53=>?_⟩
 ·try simp only [nrm] at c53
  refine ⟨q+1,by
   exact ⟨by omega,lt_step hki25.2 (by rw [decide_eq_false (by omega)];rfl)⟩,by
   omega,?_⟩
  refine ⟨rfl,rfl,rfl,?_,rfl,rfl,rfl,rfl,rfl,rfl,rfl,rfl,rfl,rfl,rfl,rfl,rfl,rfl,rfl,rfl,rfl,rfl,rfl⟩
  exact vint (wrap64 (by omega) (by omega))
 try simp only [nrm] at c53
 have hw:IntKind.i64.wrap (((k:Nat):Int) - (1:Int))=((k - 1:Nat):Int):=by rw [wrap64 (by omega) (by omega)];omega
 have hn:(IntKind.i64.wrap (((k:Nat):Int) - (1:Int))).toNat=k - 1:=by rw [hw];exact Int.toNat_natCast _
 have o54:0≤(IntKind.i64.wrap (((k:Nat):Int) - (1:Int)))∧(IntKind.i64.wrap (((k:Nat):Int) - (1:Int))) < (m.length:Int):=by
  omega
 refine ⟨o54,?_⟩
 have o55:(IntKind.i64.wrap (((k:Nat):Int) - (1:Int))).toNat < m.length:=by
  omega
 refine ⟨o55,?_⟩
 refine ⟨(ar.getD q [],(ptOf (m.getD (k - 1) [])),(ptOf (m.getD k []))),by
  rw [areasD_at (by omega),hn];rfl,by
  show (ptOf (m.getD (k - 1) [])).has∧(ptOf (m.getD k [])).has
  exact ⟨hp _ (by omega),hp _ (by omega)⟩,?_⟩
 refine ⟨fun c59=>?_,fun c59=>?_⟩
 ·replace c59:(smZ (ar.getD q []) (ptOf (m.getD (k - 1) [])) (ptOf (m.getD k [])))=true:=c59
  try simp only [nrm] at c59
  have hE:=path_no (ar:=ar) (show k < m.length by omega) (pth_no3 (b:=bxR r) (by omega) (anyF_hit (d:=[]) (show q < ar.length by omega) c59))
  rw [hE]
 replace c59:(smZ (ar.getD q []) (ptOf (m.getD (k - 1) [])) (ptOf (m.getD k [])))=false:=c59
 try simp only [nrm] at c59
 refine ⟨q+1,by
  exact ⟨by omega,lt_step hki25.2 (by rw [c59,Bool.and_false])⟩,by
  omega,?_⟩
 refine ⟨rfl,rfl,rfl,?_,rfl,rfl,rfl,rfl,rfl,rfl,rfl,rfl,rfl,rfl,rfl,rfl,rfl,rfl,rfl,rfl,rfl,rfl,rfl⟩
 exact vint (wrap64 (by omega) (by omega))
end Go.Proofs.YtblmlkdefjoebaaGreat
