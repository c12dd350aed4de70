import Derived.Test.YtlejeadlmpkffaaGreatMaRkI
namespace Go.Proofs.YtlejeadlmpkffaaGreat
set_option maxRecDepth 100000
set_option linter.unusedVariables false
set_option linter.unusedSimpArgs false
open Go.RowKit
def bxOk (b:V2×V2):Prop:=((-9223372036854775808<=b.1.1/\b.1.1<=9223372036854775807)/\(-9223372036854775808<=b.1.2/\b.1.2<=9223372036854775807)/\(-9223372036854775808<=b.2.1/\b.2.1<=9223372036854775807)/\(-9223372036854775808<=b.2.2/\b.2.2<=9223372036854775807))
def inQ (b:V2×V2) (p:Pq):Bool:=decide (Fr.cmp p.x (Fr.ofInt b.1.1)>0) && (decide (Fr.cmp p.x (Fr.ofInt b.2.1)<0) && (decide (Fr.cmp p.y (Fr.ofInt b.1.2)>0) && decide (Fr.cmp p.y (Fr.ofInt b.2.2)<0)))
def inBoxB (b:V2×V2) (p:PtD):Bool:=okP p && inQ b (pqR p)
def cmpD (r:RatD) (s:Fr):Int:=if okR r=true then Fr.cmp (frR r) s else 0
theorem cmpD_yes {r:RatD} {s:Fr} (h:okR r=true):cmpD r s=Fr.cmp (frR r) s:=by unfold cmpD;rw [if_pos h]
theorem cmpD_no {r:RatD} {s:Fr} (h:okR r=false):cmpD r s=0:=by unfold cmpD;rw [if_neg (by rw [h];simp)]
def inD (b:V2×V2) (p:PtD):Bool:=decide (cmpD p.x (Fr.ofInt b.1.1)>0) && (decide (cmpD p.x (Fr.ofInt b.2.1)<0) && (decide (cmpD p.y (Fr.ofInt b.1.2)>0) && decide (cmpD p.y (Fr.ofInt b.2.2)<0)))
theorem inD_eq (b:V2×V2) (p:PtD):inD b p=inBoxB b p:=by
 unfold inD inBoxB
 cases h1:okR p.x with
 | false=>rw [cmpD_no h1];simp [okP,h1]
 | true=>
  cases h2:okR p.y with
  | false=>rw [cmpD_no (r:=p.y) h2,cmpD_no (r:=p.y) h2];simp [okP,h2]
  | true=>
   have h3:okP p=true:=by unfold okP;rw [h1,h2];rfl
   rw [cmpD_yes h1,cmpD_yes h1,cmpD_yes h2,cmpD_yes h2,h3];rfl
def freeA (b:V2×V2) (ar:List (List V2)) (p:PtD):Bool:=inBoxB b p && !(ar.any λ z=>decide (0<=cpZ z p))
theorem freeA_hit {b:V2×V2} {ar:List (List V2)} {p:PtD} {k:Nat} (hk:k<ar.length) (h:cpZ (ar.getD k []) p≥0):freeA b ar p=false:=by
 have:(ar.any λ z=>decide (0<=cpZ z p))=true:=List.any_eq_true.2 ⟨ar.getD k [],by simp [List.getD,hk],by simpa using h⟩
 unfold freeA;rw [this];simp
theorem freeA_none {b:V2×V2} {ar:List (List V2)} {p:PtD} (h:∀ j,j<ar.length->cpZ (ar.getD j []) p<0):freeA b ar p=inBoxB b p:=by
 have:(ar.any λ z=>decide (0<=cpZ z p))=false:=by
  rw [List.any_eq_false]
  intro z hz
  obtain ⟨j,hj,rfl⟩:=List.getElem_of_mem hz
  have:=h j hj
  simp only [List.getD,List.getElem?_eq_getElem hj,Option.getD_some] at this
  simp only [decide_eq_true_eq];omega
 unfold freeA;rw [this];simp
theorem anyF_none {α:Type} {p:α->Bool} {l:List α} {d:α} (h:∀ j,j<l.length->p (l.getD j d)=false):l.any p=false:=by
 rw [List.any_eq_false]
 intro z hz
 obtain ⟨j,hj,rfl⟩:=List.getElem_of_mem hz
 have:=h j hj
 simp only [List.getD,List.getElem?_eq_getElem hj,Option.getD_some] at this
 rw [this];simp
theorem anyF_hit {α:Type} {p:α->Bool} {l:List α} {d:α} {k:Nat} (hk:k<l.length) (h:p (l.getD k d)=true):l.any p=true:=
 List.any_eq_true.2 ⟨l.getD k d,by simp [List.getD,hk],h⟩
theorem ofI_good {n:Int} (h:-9223372036854775808<=n/\n<=9223372036854775807):(Fr.ofInt n).good=true:=Fr.good_some (ofInt_v (int_nl h))
def inBox_con:Con:={ ι:=(V2×V2)×Pq,pre:=λ i=>bxOk i.1,args:=λ i=>[.agg [.im (.int .i64 i.1.1.1),.im (.int .i64 i.1.1.2),.im (.int .i64 i.1.2.1),.im (.int .i64 i.1.2.2)],.agg [.im (.bool (decide (i.2.x.z<0))),.sl 3 [.int] (L i.2.x.z.natAbs),.sl 3 [.int] (L i.2.x.d),.im (.bool (decide (i.2.y.z<0))),.sl 3 [.int] (L i.2.y.z.natAbs),.sl 3 [.int] (L i.2.y.d)]],res:=λ i=>⟨false,[none],[.im (Value.bool (inQ i.1 i.2))]⟩ }
theorem inBox_ok:inBox_con.Ok Tryz.prog 67:=by
 refine fok (X:=⟨tt,[(94,ratInt_con),(93,ratCmp_con)],[],43,[]⟩) mixed tt_ok (CTok.cons ratInt_ok (CTok.cons ratCmp_ok (CTok.nil _))) Tryz.func67 (λ _=>[]) ?_
 rintro ⟨b,p⟩ hpre
 have hpre:bxOk b:=hpre
 refine by_nf (q:=∃ i1:Int,[DA.one (cI b.1.1)]=ratInt_con.args i1/\ratInt_con.pre i1/\(∃ i2:Fr×Fr,[dF p.x,dF (Fr.ofInt i1)]=ratCmp_con.args i2/\ratCmp_con.pre i2/\(((decide ((Fr.cmp i2.1 i2.2)>(0:Int)))=true->(∃ i3:Int,[DA.one (cI b.2.1)]=ratInt_con.args i3/\ratInt_con.pre i3/\(∃ i4:Fr×Fr,[dF p.x,dF (Fr.ofInt i3)]=ratCmp_con.args i4/\ratCmp_con.pre i4/\(((decide ((Fr.cmp i4.1 i4.2)<(0:Int)))=true->(∃ i5:Int,[DA.one (cI b.1.2)]=ratInt_con.args i5/\ratInt_con.pre i5/\(∃ i6:Fr×Fr,[dF p.y,dF (Fr.ofInt i5)]=ratCmp_con.args i6/\ratCmp_con.pre i6/\(((decide ((Fr.cmp i6.1 i6.2)>(0:Int)))=true->(∃ i7:Int,[DA.one (cI b.2.2)]=ratInt_con.args i7/\ratInt_con.pre i7/\(∃ i8:Fr×Fr,[dF p.y,dF (Fr.ofInt i7)]=ratCmp_con.args i8/\ratCmp_con.pre i8/\((Value.bool (decide ((Fr.cmp i8.1 i8.2)<(0:Int)))=Value.bool (inQ b p))))))/\((decide ((Fr.cmp i6.1 i6.2)>(0:Int)))=false->((Value.bool false=Value.bool (inQ b p))))))))/\((decide ((Fr.cmp i4.1 i4.2)<(0:Int)))=false->((Value.bool false=Value.bool (inQ b p))))))))/\((decide ((Fr.cmp i2.1 i2.2)>(0:Int)))=false->((Value.bool false=Value.bool (inQ b p))))))) (by kernel_rfl) ?_
 refine ⟨b.1.1,by
  rfl,by
  exact hpre.1,?_⟩
 refine ⟨(p.x,(Fr.ofInt b.1.1)),by
  rfl,by
  trivial,?_⟩
 refine And.symm ⟨λ c7=>?_,λ c7=>?_⟩
 ·replace c7:(decide ((Fr.cmp p.x (Fr.ofInt b.1.1))>(0:Int)))=false:=c7
  try simp only [nrm] at c7
  exact congrArg Value.bool (by unfold inQ;simp_all;try (intros;omega))
 replace c7:(decide ((Fr.cmp p.x (Fr.ofInt b.1.1))>(0:Int)))=true:=c7
 try simp only [nrm] at c7
 refine ⟨b.2.1,by
  rfl,by
  exact hpre.2.2.1,?_⟩
 refine ⟨(p.x,(Fr.ofInt b.2.1)),by
  rfl,by
  trivial,?_⟩
 refine And.symm ⟨λ c14=>?_,λ c14=>?_⟩
 ·replace c14:(decide ((Fr.cmp p.x (Fr.ofInt b.2.1))<(0:Int)))=false:=c14
  try simp only [nrm] at c14
  exact congrArg Value.bool (by unfold inQ;simp_all;try (intros;omega))
 replace c14:(decide ((Fr.cmp p.x (Fr.ofInt b.2.1))<(0:Int)))=true:=c14
 try simp only [nrm] at c14
 refine ⟨b.1.2,by
  rfl,by
  exact hpre.2.1,?_⟩
 refine ⟨(p.y,(Fr.ofInt b.1.2)),by
  rfl,by
  trivial,?_⟩
 refine And.symm ⟨λ c21=>?_,λ c21=>?_⟩
 ·replace c21:(decide ((Fr.cmp p.y (Fr.ofInt b.1.2))>(0:Int)))=false:=c21
  try simp only [nrm] at c21
  exact congrArg Value.bool (by unfold inQ;simp_all;try (intros;omega))
 replace c21:(decide ((Fr.cmp p.y (Fr.ofInt b.1.2))>(0:Int)))=true:=c21
 try simp only [nrm] at c21
 refine ⟨b.2.2,by
  rfl,by
  exact hpre.2.2.2,?_⟩
 refine ⟨(p.y,(Fr.ofInt b.2.2)),by
  rfl,by
  trivial,?_⟩
 exact congrArg Value.bool (by unfold inQ;simp_all;try (intros;omega))
def sRatCmpD_con:Con:={ ι:=RatD×Fr,pre:=λ i=>i.1.has/\i.2.good=true,args:=λ i=>[.agg [.im (.bool i.1.neg),.sl 3 [.int] i.1.num,.sl 3 [.int] i.1.den],.agg [.im (.bool (decide (i.2.z<0))),.sl 3 [.int] (L i.2.z.natAbs),.sl 3 [.int] (L i.2.d)]],res:=λ i=>⟨false,[none],[.im (Value.int .i64 (cmpD i.1 i.2))]⟩ }
theorem sRatCmpD_ok:sRatCmpD_con.Ok Tryz.prog 82:=by
 refine fok (X:=⟨tt,[(78,sRatOk_con),(108,l04Cmp_con)],[],16,[]⟩) mixed tt_ok (CTok.cons sRatOk_ok (CTok.cons l04Cmp_ok (CTok.nil _))) Tryz.func82 (λ _=>[]) ?_
 rintro ⟨r,s⟩ hpre
 have hpre:r.has/\s.good=true:=hpre
 refine by_nf (q:=∃ i1:Bool×(List (List Dat))×(List (List Dat))×Bool,[DA.agg [cB r.neg,cS r.num,cS r.den]]=sRatOk_con.args i1/\sRatOk_con.pre i1/\(((!(!i1.2.2.2))=true->(∃ i2:Bool×(List (List Dat))×(List (List Dat))×Bool,[dF s]=sRatOk_con.args i2/\sRatOk_con.pre i2/\(((!i2.2.2.2)=true->((vI (0:Int)=vI (cmpD r s))))/\((!i2.2.2.2)=false->(∃ i3:Fr×Fr,[DA.agg [cB r.neg,cS r.num,cS r.den],dF s]=l04Cmp_con.args i3/\l04Cmp_con.pre i3/\((vI (Fr.cmp i3.1 i3.2)=vI (cmpD r s))))))))/\((!(!i1.2.2.2))=false->((vI (0:Int)=vI (cmpD r s)))))) (by kernel_rfl) ?_
 delta vI
 have h3:=s.nlz
 have h4:=s.nld
 have ls:=L_len s.d
 have lw:=L_len s.z.natAbs
 refine ⟨(r.neg,r.num,r.den,(ratOkR r.neg r.num r.den)),by
  rfl,by
  try dsimp only [sRatOk_con]
  exact ⟨hpre.1.1,hpre.1.2,len_has hpre.1.1,len_has hpre.1.2,rfl⟩,?_⟩
 refine And.symm ⟨λ c4=>?_,λ c4=>?_⟩
 ·replace c4:(!(!(ratOkR r.neg r.num r.den)))=false:=c4
  try simp only [nrm] at c4
  have hE:=cmpD_no (s:=s) c4
  rw [hE]
 replace c4:(!(!(ratOkR r.neg r.num r.den)))=true:=c4
 try simp only [nrm] at c4
 have q:=frR_ok hpre.1 c4
 have hE:=cmpD_yes (s:=s) c4
 refine ⟨(decide (s.z<0),(L s.z.natAbs),(L s.d),s.good),by
  rfl,by
  try dsimp only [sRatOk_con]
  exact ⟨L_has _ (by omega),L_has _ (by omega),by omega,by omega,ratOkR_zd _⟩,?_⟩
 refine ⟨λ c8=>?_,λ c8=>?_⟩
 ·replace c8:(!s.good)=true:=c8
  try simp only [nrm] at c8
  rw [hpre.2] at c8
  cases c8 -- done
 replace c8:(!s.good)=false:=c8
 try simp only [nrm] at c8
 refine ⟨(frR r,s),by
  rw [q.1,q.2.1,q.2.2.1];rfl,by
  exact ⟨q.2.2.2,good_d c8⟩,?_⟩
 rw [hE]
def sInBox_con:Con:={ ι:=(V2×V2)×PtD,pre:=λ i=>i.2.has/\bxOk i.1,args:=λ i=>[.agg [.im (.int .i64 i.1.1.1),.im (.int .i64 i.1.1.2),.im (.int .i64 i.1.2.1),.im (.int .i64 i.1.2.2)],.agg [.im (.bool i.2.x.neg),.sl 3 [.int] i.2.x.num,.sl 3 [.int] i.2.x.den,.im (.bool i.2.y.neg),.sl 3 [.int] i.2.y.num,.sl 3 [.int] i.2.y.den]],res:=λ i=>⟨false,[none],[.im (Value.bool (inBoxB i.1 i.2))]⟩ }
theorem sInBox_ok:sInBox_con.Ok Tryz.prog 59:=by
 refine fok (X:=⟨tt,[(81,sRatFromInt_con),(82,sRatCmpD_con)],[],45,[]⟩) mixed tt_ok (CTok.cons sRatFromInt_ok (CTok.cons sRatCmpD_ok (CTok.nil _))) Tryz.func59 (λ _=>[]) ?_
 rintro ⟨b,p⟩ hpre
 have hpre:p.has/\bxOk b:=hpre
 refine by_nf (q:=∃ i1:Int,[DA.one (cI b.1.1)]=sRatFromInt_con.args i1/\sRatFromInt_con.pre i1/\(∃ i2:RatD×Fr,[DA.agg [cB p.x.neg,cS p.x.num,cS p.x.den],dF (Fr.ofInt i1)]=sRatCmpD_con.args i2/\sRatCmpD_con.pre i2/\(((decide ((cmpD i2.1 i2.2)>(0:Int)))=true->(∃ i3:Int,[DA.one (cI b.2.1)]=sRatFromInt_con.args i3/\sRatFromInt_con.pre i3/\(∃ i4:RatD×Fr,[DA.agg [cB p.x.neg,cS p.x.num,cS p.x.den],dF (Fr.ofInt i3)]=sRatCmpD_con.args i4/\sRatCmpD_con.pre i4/\(((decide ((cmpD i4.1 i4.2)<(0:Int)))=true->(∃ i5:Int,[DA.one (cI b.1.2)]=sRatFromInt_con.args i5/\sRatFromInt_con.pre i5/\(∃ i6:RatD×Fr,[DA.agg [cB p.y.neg,cS p.y.num,cS p.y.den],dF (Fr.ofInt i5)]=sRatCmpD_con.args i6/\sRatCmpD_con.pre i6/\(((decide ((cmpD i6.1 i6.2)>(0:Int)))=true->(∃ i7:Int,[DA.one (cI b.2.2)]=sRatFromInt_con.args i7/\sRatFromInt_con.pre i7/\(∃ i8:RatD×Fr,[DA.agg [cB p.y.neg,cS p.y.num,cS p.y.den],dF (Fr.ofInt i7)]=sRatCmpD_con.args i8/\sRatCmpD_con.pre i8/\((Value.bool (decide ((cmpD i8.1 i8.2)<(0:Int)))=Value.bool (inBoxB b p))))))/\((decide ((cmpD i6.1 i6.2)>(0:Int)))=false->((Value.bool false=Value.bool (inBoxB b p))))))))/\((decide ((cmpD i4.1 i4.2)<(0:Int)))=false->((Value.bool false=Value.bool (inBoxB b p))))))))/\((decide ((cmpD i2.1 i2.2)>(0:Int)))=false->((Value.bool false=Value.bool (inBoxB b p))))))) (by kernel_rfl) ?_
 have hE:=inD_eq b p
 refine ⟨b.1.1,by
  rfl,by
  exact hpre.2.1,?_⟩
 refine ⟨(p.x,(Fr.ofInt b.1.1)),by
  rfl,by
  exact ⟨hpre.1.1,ofI_good hpre.2.1⟩,?_⟩
 refine And.symm ⟨λ c7=>?_,λ c7=>?_⟩
 ·replace c7:(decide ((cmpD p.x (Fr.ofInt b.1.1))>(0:Int)))=false:=c7
  try simp only [nrm] at c7
  rw [← hE];exact congrArg Value.bool (by unfold inD;simp_all;try (intros;omega))
 replace c7:(decide ((cmpD p.x (Fr.ofInt b.1.1))>(0:Int)))=true:=c7
 try simp only [nrm] at c7
 refine ⟨b.2.1,by
  rfl,by
  exact hpre.2.2.2.1,?_⟩
 refine ⟨(p.x,(Fr.ofInt b.2.1)),by
  rfl,by
  exact ⟨hpre.1.1,ofI_good hpre.2.2.2.1⟩,?_⟩
 refine And.symm ⟨λ c14=>?_,λ c14=>?_⟩
 ·replace c14:(decide ((cmpD p.x (Fr.ofInt b.2.1))<(0:Int)))=false:=c14
  try simp only [nrm] at c14
  rw [← hE];exact congrArg Value.bool (by unfold inD;simp_all;try (intros;omega))
 replace c14:(decide ((cmpD p.x (Fr.ofInt b.2.1))<(0:Int)))=true:=c14
 try simp only [nrm] at c14
 refine ⟨b.1.2,by
  rfl,by
  exact hpre.2.2.1,?_⟩
 refine ⟨(p.y,(Fr.ofInt b.1.2)),by
  rfl,by
  exact ⟨hpre.1.2,ofI_good hpre.2.2.1⟩,?_⟩
 refine And.symm ⟨λ c21=>?_,λ c21=>?_⟩
 ·replace c21:(decide ((cmpD p.y (Fr.ofInt b.1.2))>(0:Int)))=false:=c21
  try simp only [nrm] at c21
  rw [← hE];exact congrArg Value.bool (by unfold inD;simp_all;try (intros;omega))
 replace c21:(decide ((cmpD p.y (Fr.ofInt b.1.2))>(0:Int)))=true:=c21
 try simp only [nrm] at c21
 refine ⟨b.2.2,by
  rfl,by
  exact hpre.2.2.2.2,?_⟩
 refine ⟨(p.y,(Fr.ofInt b.2.2)),by
  rfl,by
  exact ⟨hpre.1.2,ofI_good hpre.2.2.2.2⟩,?_⟩
 rw [← hE];exact congrArg Value.bool (by unfold inD;simp_all;try (intros;omega))
def l11Free_con:Con:={ ι:=(V2×V2)×(List (List V2))×PtD,pre:=λ i=>i.2.2.has/\i.2.1.length<=1048576/\bxOk i.1,args:=λ i=>[.agg [.im (.int .i64 i.1.1.1),.im (.int .i64 i.1.1.2),.im (.int .i64 i.1.2.1),.im (.int .i64 i.1.2.2)],.one (.sl 39 [.sl 38 [.int,.int]] (areasD i.2.1)),.agg [.im (.bool i.2.2.x.neg),.sl 3 [.int] i.2.2.x.num,.sl 3 [.int] i.2.2.x.den,.im (.bool i.2.2.y.neg),.sl 3 [.int] i.2.2.y.num,.sl 3 [.int] i.2.2.y.den]],res:=λ i=>⟨false,[none],[.im (Value.bool (freeA i.1 i.2.1 i.2.2))]⟩ }
theorem l11Free_ok:l11Free_con.Ok Tryz.prog 34:=by
 refine fok (X:=⟨tt,[(56,sContains_con),(59,sInBox_con)],[],23,[]⟩) mixed tt_ok (CTok.cons sContains_ok (CTok.cons sInBox_ok (CTok.nil _))) Tryz.func34 (λ (i:(V2×V2)×(List (List V2))×PtD)=>[(2,.mk 8 (Nat) (λ x1=>{ tm:=[(3,.one (.one (.bp 1 0))),(5,.one (.one (.bp 2 0))),(9,.one (.one (.ext 7))),(11,.one (.one (.im (Value.int .i64 ((x1:Nat):Int))))),(10,.one (.one (.im (Value.int .i64 ((i.2.1.length:Nat):Int)))))],en:=[(1,.box [.im (Value.int .i64 i.1.1.1),.im (Value.int .i64 i.1.1.2),.im (Value.int .i64 i.1.2.1),.im (Value.int .i64 i.1.2.2)]),(2,.box [.im (Value.bool i.2.2.x.neg),.ext 3,.ext 4,.im (Value.bool i.2.2.y.neg),.ext 5,.ext 6]),(3,.view 3 [.int] i.2.2.x.num []),(4,.view 3 [.int] i.2.2.x.den []),(5,.view 3 [.int] i.2.2.y.num []),(6,.view 3 [.int] i.2.2.y.den []),(7,.view 39 [.sl 38 [.int,.int]] (areasD i.2.1) [])] }) (λ x1=>x1<=i.2.1.length/\∀ j,j<x1->cpZ (i.2.1.getD j []) i.2.2<0) (λ x1=>i.2.1.length-x1) (λ _=>[]))]) ?_
 rintro ⟨b,ar,p⟩ hpre
 have hpre:p.has/\ar.length<=1048576/\bxOk b:=hpre
 refine by_nf (q:=(∃ x1:Nat,(x1<=ar.length/\∀ j,j<x1->cpZ (ar.getD j []) p<0)/\((vI (0:Int)=vI (nI x1))/\(vI (nI ((areasD ar).length))=vI (nI ar.length))/\(rf (vI b.1.1))/\(rf (vI b.1.2))/\(rf (vI b.2.1))/\(rf (vI b.2.2))/\(rf (Value.bool p.x.neg))/\(rf (Value.bool p.y.neg))/\(rf (p.x.num))/\(rf (p.x.den))/\(rf (p.y.num))/\(rf (p.y.den))/\(rf (areasD ar))))/\∀ x1:Nat,(x1<=ar.length/\∀ j,j<x1->cpZ (ar.getD j []) p<0)->(((decide ((nI x1)<(nI ar.length)))=true->((0<=(nI x1)/\(nI x1)<((areasD ar).length:Int))/\((x1<(areasD ar).length)/\(∃ i1:(List V2)×PtD,[DA.one (DC.sl 38 [.int,.int] (((((areasD ar).getD x1 []).getD 0 (.int 0))).r)),DA.agg [cB p.x.neg,cS p.x.num,cS p.x.den,cB p.y.neg,cS p.y.num,cS p.y.den]]=sContains_con.args i1/\sContains_con.pre i1/\(((decide ((cpZ i1.1 i1.2)≥(0:Int)))=true->((Value.bool false=Value.bool (freeA b ar p))))/\((decide ((cpZ i1.1 i1.2)≥(0:Int)))=false->(∃ y2:Nat,(y2<=ar.length/\∀ j,j<y2->cpZ (ar.getD j []) p<0)/\(ar.length-y2<ar.length-x1)/\((vI (wR ((nI x1)+(1:Int)))=vI (nI y2))/\(rf (vI (nI ar.length)))/\(rf (vI b.1.1))/\(rf (vI b.1.2))/\(rf (vI b.2.1))/\(rf (vI b.2.2))/\(rf (Value.bool p.x.neg))/\(rf (Value.bool p.y.neg))/\(rf (p.x.num))/\(rf (p.x.den))/\(rf (p.y.num))/\(rf (p.y.den))/\(rf (areasD ar))))))))))/\((decide ((nI x1)<(nI ar.length)))=false->(∃ i2:(V2×V2)×PtD,[DA.agg [cI b.1.1,cI b.1.2,cI b.2.1,cI b.2.2],DA.agg [cB p.x.neg,cS p.x.num,cS p.x.den,cB p.y.neg,cS p.y.num,cS p.y.den]]=sInBox_con.args i2/\sInBox_con.pre i2/\((Value.bool (inBoxB i2.1 i2.2)=Value.bool (freeA b ar p))))))) (by kernel_rfl) ?_
 delta vI wR nI
 have hal:=areasD_length ar
 refine ⟨⟨0,by
  exact ⟨Nat.zero_le _,λ j hj=>absurd hj (Nat.not_lt_zero j)⟩,?_⟩,?_⟩
 ·refine ⟨?_,?_,rfl,rfl,rfl,rfl,rfl,rfl,rfl,rfl,rfl,rfl,rfl⟩
  ·rfl
  rw [hal]
 intro (k:Nat) hki1
 have hki1:k<=ar.length/\∀ j,j<k->cpZ (ar.getD j []) p<0:=hki1
 refine And.symm ⟨λ c16=>?_,λ c16=>?_⟩
 ·try simp only [nrm] at c16
  refine ⟨(b,p),by
   rfl,by
   exact ⟨hpre.1,hpre.2.2⟩,?_⟩
  rw [freeA_none (λ j hj=>hki1.2 j (by omega))]
 try simp only [nrm] at c16
 refine ao (by omega) λ o17=>?_
 refine ao (by omega) λ o18=>?_
 refine ⟨(ar.getD k [],p),by
  rw [areasD_at (by omega)];rfl,by
  exact hpre.1,?_⟩
 refine ⟨λ c22=>?_,λ c22=>?_⟩
 ·replace c22:(decide ((cpZ (ar.getD k []) p)≥(0:Int)))=true:=c22
  try simp only [nrm] at c22
  rw [freeA_hit (show k<ar.length by omega) c22]
 replace c22:(decide ((cpZ (ar.getD k []) p)≥(0:Int)))=false:=c22
 try simp only [nrm] at c22
 refine ⟨k+1,by
  exact ⟨by omega,lt_step hki1.2 (by omega)⟩,by
  omega,?_⟩
 refine ⟨?_,rfl,rfl,rfl,rfl,rfl,rfl,rfl,rfl,rfl,rfl,rfl,rfl⟩
 exact vint (wrap64 (by omega) (by omega))
end Go.Proofs.YtlejeadlmpkffaaGreat
