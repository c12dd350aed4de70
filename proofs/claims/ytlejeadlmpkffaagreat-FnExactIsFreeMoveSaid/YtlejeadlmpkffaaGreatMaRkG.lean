import Derived.Test.YtlejeadlmpkffaaGreatMaRkF
namespace Go.Proofs.YtlejeadlmpkffaaGreat
set_option maxRecDepth 100000
set_option linter.unusedVariables false
set_option linter.unusedSimpArgs false
open Go.RowKit
def betB (x a b:Fr):Bool:=decide (Fr.cmp x (Fr.min a b)≥0) && decide (Fr.cmp x (Fr.max a b)<=0)
def spanB (p a b:Pq):Bool:=betB p.x a.x b.x && betB p.y a.y b.y
def meetB (a b c d:Pq):Bool:=
 (decide (sideZ a b c=0) && spanB c a b) || ((decide (sideZ a b d=0) && spanB d a b) || ((decide (sideZ c d a=0) && spanB a c d) || ((decide (sideZ c d b=0) && spanB b c d) ||
  (decide (sideZ a b c*sideZ a b d<0) && decide (sideZ c d a*sideZ c d b<0)))))
theorem sgn_bd (r:Fr):-1<=r.sgn/\r.sgn<=1:=by rw [Fr.sgn_z];unfold cmpI;split <;> (try split) <;> omega
theorem side_bd (p q r:Pq):-1<=sideZ p q r/\sideZ p q r<=1:=sgn_bd _
theorem side_mul (p q r s t u:Pq):IntKind.i64.wrap (sideZ p q r*sideZ s t u)=sideZ p q r*sideZ s t u:=by
 have h1:=side_bd p q r
 have h2:=side_bd s t u
 generalize sideZ p q r=x at *
 generalize sideZ s t u=y at *
 have hx:x=-1∨x=0∨x=1:=by omega
 rcases hx with rfl|rfl|rfl
 ·exact wrap64 (by omega) (by omega)
 ·exact wrap64 (by omega) (by omega)
 ·exact wrap64 (by omega) (by omega)
theorem meet_sym (a b c d:Pq):meetB a b c d=meetB c d a b:=by
 unfold meetB
 generalize (decide (sideZ a b c=0) && spanB c a b)=x1
 generalize (decide (sideZ a b d=0) && spanB d a b)=x2
 generalize (decide (sideZ c d a=0) && spanB a c d)=x3
 generalize (decide (sideZ c d b=0) && spanB b c d)=x4
 generalize decide (sideZ a b c*sideZ a b d<0)=x5
 generalize decide (sideZ c d a*sideZ c d b<0)=x6
 revert x1 x2 x3 x4 x5 x6
 decide
def edgeB (l:List V2) (p q:Pq) (k:Nat):Bool:=meetB p q (ptAt l k) (ptAt l ((k+1)%l.length))
def smB (l:List V2) (p q:Pq):Bool:=decide (conZ l p≥0) || (decide (conZ l q≥0) || (List.range l.length).any (edgeB l p q))
theorem smB_edge {l:List V2} {p q:Pq} {k:Nat} (hk:k<l.length) (h:edgeB l p q k=true):smB l p q=true:=by
 have:(List.range l.length).any (edgeB l p q)=true:=List.any_eq_true.2 ⟨k,List.mem_range.2 hk,h⟩
 unfold smB;rw [this];simp
theorem smB_one {l:List V2} {p q:Pq} (h:conZ l p≥0):smB l p q=true:=by unfold smB;rw [decide_eq_true h];rfl
theorem smB_two {l:List V2} {p q:Pq} (h:conZ l q≥0):smB l p q=true:=by unfold smB;rw [decide_eq_true h];simp
theorem smB_no {l:List V2} {p q:Pq} (h1:¬ conZ l p≥0) (h2:¬ conZ l q≥0) (h:∀ j,j<l.length->edgeB l p q j=false):smB l p q=false:=by
 have:(List.range l.length).any (edgeB l p q)=false:=by
  rw [List.any_eq_false];intro j hj;rw [h j (List.mem_range.1 hj)];simp
 unfold smB;rw [this,decide_eq_false h1,decide_eq_false h2];rfl
def smZ (l:List V2) (p q:PtD):Bool:=isPoly l && (okP p && (okP q && smB l (pqR p) (pqR q)))
theorem ptAt_good {l:List V2} (h:l.all isVec=true) {k:Nat} (hk:k<l.length):(ptAt l k).good=true:=by
 have hv:=vec_i64 h hk
 unfold Pq.good ptAt ptV
 rw [Fr.good_some (ofInt_v (int_nl hv.1)),Fr.good_some (ofInt_v (int_nl hv.2))];rfl
theorem pqR_good {p:PtD} (hh:p.has) (h:okP p=true):(pqR p).good=true:=by
 obtain ⟨_,_,_,_,_,_,e7,e8⟩:=pqR_ok hh h
 unfold Pq.good;rw [Fr.d_good.2 e7,Fr.d_good.2 e8];rfl
def isBetween_con:Con:={ ι:=Fr×Fr×Fr,pre:=λ i=>True,args:=λ i=>[.agg [.im (.bool (decide (i.1.z<0))),.sl 3 [.int] (L i.1.z.natAbs),.sl 3 [.int] (L i.1.d)],.agg [.im (.bool (decide (i.2.1.z<0))),.sl 3 [.int] (L i.2.1.z.natAbs),.sl 3 [.int] (L i.2.1.d)],.agg [.im (.bool (decide (i.2.2.z<0))),.sl 3 [.int] (L i.2.2.z.natAbs),.sl 3 [.int] (L i.2.2.d)]],res:=λ i=>⟨false,[none],[.im (Value.bool (betB i.1 i.2.1 i.2.2))]⟩ }
theorem isBetween_ok:isBetween_con.Ok Tryz.prog 131:=by
 refine fok (X:=⟨tt,[(166,ratMin_con),(93,ratCmp_con),(167,ratMax_con)],[],21,[]⟩) mixed tt_ok (CTok.cons ratMin_ok (CTok.cons ratCmp_ok (CTok.cons ratMax_ok (CTok.nil _)))) Tryz.func131 (λ _=>[]) ?_
 rintro ⟨x,a,b⟩ hpre
 have hpre:True:=hpre
 refine by_nf (q:=∃ i1:Fr×Fr,[dF a,dF b]=ratMin_con.args i1/\ratMin_con.pre i1/\(∃ i2:Fr×Fr,[dF x,dF (Fr.min i1.1 i1.2)]=ratCmp_con.args i2/\ratCmp_con.pre i2/\(((decide ((Fr.cmp i2.1 i2.2)≥(0:Int)))=true->(∃ i3:Fr×Fr,[dF a,dF b]=ratMax_con.args i3/\ratMax_con.pre i3/\(∃ i4:Fr×Fr,[dF x,dF (Fr.max i3.1 i3.2)]=ratCmp_con.args i4/\ratCmp_con.pre i4/\((Value.bool (decide ((Fr.cmp i4.1 i4.2)<=(0:Int)))=Value.bool (betB x a b))))))/\((decide ((Fr.cmp i2.1 i2.2)≥(0:Int)))=false->((Value.bool false=Value.bool (betB x a b))))))) (by kernel_rfl) ?_
 refine ⟨(a,b),by
  rfl,by
  trivial,?_⟩
 refine ⟨(x,(Fr.min a b)),by
  rfl,by
  trivial,?_⟩
 refine And.symm ⟨λ c7=>?_,λ c7=>?_⟩
 ·replace c7:(decide ((Fr.cmp x (Fr.min a b))≥(0:Int)))=false:=c7
  try simp only [nrm] at c7
  exact congrArg Value.bool (by unfold betB;first|(rw [decide_eq_true (show Fr.cmp x (Fr.min a b)≥0 by omega)];rfl)|(rw [decide_eq_false (show ¬ Fr.cmp x (Fr.min a b)≥0 by omega)];rfl))
 replace c7:(decide ((Fr.cmp x (Fr.min a b))≥(0:Int)))=true:=c7
 try simp only [nrm] at c7
 refine ⟨(a,b),by
  rfl,by
  trivial,?_⟩
 refine ⟨(x,(Fr.max a b)),by
  rfl,by
  trivial,?_⟩
 exact congrArg Value.bool (by unfold betB;first|(rw [decide_eq_true (show Fr.cmp x (Fr.min a b)≥0 by omega)];rfl)|(rw [decide_eq_false (show ¬ Fr.cmp x (Fr.min a b)≥0 by omega)];rfl))
def isInSpan_con:Con:={ ι:=Pq×Pq×Pq,pre:=λ i=>True,args:=λ i=>[.agg [.im (.bool (decide (i.1.x.z<0))),.sl 3 [.int] (L i.1.x.z.natAbs),.sl 3 [.int] (L i.1.x.d),.im (.bool (decide (i.1.y.z<0))),.sl 3 [.int] (L i.1.y.z.natAbs),.sl 3 [.int] (L i.1.y.d)],.agg [.im (.bool (decide (i.2.1.x.z<0))),.sl 3 [.int] (L i.2.1.x.z.natAbs),.sl 3 [.int] (L i.2.1.x.d),.im (.bool (decide (i.2.1.y.z<0))),.sl 3 [.int] (L i.2.1.y.z.natAbs),.sl 3 [.int] (L i.2.1.y.d)],.agg [.im (.bool (decide (i.2.2.x.z<0))),.sl 3 [.int] (L i.2.2.x.z.natAbs),.sl 3 [.int] (L i.2.2.x.d),.im (.bool (decide (i.2.2.y.z<0))),.sl 3 [.int] (L i.2.2.y.z.natAbs),.sl 3 [.int] (L i.2.2.y.d)]],res:=λ i=>⟨false,[none],[.im (Value.bool (spanB i.1 i.2.1 i.2.2))]⟩ }
theorem isInSpan_ok:isInSpan_con.Ok Tryz.prog 97:=by
 refine fok (X:=⟨tt,[(131,isBetween_con)],[],23,[]⟩) mixed tt_ok (CTok.cons isBetween_ok (CTok.nil _)) Tryz.func97 (λ _=>[]) ?_
 rintro ⟨p,a,b⟩ hpre
 have hpre:True:=hpre
 refine by_nf (q:=∃ i1:Fr×Fr×Fr,[dF p.x,dF a.x,dF b.x]=isBetween_con.args i1/\isBetween_con.pre i1/\(((betB i1.1 i1.2.1 i1.2.2)=true->(∃ i2:Fr×Fr×Fr,[dF p.y,dF a.y,dF b.y]=isBetween_con.args i2/\isBetween_con.pre i2/\((Value.bool (betB i2.1 i2.2.1 i2.2.2)=Value.bool (spanB p a b)))))/\((betB i1.1 i1.2.1 i1.2.2)=false->((Value.bool false=Value.bool (spanB p a b)))))) (by kernel_rfl) ?_
 refine ⟨(p.x,a.x,b.x),by
  rfl,by
  trivial,?_⟩
 refine And.symm ⟨λ c4=>?_,λ c4=>?_⟩
 ·replace c4:(betB p.x a.x b.x)=false:=c4
  try simp only [nrm] at c4
  exact congrArg Value.bool (by unfold spanB;rw [c4];rfl)
 replace c4:(betB p.x a.x b.x)=true:=c4
 try simp only [nrm] at c4
 refine ⟨(p.y,a.y,b.y),by
  rfl,by
  trivial,?_⟩
 exact congrArg Value.bool (by unfold spanB;rw [c4];rfl)
def l08Between_con:Con:={ ι:=Pq×Pq×Pq,pre:=λ i=>True,args:=λ i=>[.agg [.im (.bool (decide (i.1.x.z<0))),.sl 3 [.int] (L i.1.x.z.natAbs),.sl 3 [.int] (L i.1.x.d),.im (.bool (decide (i.1.y.z<0))),.sl 3 [.int] (L i.1.y.z.natAbs),.sl 3 [.int] (L i.1.y.d)],.agg [.im (.bool (decide (i.2.1.x.z<0))),.sl 3 [.int] (L i.2.1.x.z.natAbs),.sl 3 [.int] (L i.2.1.x.d),.im (.bool (decide (i.2.1.y.z<0))),.sl 3 [.int] (L i.2.1.y.z.natAbs),.sl 3 [.int] (L i.2.1.y.d)],.agg [.im (.bool (decide (i.2.2.x.z<0))),.sl 3 [.int] (L i.2.2.x.z.natAbs),.sl 3 [.int] (L i.2.2.x.d),.im (.bool (decide (i.2.2.y.z<0))),.sl 3 [.int] (L i.2.2.y.z.natAbs),.sl 3 [.int] (L i.2.2.y.d)]],res:=λ i=>⟨false,[none],[.im (Value.bool (spanB i.1 i.2.1 i.2.2))]⟩ }
theorem l08Between_ok:l08Between_con.Ok Tryz.prog 80:=by
 refine fok (X:=⟨tt,[(105,sRatMin_con),(82,sRatCmp_con),(106,sRatMax_con)],[],51,[]⟩) mixed tt_ok (CTok.cons sRatMin_ok (CTok.cons sRatCmp_ok (CTok.cons sRatMax_ok (CTok.nil _)))) Tryz.func80 (λ _=>[]) ?_
 rintro ⟨p,a,b⟩ hpre
 have hpre:True:=hpre
 refine by_nf (q:=∃ i1:Fr×Fr,[dF a.x,dF b.x]=sRatMin_con.args i1/\sRatMin_con.pre i1/\(∃ i2:Fr×Fr,[dF p.x,dF (Fr.min i1.1 i1.2)]=sRatCmp_con.args i2/\sRatCmp_con.pre i2/\(((decide ((Fr.cmp i2.1 i2.2)≥(0:Int)))=true->(∃ i3:Fr×Fr,[dF a.x,dF b.x]=sRatMax_con.args i3/\sRatMax_con.pre i3/\(∃ i4:Fr×Fr,[dF p.x,dF (Fr.max i3.1 i3.2)]=sRatCmp_con.args i4/\sRatCmp_con.pre i4/\(((decide ((Fr.cmp i4.1 i4.2)<=(0:Int)))=true->(∃ i5:Fr×Fr,[dF a.y,dF b.y]=sRatMin_con.args i5/\sRatMin_con.pre i5/\(∃ i6:Fr×Fr,[dF p.y,dF (Fr.min i5.1 i5.2)]=sRatCmp_con.args i6/\sRatCmp_con.pre i6/\(((decide ((Fr.cmp i6.1 i6.2)≥(0:Int)))=true->(∃ i7:Fr×Fr,[dF a.y,dF b.y]=sRatMax_con.args i7/\sRatMax_con.pre i7/\(∃ i8:Fr×Fr,[dF p.y,dF (Fr.max i7.1 i7.2)]=sRatCmp_con.args i8/\sRatCmp_con.pre i8/\((Value.bool (decide ((Fr.cmp i8.1 i8.2)<=(0:Int)))=Value.bool (spanB p a b))))))/\((decide ((Fr.cmp i6.1 i6.2)≥(0:Int)))=false->((Value.bool false=Value.bool (spanB p a b))))))))/\((decide ((Fr.cmp i4.1 i4.2)<=(0:Int)))=false->((Value.bool false=Value.bool (spanB p a b))))))))/\((decide ((Fr.cmp i2.1 i2.2)≥(0:Int)))=false->((Value.bool false=Value.bool (spanB p a b))))))) (by kernel_rfl) ?_
 refine ⟨(a.x,b.x),by
  rfl,by
  trivial,?_⟩
 refine ⟨(p.x,(Fr.min a.x b.x)),by
  rfl,by
  trivial,?_⟩
 refine And.symm ⟨λ c7=>?_,λ c7=>?_⟩
 ·replace c7:(decide ((Fr.cmp p.x (Fr.min a.x b.x))≥(0:Int)))=false:=c7
  try simp only [nrm] at c7
  exact congrArg Value.bool (by unfold spanB betB;simp_all;try omega)
 replace c7:(decide ((Fr.cmp p.x (Fr.min a.x b.x))≥(0:Int)))=true:=c7
 try simp only [nrm] at c7
 refine ⟨(a.x,b.x),by
  rfl,by
  trivial,?_⟩
 refine ⟨(p.x,(Fr.max a.x b.x)),by
  rfl,by
  trivial,?_⟩
 refine And.symm ⟨λ c14=>?_,λ c14=>?_⟩
 ·replace c14:(decide ((Fr.cmp p.x (Fr.max a.x b.x))<=(0:Int)))=false:=c14
  try simp only [nrm] at c14
  exact congrArg Value.bool (by unfold spanB betB;simp_all;try omega)
 replace c14:(decide ((Fr.cmp p.x (Fr.max a.x b.x))<=(0:Int)))=true:=c14
 try simp only [nrm] at c14
 refine ⟨(a.y,b.y),by
  rfl,by
  trivial,?_⟩
 refine ⟨(p.y,(Fr.min a.y b.y)),by
  rfl,by
  trivial,?_⟩
 refine And.symm ⟨λ c21=>?_,λ c21=>?_⟩
 ·replace c21:(decide ((Fr.cmp p.y (Fr.min a.y b.y))≥(0:Int)))=false:=c21
  try simp only [nrm] at c21
  exact congrArg Value.bool (by unfold spanB betB;simp_all;try omega)
 replace c21:(decide ((Fr.cmp p.y (Fr.min a.y b.y))≥(0:Int)))=true:=c21
 try simp only [nrm] at c21
 refine ⟨(a.y,b.y),by
  rfl,by
  trivial,?_⟩
 refine ⟨(p.y,(Fr.max a.y b.y)),by
  rfl,by
  trivial,?_⟩
 exact congrArg Value.bool (by unfold spanB betB;simp_all;try omega)
def meet_con:Con:={ ι:=Pq×Pq×Pq×Pq,pre:=λ i=>True,args:=λ i=>[.agg [.im (.bool (decide (i.1.x.z<0))),.sl 3 [.int] (L i.1.x.z.natAbs),.sl 3 [.int] (L i.1.x.d),.im (.bool (decide (i.1.y.z<0))),.sl 3 [.int] (L i.1.y.z.natAbs),.sl 3 [.int] (L i.1.y.d)],.agg [.im (.bool (decide (i.2.1.x.z<0))),.sl 3 [.int] (L i.2.1.x.z.natAbs),.sl 3 [.int] (L i.2.1.x.d),.im (.bool (decide (i.2.1.y.z<0))),.sl 3 [.int] (L i.2.1.y.z.natAbs),.sl 3 [.int] (L i.2.1.y.d)],.agg [.im (.bool (decide (i.2.2.1.x.z<0))),.sl 3 [.int] (L i.2.2.1.x.z.natAbs),.sl 3 [.int] (L i.2.2.1.x.d),.im (.bool (decide (i.2.2.1.y.z<0))),.sl 3 [.int] (L i.2.2.1.y.z.natAbs),.sl 3 [.int] (L i.2.2.1.y.d)],.agg [.im (.bool (decide (i.2.2.2.x.z<0))),.sl 3 [.int] (L i.2.2.2.x.z.natAbs),.sl 3 [.int] (L i.2.2.2.x.d),.im (.bool (decide (i.2.2.2.y.z<0))),.sl 3 [.int] (L i.2.2.2.y.z.natAbs),.sl 3 [.int] (L i.2.2.2.y.d)]],res:=λ i=>⟨false,[none],[.im (Value.bool (meetB i.1 i.2.1 i.2.2.1 i.2.2.2))]⟩ }
theorem meet_ok:meet_con.Ok Tryz.prog 72:=by
 refine fok (X:=⟨tt,[(95,side_con),(97,isInSpan_con)],[],72,[]⟩) mixed tt_ok (CTok.cons side_ok (CTok.cons isInSpan_ok (CTok.nil _))) Tryz.func72 (λ _=>[]) ?_
 rintro ⟨a,b,c,d⟩ hpre
 have hpre:True:=hpre
 refine by_nf (q:=∃ i1:Pq×Pq×Pq,[dP a,dP b,dP c]=side_con.args i1/\side_con.pre i1/\(∃ i2:Pq×Pq×Pq,[dP a,dP b,dP d]=side_con.args i2/\side_con.pre i2/\(∃ i3:Pq×Pq×Pq,[dP c,dP d,dP a]=side_con.args i3/\side_con.pre i3/\(∃ i4:Pq×Pq×Pq,[dP c,dP d,dP b]=side_con.args i4/\side_con.pre i4/\((((sideZ i1.1 i1.2.1 i1.2.2) == (0:Int))=true->(∃ i5:Pq×Pq×Pq,[dP c,dP a,dP b]=isInSpan_con.args i5/\isInSpan_con.pre i5/\(((spanB i5.1 i5.2.1 i5.2.2)=true->((Value.bool true=Value.bool (meetB a b c d))))/\((spanB i5.1 i5.2.1 i5.2.2)=false->((((sideZ i2.1 i2.2.1 i2.2.2) == (0:Int))=true->(∃ i6:Pq×Pq×Pq,[dP d,dP a,dP b]=isInSpan_con.args i6/\isInSpan_con.pre i6/\(((spanB i6.1 i6.2.1 i6.2.2)=true->((Value.bool true=Value.bool (meetB a b c d))))/\((spanB i6.1 i6.2.1 i6.2.2)=false->((((sideZ i3.1 i3.2.1 i3.2.2) == (0:Int))=true->(∃ i7:Pq×Pq×Pq,[dP a,dP c,dP d]=isInSpan_con.args i7/\isInSpan_con.pre i7/\(((spanB i7.1 i7.2.1 i7.2.2)=true->((Value.bool true=Value.bool (meetB a b c d))))/\((spanB i7.1 i7.2.1 i7.2.2)=false->((((sideZ i4.1 i4.2.1 i4.2.2) == (0:Int))=true->(∃ i8:Pq×Pq×Pq,[dP b,dP c,dP d]=isInSpan_con.args i8/\isInSpan_con.pre i8/\(((spanB i8.1 i8.2.1 i8.2.2)=true->((Value.bool true=Value.bool (meetB a b c d))))/\((spanB i8.1 i8.2.1 i8.2.2)=false->(((decide ((wR ((sideZ i1.1 i1.2.1 i1.2.2)*(sideZ i2.1 i2.2.1 i2.2.2)))<(0:Int)))=true->((Value.bool (decide ((wR ((sideZ i3.1 i3.2.1 i3.2.2)*(sideZ i4.1 i4.2.1 i4.2.2)))<(0:Int)))=Value.bool (meetB a b c d))))/\((decide ((wR ((sideZ i1.1 i1.2.1 i1.2.2)*(sideZ i2.1 i2.2.1 i2.2.2)))<(0:Int)))=false->((Value.bool false=Value.bool (meetB a b c d)))))))))/\(((sideZ i4.1 i4.2.1 i4.2.2) == (0:Int))=false->(((decide ((wR ((sideZ i1.1 i1.2.1 i1.2.2)*(sideZ i2.1 i2.2.1 i2.2.2)))<(0:Int)))=true->((Value.bool (decide ((wR ((sideZ i3.1 i3.2.1 i3.2.2)*(sideZ i4.1 i4.2.1 i4.2.2)))<(0:Int)))=Value.bool (meetB a b c d))))/\((decide ((wR ((sideZ i1.1 i1.2.1 i1.2.2)*(sideZ i2.1 i2.2.1 i2.2.2)))<(0:Int)))=false->((Value.bool false=Value.bool (meetB a b c d)))))))))))/\(((sideZ i3.1 i3.2.1 i3.2.2) == (0:Int))=false->((((sideZ i4.1 i4.2.1 i4.2.2) == (0:Int))=true->(∃ i9:Pq×Pq×Pq,[dP b,dP c,dP d]=isInSpan_con.args i9/\isInSpan_con.pre i9/\(((spanB i9.1 i9.2.1 i9.2.2)=true->((Value.bool true=Value.bool (meetB a b c d))))/\((spanB i9.1 i9.2.1 i9.2.2)=false->(((decide ((wR ((sideZ i1.1 i1.2.1 i1.2.2)*(sideZ i2.1 i2.2.1 i2.2.2)))<(0:Int)))=true->((Value.bool (decide ((wR ((sideZ i3.1 i3.2.1 i3.2.2)*(sideZ i4.1 i4.2.1 i4.2.2)))<(0:Int)))=Value.bool (meetB a b c d))))/\((decide ((wR ((sideZ i1.1 i1.2.1 i1.2.2)*(sideZ i2.1 i2.2.1 i2.2.2)))<(0:Int)))=false->((Value.bool false=Value.bool (meetB a b c d)))))))))/\(((sideZ i4.1 i4.2.1 i4.2.2) == (0:Int))=false->(((decide ((wR ((sideZ i1.1 i1.2.1 i1.2.2)*(sideZ i2.1 i2.2.1 i2.2.2)))<(0:Int)))=true->((Value.bool (decide ((wR ((sideZ i3.1 i3.2.1 i3.2.2)*(sideZ i4.1 i4.2.1 i4.2.2)))<(0:Int)))=Value.bool (meetB a b c d))))/\((decide ((wR ((sideZ i1.1 i1.2.1 i1.2.2)*(sideZ i2.1 i2.2.1 i2.2.2)))<(0:Int)))=false->((Value.bool false=Value.bool (meetB a b c d)))))))))))))/\(((sideZ i2.1 i2.2.1 i2.2.2) == (0:Int))=false->((((sideZ i3.1 i3.2.1 i3.2.2) == (0:Int))=true->(∃ i10:Pq×Pq×Pq,[dP a,dP c,dP d]=isInSpan_con.args i10/\isInSpan_con.pre i10/\(((spanB i10.1 i10.2.1 i10.2.2)=true->((Value.bool true=Value.bool (meetB a b c d))))/\((spanB i10.1 i10.2.1 i10.2.2)=false->((((sideZ i4.1 i4.2.1 i4.2.2) == (0:Int))=true->(∃ i11:Pq×Pq×Pq,[dP b,dP c,dP d]=isInSpan_con.args i11/\isInSpan_con.pre i11/\(((spanB i11.1 i11.2.1 i11.2.2)=true->((Value.bool true=Value.bool (meetB a b c d))))/\((spanB i11.1 i11.2.1 i11.2.2)=false->(((decide ((wR ((sideZ i1.1 i1.2.1 i1.2.2)*(sideZ i2.1 i2.2.1 i2.2.2)))<(0:Int)))=true->((Value.bool (decide ((wR ((sideZ i3.1 i3.2.1 i3.2.2)*(sideZ i4.1 i4.2.1 i4.2.2)))<(0:Int)))=Value.bool (meetB a b c d))))/\((decide ((wR ((sideZ i1.1 i1.2.1 i1.2.2)*(sideZ i2.1 i2.2.1 i2.2.2)))<(0:Int)))=false->((Value.bool false=Value.bool (meetB a b c d)))))))))/\(((sideZ i4.1 i4.2.1 i4.2.2) == (0:Int))=false->(((decide ((wR ((sideZ i1.1 i1.2.1 i1.2.2)*(sideZ i2.1 i2.2.1 i2.2.2)))<(0:Int)))=true->((Value.bool (decide ((wR ((sideZ i3.1 i3.2.1 i3.2.2)*(sideZ i4.1 i4.2.1 i4.2.2)))<(0:Int)))=Value.bool (meetB a b c d))))/\((decide ((wR ((sideZ i1.1 i1.2.1 i1.2.2)*(sideZ i2.1 i2.2.1 i2.2.2)))<(0:Int)))=false->((Value.bool false=Value.bool (meetB a b c d)))))))))))/\(((sideZ i3.1 i3.2.1 i3.2.2) == (0:Int))=false->((((sideZ i4.1 i4.2.1 i4.2.2) == (0:Int))=true->(∃ i12:Pq×Pq×Pq,[dP b,dP c,dP d]=isInSpan_con.args i12/\isInSpan_con.pre i12/\(((spanB i12.1 i12.2.1 i12.2.2)=true->((Value.bool true=Value.bool (meetB a b c d))))/\((spanB i12.1 i12.2.1 i12.2.2)=false->(((decide ((wR ((sideZ i1.1 i1.2.1 i1.2.2)*(sideZ i2.1 i2.2.1 i2.2.2)))<(0:Int)))=true->((Value.bool (decide ((wR ((sideZ i3.1 i3.2.1 i3.2.2)*(sideZ i4.1 i4.2.1 i4.2.2)))<(0:Int)))=Value.bool (meetB a b c d))))/\((decide ((wR ((sideZ i1.1 i1.2.1 i1.2.2)*(sideZ i2.1 i2.2.1 i2.2.2)))<(0:Int)))=false->((Value.bool false=Value.bool (meetB a b c d)))))))))/\(((sideZ i4.1 i4.2.1 i4.2.2) == (0:Int))=false->(((decide ((wR ((sideZ i1.1 i1.2.1 i1.2.2)*(sideZ i2.1 i2.2.1 i2.2.2)))<(0:Int)))=true->((Value.bool (decide ((wR ((sideZ i3.1 i3.2.1 i3.2.2)*(sideZ i4.1 i4.2.1 i4.2.2)))<(0:Int)))=Value.bool (meetB a b c d))))/\((decide ((wR ((sideZ i1.1 i1.2.1 i1.2.2)*(sideZ i2.1 i2.2.1 i2.2.2)))<(0:Int)))=false->((Value.bool false=Value.bool (meetB a b c d)))))))))))))))/\(((sideZ i1.1 i1.2.1 i1.2.2) == (0:Int))=false->((((sideZ i2.1 i2.2.1 i2.2.2) == (0:Int))=true->(∃ i13:Pq×Pq×Pq,[dP d,dP a,dP b]=isInSpan_con.args i13/\isInSpan_con.pre i13/\(((spanB i13.1 i13.2.1 i13.2.2)=true->((Value.bool true=Value.bool (meetB a b c d))))/\((spanB i13.1 i13.2.1 i13.2.2)=false->((((sideZ i3.1 i3.2.1 i3.2.2) == (0:Int))=true->(∃ i14:Pq×Pq×Pq,[dP a,dP c,dP d]=isInSpan_con.args i14/\isInSpan_con.pre i14/\(((spanB i14.1 i14.2.1 i14.2.2)=true->((Value.bool true=Value.bool (meetB a b c d))))/\((spanB i14.1 i14.2.1 i14.2.2)=false->((((sideZ i4.1 i4.2.1 i4.2.2) == (0:Int))=true->(∃ i15:Pq×Pq×Pq,[dP b,dP c,dP d]=isInSpan_con.args i15/\isInSpan_con.pre i15/\(((spanB i15.1 i15.2.1 i15.2.2)=true->((Value.bool true=Value.bool (meetB a b c d))))/\((spanB i15.1 i15.2.1 i15.2.2)=false->(((decide ((wR ((sideZ i1.1 i1.2.1 i1.2.2)*(sideZ i2.1 i2.2.1 i2.2.2)))<(0:Int)))=true->((Value.bool (decide ((wR ((sideZ i3.1 i3.2.1 i3.2.2)*(sideZ i4.1 i4.2.1 i4.2.2)))<(0:Int)))=Value.bool (meetB a b c d))))/\((decide ((wR ((sideZ i1.1 i1.2.1 i1.2.2)*(sideZ i2.1 i2.2.1 i2.2.2)))<(0:Int)))=false->((Value.bool false=Value.bool (meetB a b c d)))))))))/\(((sideZ i4.1 i4.2.1 i4.2.2) == (0:Int))=false->(((decide ((wR ((sideZ i1.1 i1.2.1 i1.2.2)*(sideZ i2.1 i2.2.1 i2.2.2)))<(0:Int)))=true->((Value.bool (decide ((wR ((sideZ i3.1 i3.2.1 i3.2.2)*(sideZ i4.1 i4.2.1 i4.2.2)))<(0:Int)))=Value.bool (meetB a b c d))))/\((decide ((wR ((sideZ i1.1 i1.2.1 i1.2.2)*(sideZ i2.1 i2.2.1 i2.2.2)))<(0:Int)))=false->((Value.bool false=Value.bool (meetB a b c d)))))))))))/\(((sideZ i3.1 i3.2.1 i3.2.2) == (0:Int))=false->((((sideZ i4.1 i4.2.1 i4.2.2) == (0:Int))=true->(∃ i16:Pq×Pq×Pq,[dP b,dP c,dP d]=isInSpan_con.args i16/\isInSpan_con.pre i16/\(((spanB i16.1 i16.2.1 i16.2.2)=true->((Value.bool true=Value.bool (meetB a b c d))))/\((spanB i16.1 i16.2.1 i16.2.2)=false->(((decide ((wR ((sideZ i1.1 i1.2.1 i1.2.2)*(sideZ i2.1 i2.2.1 i2.2.2)))<(0:Int)))=true->((Value.bool (decide ((wR ((sideZ i3.1 i3.2.1 i3.2.2)*(sideZ i4.1 i4.2.1 i4.2.2)))<(0:Int)))=Value.bool (meetB a b c d))))/\((decide ((wR ((sideZ i1.1 i1.2.1 i1.2.2)*(sideZ i2.1 i2.2.1 i2.2.2)))<(0:Int)))=false->((Value.bool false=Value.bool (meetB a b c d)))))))))/\(((sideZ i4.1 i4.2.1 i4.2.2) == (0:Int))=false->(((decide ((wR ((sideZ i1.1 i1.2.1 i1.2.2)*(sideZ i2.1 i2.2.1 i2.2.2)))<(0:Int)))=true->((Value.bool (decide ((wR ((sideZ i3.1 i3.2.1 i3.2.2)*(sideZ i4.1 i4.2.1 i4.2.2)))<(0:Int)))=Value.bool (meetB a b c d))))/\((decide ((wR ((sideZ i1.1 i1.2.1 i1.2.2)*(sideZ i2.1 i2.2.1 i2.2.2)))<(0:Int)))=false->((Value.bool false=Value.bool (meetB a b c d)))))))))))))/\(((sideZ i2.1 i2.2.1 i2.2.2) == (0:Int))=false->((((sideZ i3.1 i3.2.1 i3.2.2) == (0:Int))=true->(∃ i17:Pq×Pq×Pq,[dP a,dP c,dP d]=isInSpan_con.args i17/\isInSpan_con.pre i17/\(((spanB i17.1 i17.2.1 i17.2.2)=true->((Value.bool true=Value.bool (meetB a b c d))))/\((spanB i17.1 i17.2.1 i17.2.2)=false->((((sideZ i4.1 i4.2.1 i4.2.2) == (0:Int))=true->(∃ i18:Pq×Pq×Pq,[dP b,dP c,dP d]=isInSpan_con.args i18/\isInSpan_con.pre i18/\(((spanB i18.1 i18.2.1 i18.2.2)=true->((Value.bool true=Value.bool (meetB a b c d))))/\((spanB i18.1 i18.2.1 i18.2.2)=false->(((decide ((wR ((sideZ i1.1 i1.2.1 i1.2.2)*(sideZ i2.1 i2.2.1 i2.2.2)))<(0:Int)))=true->((Value.bool (decide ((wR ((sideZ i3.1 i3.2.1 i3.2.2)*(sideZ i4.1 i4.2.1 i4.2.2)))<(0:Int)))=Value.bool (meetB a b c d))))/\((decide ((wR ((sideZ i1.1 i1.2.1 i1.2.2)*(sideZ i2.1 i2.2.1 i2.2.2)))<(0:Int)))=false->((Value.bool false=Value.bool (meetB a b c d)))))))))/\(((sideZ i4.1 i4.2.1 i4.2.2) == (0:Int))=false->(((decide ((wR ((sideZ i1.1 i1.2.1 i1.2.2)*(sideZ i2.1 i2.2.1 i2.2.2)))<(0:Int)))=true->((Value.bool (decide ((wR ((sideZ i3.1 i3.2.1 i3.2.2)*(sideZ i4.1 i4.2.1 i4.2.2)))<(0:Int)))=Value.bool (meetB a b c d))))/\((decide ((wR ((sideZ i1.1 i1.2.1 i1.2.2)*(sideZ i2.1 i2.2.1 i2.2.2)))<(0:Int)))=false->((Value.bool false=Value.bool (meetB a b c d)))))))))))/\(((sideZ i3.1 i3.2.1 i3.2.2) == (0:Int))=false->((((sideZ i4.1 i4.2.1 i4.2.2) == (0:Int))=true->(∃ i19:Pq×Pq×Pq,[dP b,dP c,dP d]=isInSpan_con.args i19/\isInSpan_con.pre i19/\(((spanB i19.1 i19.2.1 i19.2.2)=true->((Value.bool true=Value.bool (meetB a b c d))))/\((spanB i19.1 i19.2.1 i19.2.2)=false->(((decide ((wR ((sideZ i1.1 i1.2.1 i1.2.2)*(sideZ i2.1 i2.2.1 i2.2.2)))<(0:Int)))=true->((Value.bool (decide ((wR ((sideZ i3.1 i3.2.1 i3.2.2)*(sideZ i4.1 i4.2.1 i4.2.2)))<(0:Int)))=Value.bool (meetB a b c d))))/\((decide ((wR ((sideZ i1.1 i1.2.1 i1.2.2)*(sideZ i2.1 i2.2.1 i2.2.2)))<(0:Int)))=false->((Value.bool false=Value.bool (meetB a b c d)))))))))/\(((sideZ i4.1 i4.2.1 i4.2.2) == (0:Int))=false->(((decide ((wR ((sideZ i1.1 i1.2.1 i1.2.2)*(sideZ i2.1 i2.2.1 i2.2.2)))<(0:Int)))=true->((Value.bool (decide ((wR ((sideZ i3.1 i3.2.1 i3.2.2)*(sideZ i4.1 i4.2.1 i4.2.2)))<(0:Int)))=Value.bool (meetB a b c d))))/\((decide ((wR ((sideZ i1.1 i1.2.1 i1.2.2)*(sideZ i2.1 i2.2.1 i2.2.2)))<(0:Int)))=false->((Value.bool false=Value.bool (meetB a b c d))))))))))))))))) (by kernel_rfl) ?_
 delta wR
 have q1:=side_mul a b c a b d
 have q2:=side_mul c d a c d b
 refine ⟨(a,b,c),by
  rfl,by
  trivial,?_⟩
 refine ⟨(a,b,d),by
  rfl,by
  trivial,?_⟩
 refine ⟨(c,d,a),by
  rfl,by
  trivial,?_⟩
 refine ⟨(c,d,b),by
  rfl,by
  trivial,?_⟩
 refine And.symm ⟨λ c13=>?_,λ c13=>?_⟩
 ·replace c13:((sideZ a b c) == (0:Int))=false:=c13
  try simp only [nrm] at c13
  refine And.symm ⟨λ c85=>?_,λ c85=>?_⟩
  ·replace c85:((sideZ a b d) == (0:Int))=false:=c85
   try simp only [nrm] at c85
   refine And.symm ⟨λ c121=>?_,λ c121=>?_⟩
   ·replace c121:((sideZ c d a) == (0:Int))=false:=c121
    try simp only [nrm] at c121
    refine And.symm ⟨λ c139=>?_,λ c139=>?_⟩
    ·replace c139:((sideZ c d b) == (0:Int))=false:=c139
     try simp only [nrm] at c139
     refine ⟨λ c148=>?_,λ c148=>?_⟩
     ·replace c148:(decide ((IntKind.i64.wrap ((sideZ a b c)*(sideZ a b d)))<(0:Int)))=true:=c148
      try simp only [nrm] at c148
      exact congrArg Value.bool (by unfold meetB;simp_all;try omega)
     replace c148:(decide ((IntKind.i64.wrap ((sideZ a b c)*(sideZ a b d)))<(0:Int)))=false:=c148
     try simp only [nrm] at c148
     exact congrArg Value.bool (by unfold meetB;simp_all;try omega)
    replace c139:((sideZ c d b) == (0:Int))=true:=c139
    try simp only [nrm] at c139
    refine ⟨(b,c,d),by
     rfl,by
     trivial,?_⟩
    refine ⟨λ c143=>?_,λ c143=>?_⟩
    ·replace c143:(spanB b c d)=true:=c143
     try simp only [nrm] at c143
     exact congrArg Value.bool (by unfold meetB;simp_all;try omega)
    replace c143:(spanB b c d)=false:=c143
    try simp only [nrm] at c143
    refine ⟨λ c145=>?_,λ c145=>?_⟩
    ·replace c145:(decide ((IntKind.i64.wrap ((sideZ a b c)*(sideZ a b d)))<(0:Int)))=true:=c145
     try simp only [nrm] at c145
     exact congrArg Value.bool (by unfold meetB;simp_all;try omega)
    replace c145:(decide ((IntKind.i64.wrap ((sideZ a b c)*(sideZ a b d)))<(0:Int)))=false:=c145
    try simp only [nrm] at c145
    exact congrArg Value.bool (by unfold meetB;simp_all;try omega)
   replace c121:((sideZ c d a) == (0:Int))=true:=c121
   try simp only [nrm] at c121
   refine ⟨(a,c,d),by
    rfl,by
    trivial,?_⟩
   refine ⟨λ c125=>?_,λ c125=>?_⟩
   ·replace c125:(spanB a c d)=true:=c125
    try simp only [nrm] at c125
    exact congrArg Value.bool (by unfold meetB;simp_all;try omega)
   replace c125:(spanB a c d)=false:=c125
   try simp only [nrm] at c125
   refine And.symm ⟨λ c127=>?_,λ c127=>?_⟩
   ·replace c127:((sideZ c d b) == (0:Int))=false:=c127
    try simp only [nrm] at c127
    refine ⟨λ c136=>?_,λ c136=>?_⟩
    ·replace c136:(decide ((IntKind.i64.wrap ((sideZ a b c)*(sideZ a b d)))<(0:Int)))=true:=c136
     try simp only [nrm] at c136
     exact congrArg Value.bool (by unfold meetB;simp_all;try omega)
    replace c136:(decide ((IntKind.i64.wrap ((sideZ a b c)*(sideZ a b d)))<(0:Int)))=false:=c136
    try simp only [nrm] at c136
    exact congrArg Value.bool (by unfold meetB;simp_all;try omega)
   replace c127:((sideZ c d b) == (0:Int))=true:=c127
   try simp only [nrm] at c127
   refine ⟨(b,c,d),by
    rfl,by
    trivial,?_⟩
   refine ⟨λ c131=>?_,λ c131=>?_⟩
   ·replace c131:(spanB b c d)=true:=c131
    try simp only [nrm] at c131
    exact congrArg Value.bool (by unfold meetB;simp_all;try omega)
   replace c131:(spanB b c d)=false:=c131
   try simp only [nrm] at c131
   refine ⟨λ c133=>?_,λ c133=>?_⟩
   ·replace c133:(decide ((IntKind.i64.wrap ((sideZ a b c)*(sideZ a b d)))<(0:Int)))=true:=c133
    try simp only [nrm] at c133
    exact congrArg Value.bool (by unfold meetB;simp_all;try omega)
   replace c133:(decide ((IntKind.i64.wrap ((sideZ a b c)*(sideZ a b d)))<(0:Int)))=false:=c133
   try simp only [nrm] at c133
   exact congrArg Value.bool (by unfold meetB;simp_all;try omega)
  replace c85:((sideZ a b d) == (0:Int))=true:=c85
  try simp only [nrm] at c85
  refine ⟨(d,a,b),by
   rfl,by
   trivial,?_⟩
  refine ⟨λ c89=>?_,λ c89=>?_⟩
  ·replace c89:(spanB d a b)=true:=c89
   try simp only [nrm] at c89
   exact congrArg Value.bool (by unfold meetB;simp_all;try omega)
  replace c89:(spanB d a b)=false:=c89
  try simp only [nrm] at c89
  refine And.symm ⟨λ c91=>?_,λ c91=>?_⟩
  ·replace c91:((sideZ c d a) == (0:Int))=false:=c91
   try simp only [nrm] at c91
   refine And.symm ⟨λ c109=>?_,λ c109=>?_⟩
   ·replace c109:((sideZ c d b) == (0:Int))=false:=c109
    try simp only [nrm] at c109
    refine ⟨λ c118=>?_,λ c118=>?_⟩
    ·replace c118:(decide ((IntKind.i64.wrap ((sideZ a b c)*(sideZ a b d)))<(0:Int)))=true:=c118
     try simp only [nrm] at c118
     exact congrArg Value.bool (by unfold meetB;simp_all;try omega)
    replace c118:(decide ((IntKind.i64.wrap ((sideZ a b c)*(sideZ a b d)))<(0:Int)))=false:=c118
    try simp only [nrm] at c118
    exact congrArg Value.bool (by unfold meetB;simp_all;try omega)
   replace c109:((sideZ c d b) == (0:Int))=true:=c109
   try simp only [nrm] at c109
   refine ⟨(b,c,d),by
    rfl,by
    trivial,?_⟩
   refine ⟨λ c113=>?_,λ c113=>?_⟩
   ·replace c113:(spanB b c d)=true:=c113
    try simp only [nrm] at c113
    exact congrArg Value.bool (by unfold meetB;simp_all;try omega)
   replace c113:(spanB b c d)=false:=c113
   try simp only [nrm] at c113
   refine ⟨λ c115=>?_,λ c115=>?_⟩
   ·replace c115:(decide ((IntKind.i64.wrap ((sideZ a b c)*(sideZ a b d)))<(0:Int)))=true:=c115
    try simp only [nrm] at c115
    exact congrArg Value.bool (by unfold meetB;simp_all;try omega)
   replace c115:(decide ((IntKind.i64.wrap ((sideZ a b c)*(sideZ a b d)))<(0:Int)))=false:=c115
   try simp only [nrm] at c115
   exact congrArg Value.bool (by unfold meetB;simp_all;try omega)
  replace c91:((sideZ c d a) == (0:Int))=true:=c91
  try simp only [nrm] at c91
  refine ⟨(a,c,d),by
   rfl,by
   trivial,?_⟩
  refine ⟨λ c95=>?_,λ c95=>?_⟩
  ·replace c95:(spanB a c d)=true:=c95
   try simp only [nrm] at c95
   exact congrArg Value.bool (by unfold meetB;simp_all;try omega)
  replace c95:(spanB a c d)=false:=c95
  try simp only [nrm] at c95
  refine And.symm ⟨λ c97=>?_,λ c97=>?_⟩
  ·replace c97:((sideZ c d b) == (0:Int))=false:=c97
   try simp only [nrm] at c97
   refine ⟨λ c106=>?_,λ c106=>?_⟩
   ·replace c106:(decide ((IntKind.i64.wrap ((sideZ a b c)*(sideZ a b d)))<(0:Int)))=true:=c106
    try simp only [nrm] at c106
    exact congrArg Value.bool (by unfold meetB;simp_all;try omega)
   replace c106:(decide ((IntKind.i64.wrap ((sideZ a b c)*(sideZ a b d)))<(0:Int)))=false:=c106
   try simp only [nrm] at c106
   exact congrArg Value.bool (by unfold meetB;simp_all;try omega)
  replace c97:((sideZ c d b) == (0:Int))=true:=c97
  try simp only [nrm] at c97
  refine ⟨(b,c,d),by
   rfl,by
   trivial,?_⟩
  refine ⟨λ c101=>?_,λ c101=>?_⟩
  ·replace c101:(spanB b c d)=true:=c101
   try simp only [nrm] at c101
   exact congrArg Value.bool (by unfold meetB;simp_all;try omega)
  replace c101:(spanB b c d)=false:=c101
  try simp only [nrm] at c101
  refine ⟨λ c103=>?_,λ c103=>?_⟩
  ·replace c103:(decide ((IntKind.i64.wrap ((sideZ a b c)*(sideZ a b d)))<(0:Int)))=true:=c103
   try simp only [nrm] at c103
   exact congrArg Value.bool (by unfold meetB;simp_all;try omega)
  replace c103:(decide ((IntKind.i64.wrap ((sideZ a b c)*(sideZ a b d)))<(0:Int)))=false:=c103
  try simp only [nrm] at c103
  exact congrArg Value.bool (by unfold meetB;simp_all;try omega)
 replace c13:((sideZ a b c) == (0:Int))=true:=c13
 try simp only [nrm] at c13
 refine ⟨(c,a,b),by
  rfl,by
  trivial,?_⟩
 refine ⟨λ c17=>?_,λ c17=>?_⟩
 ·replace c17:(spanB c a b)=true:=c17
  try simp only [nrm] at c17
  exact congrArg Value.bool (by unfold meetB;simp_all;try omega)
 replace c17:(spanB c a b)=false:=c17
 try simp only [nrm] at c17
 refine And.symm ⟨λ c19=>?_,λ c19=>?_⟩
 ·replace c19:((sideZ a b d) == (0:Int))=false:=c19
  try simp only [nrm] at c19
  refine And.symm ⟨λ c55=>?_,λ c55=>?_⟩
  ·replace c55:((sideZ c d a) == (0:Int))=false:=c55
   try simp only [nrm] at c55
   refine And.symm ⟨λ c73=>?_,λ c73=>?_⟩
   ·replace c73:((sideZ c d b) == (0:Int))=false:=c73
    try simp only [nrm] at c73
    refine ⟨λ c82=>?_,λ c82=>?_⟩
    ·replace c82:(decide ((IntKind.i64.wrap ((sideZ a b c)*(sideZ a b d)))<(0:Int)))=true:=c82
     try simp only [nrm] at c82
     exact congrArg Value.bool (by unfold meetB;simp_all;try omega)
    replace c82:(decide ((IntKind.i64.wrap ((sideZ a b c)*(sideZ a b d)))<(0:Int)))=false:=c82
    try simp only [nrm] at c82
    exact congrArg Value.bool (by unfold meetB;simp_all;try omega)
   replace c73:((sideZ c d b) == (0:Int))=true:=c73
   try simp only [nrm] at c73
   refine ⟨(b,c,d),by
    rfl,by
    trivial,?_⟩
   refine ⟨λ c77=>?_,λ c77=>?_⟩
   ·replace c77:(spanB b c d)=true:=c77
    try simp only [nrm] at c77
    exact congrArg Value.bool (by unfold meetB;simp_all;try omega)
   replace c77:(spanB b c d)=false:=c77
   try simp only [nrm] at c77
   refine ⟨λ c79=>?_,λ c79=>?_⟩
   ·replace c79:(decide ((IntKind.i64.wrap ((sideZ a b c)*(sideZ a b d)))<(0:Int)))=true:=c79
    try simp only [nrm] at c79
    exact congrArg Value.bool (by unfold meetB;simp_all;try omega)
   replace c79:(decide ((IntKind.i64.wrap ((sideZ a b c)*(sideZ a b d)))<(0:Int)))=false:=c79
   try simp only [nrm] at c79
   exact congrArg Value.bool (by unfold meetB;simp_all;try omega)
  replace c55:((sideZ c d a) == (0:Int))=true:=c55
  try simp only [nrm] at c55
  refine ⟨(a,c,d),by
   rfl,by
   trivial,?_⟩
  refine ⟨λ c59=>?_,λ c59=>?_⟩
  ·replace c59:(spanB a c d)=true:=c59
   try simp only [nrm] at c59
   exact congrArg Value.bool (by unfold meetB;simp_all;try omega)
  replace c59:(spanB a c d)=false:=c59
  try simp only [nrm] at c59
  refine And.symm ⟨λ c61=>?_,λ c61=>?_⟩
  ·replace c61:((sideZ c d b) == (0:Int))=false:=c61
   try simp only [nrm] at c61
   refine ⟨λ c70=>?_,λ c70=>?_⟩
   ·replace c70:(decide ((IntKind.i64.wrap ((sideZ a b c)*(sideZ a b d)))<(0:Int)))=true:=c70
    try simp only [nrm] at c70
    exact congrArg Value.bool (by unfold meetB;simp_all;try omega)
   replace c70:(decide ((IntKind.i64.wrap ((sideZ a b c)*(sideZ a b d)))<(0:Int)))=false:=c70
   try simp only [nrm] at c70
   exact congrArg Value.bool (by unfold meetB;simp_all;try omega)
  replace c61:((sideZ c d b) == (0:Int))=true:=c61
  try simp only [nrm] at c61
  refine ⟨(b,c,d),by
   rfl,by
   trivial,?_⟩
  refine ⟨λ c65=>?_,λ c65=>?_⟩
  ·replace c65:(spanB b c d)=true:=c65
   try simp only [nrm] at c65
   exact congrArg Value.bool (by unfold meetB;simp_all;try omega)
  replace c65:(spanB b c d)=false:=c65
  try simp only [nrm] at c65
  refine ⟨λ c67=>?_,λ c67=>?_⟩
  ·replace c67:(decide ((IntKind.i64.wrap ((sideZ a b c)*(sideZ a b d)))<(0:Int)))=true:=c67
   try simp only [nrm] at c67
   exact congrArg Value.bool (by unfold meetB;simp_all;try omega)
  replace c67:(decide ((IntKind.i64.wrap ((sideZ a b c)*(sideZ a b d)))<(0:Int)))=false:=c67
  try simp only [nrm] at c67
  exact congrArg Value.bool (by unfold meetB;simp_all;try omega)
 replace c19:((sideZ a b d) == (0:Int))=true:=c19
 try simp only [nrm] at c19
 refine ⟨(d,a,b),by
  rfl,by
  trivial,?_⟩
 refine ⟨λ c23=>?_,λ c23=>?_⟩
 ·replace c23:(spanB d a b)=true:=c23
  try simp only [nrm] at c23
  exact congrArg Value.bool (by unfold meetB;simp_all;try omega)
 replace c23:(spanB d a b)=false:=c23
 try simp only [nrm] at c23
 refine And.symm ⟨λ c25=>?_,λ c25=>?_⟩
 ·replace c25:((sideZ c d a) == (0:Int))=false:=c25
  try simp only [nrm] at c25
  refine And.symm ⟨λ c43=>?_,λ c43=>?_⟩
  ·replace c43:((sideZ c d b) == (0:Int))=false:=c43
   try simp only [nrm] at c43
   refine ⟨λ c52=>?_,λ c52=>?_⟩
   ·replace c52:(decide ((IntKind.i64.wrap ((sideZ a b c)*(sideZ a b d)))<(0:Int)))=true:=c52
    try simp only [nrm] at c52
    exact congrArg Value.bool (by unfold meetB;simp_all;try omega)
   replace c52:(decide ((IntKind.i64.wrap ((sideZ a b c)*(sideZ a b d)))<(0:Int)))=false:=c52
   try simp only [nrm] at c52
   exact congrArg Value.bool (by unfold meetB;simp_all;try omega)
  replace c43:((sideZ c d b) == (0:Int))=true:=c43
  try simp only [nrm] at c43
  refine ⟨(b,c,d),by
   rfl,by
   trivial,?_⟩
  refine ⟨λ c47=>?_,λ c47=>?_⟩
  ·replace c47:(spanB b c d)=true:=c47
   try simp only [nrm] at c47
   exact congrArg Value.bool (by unfold meetB;simp_all;try omega)
  replace c47:(spanB b c d)=false:=c47
  try simp only [nrm] at c47
  refine ⟨λ c49=>?_,λ c49=>?_⟩
  ·replace c49:(decide ((IntKind.i64.wrap ((sideZ a b c)*(sideZ a b d)))<(0:Int)))=true:=c49
   try simp only [nrm] at c49
   exact congrArg Value.bool (by unfold meetB;simp_all;try omega)
  replace c49:(decide ((IntKind.i64.wrap ((sideZ a b c)*(sideZ a b d)))<(0:Int)))=false:=c49
  try simp only [nrm] at c49
  exact congrArg Value.bool (by unfold meetB;simp_all;try omega)
 replace c25:((sideZ c d a) == (0:Int))=true:=c25
 try simp only [nrm] at c25
 refine ⟨(a,c,d),by
  rfl,by
  trivial,?_⟩
 refine ⟨λ c29=>?_,λ c29=>?_⟩
 ·replace c29:(spanB a c d)=true:=c29
  try simp only [nrm] at c29
  exact congrArg Value.bool (by unfold meetB;simp_all;try omega)
 replace c29:(spanB a c d)=false:=c29
 try simp only [nrm] at c29
 refine And.symm ⟨λ c31=>?_,λ c31=>?_⟩
 ·replace c31:((sideZ c d b) == (0:Int))=false:=c31
  try simp only [nrm] at c31
  refine ⟨λ c40=>?_,λ c40=>?_⟩
  ·replace c40:(decide ((IntKind.i64.wrap ((sideZ a b c)*(sideZ a b d)))<(0:Int)))=true:=c40
   try simp only [nrm] at c40
   exact congrArg Value.bool (by unfold meetB;simp_all;try omega)
  replace c40:(decide ((IntKind.i64.wrap ((sideZ a b c)*(sideZ a b d)))<(0:Int)))=false:=c40
  try simp only [nrm] at c40
  exact congrArg Value.bool (by unfold meetB;simp_all;try omega)
 replace c31:((sideZ c d b) == (0:Int))=true:=c31
 try simp only [nrm] at c31
 refine ⟨(b,c,d),by
  rfl,by
  trivial,?_⟩
 refine ⟨λ c35=>?_,λ c35=>?_⟩
 ·replace c35:(spanB b c d)=true:=c35
  try simp only [nrm] at c35
  exact congrArg Value.bool (by unfold meetB;simp_all;try omega)
 replace c35:(spanB b c d)=false:=c35
 try simp only [nrm] at c35
 refine ⟨λ c37=>?_,λ c37=>?_⟩
 ·replace c37:(decide ((IntKind.i64.wrap ((sideZ a b c)*(sideZ a b d)))<(0:Int)))=true:=c37
  try simp only [nrm] at c37
  exact congrArg Value.bool (by unfold meetB;simp_all;try omega)
 replace c37:(decide ((IntKind.i64.wrap ((sideZ a b c)*(sideZ a b d)))<(0:Int)))=false:=c37
 try simp only [nrm] at c37
 exact congrArg Value.bool (by unfold meetB;simp_all;try omega)
def sSegMeet_con:Con:={ ι:=Pq×Pq×Pq×Pq,pre:=λ i=>i.1.good=true/\i.2.1.good=true/\i.2.2.1.good=true/\i.2.2.2.good=true,args:=λ i=>[.agg [.im (.bool (decide (i.1.x.z<0))),.sl 3 [.int] (L i.1.x.z.natAbs),.sl 3 [.int] (L i.1.x.d),.im (.bool (decide (i.1.y.z<0))),.sl 3 [.int] (L i.1.y.z.natAbs),.sl 3 [.int] (L i.1.y.d)],.agg [.im (.bool (decide (i.2.1.x.z<0))),.sl 3 [.int] (L i.2.1.x.z.natAbs),.sl 3 [.int] (L i.2.1.x.d),.im (.bool (decide (i.2.1.y.z<0))),.sl 3 [.int] (L i.2.1.y.z.natAbs),.sl 3 [.int] (L i.2.1.y.d)],.agg [.im (.bool (decide (i.2.2.1.x.z<0))),.sl 3 [.int] (L i.2.2.1.x.z.natAbs),.sl 3 [.int] (L i.2.2.1.x.d),.im (.bool (decide (i.2.2.1.y.z<0))),.sl 3 [.int] (L i.2.2.1.y.z.natAbs),.sl 3 [.int] (L i.2.2.1.y.d)],.agg [.im (.bool (decide (i.2.2.2.x.z<0))),.sl 3 [.int] (L i.2.2.2.x.z.natAbs),.sl 3 [.int] (L i.2.2.2.x.d),.im (.bool (decide (i.2.2.2.y.z<0))),.sl 3 [.int] (L i.2.2.2.y.z.natAbs),.sl 3 [.int] (L i.2.2.2.y.d)]],res:=λ i=>⟨false,[none],[.im (Value.bool (meetB i.1 i.2.1 i.2.2.1 i.2.2.2))]⟩ }
theorem sSegMeet_ok:sSegMeet_con.Ok Tryz.prog 57:=by
 refine fok (X:=⟨tt,[(55,sIsPt_con),(79,sSide_con),(80,l08Between_con)],[],95,[]⟩) mixed tt_ok (CTok.cons sIsPt_ok (CTok.cons sSide_ok (CTok.cons l08Between_ok (CTok.nil _)))) Tryz.func57 (λ _=>[]) ?_
 rintro ⟨a,b,c,d⟩ hpre
 have hpre:a.good=true/\b.good=true/\c.good=true/\d.good=true:=hpre
 refine by_nf (q:=∃ i1:PtD×Bool,[dP a]=sIsPt_con.args i1/\sIsPt_con.pre i1/\(((!(!i1.2))=true->(∃ i2:PtD×Bool,[dP b]=sIsPt_con.args i2/\sIsPt_con.pre i2/\(((!(!i2.2))=true->(∃ i3:PtD×Bool,[dP c]=sIsPt_con.args i3/\sIsPt_con.pre i3/\(((!(!i3.2))=true->(∃ i4:PtD×Bool,[dP d]=sIsPt_con.args i4/\sIsPt_con.pre i4/\(((!i4.2)=true->((Value.bool false=Value.bool (meetB a b c d))))/\((!i4.2)=false->(∃ i5:Pq×Pq×Pq,[dP a,dP b,dP c]=sSide_con.args i5/\sSide_con.pre i5/\(∃ i6:Pq×Pq×Pq,[dP a,dP b,dP d]=sSide_con.args i6/\sSide_con.pre i6/\(∃ i7:Pq×Pq×Pq,[dP c,dP d,dP a]=sSide_con.args i7/\sSide_con.pre i7/\(∃ i8:Pq×Pq×Pq,[dP c,dP d,dP b]=sSide_con.args i8/\sSide_con.pre i8/\(((decide ((wR ((sideZ i5.1 i5.2.1 i5.2.2)*(sideZ i6.1 i6.2.1 i6.2.2)))<(0:Int)))=true->(((decide ((wR ((sideZ i7.1 i7.2.1 i7.2.2)*(sideZ i8.1 i8.2.1 i8.2.2)))<(0:Int)))=true->((Value.bool true=Value.bool (meetB a b c d))))/\((decide ((wR ((sideZ i7.1 i7.2.1 i7.2.2)*(sideZ i8.1 i8.2.1 i8.2.2)))<(0:Int)))=false->((((sideZ i5.1 i5.2.1 i5.2.2) == (0:Int))=true->(∃ i9:Pq×Pq×Pq,[dP c,dP a,dP b]=l08Between_con.args i9/\l08Between_con.pre i9/\(((!(spanB i9.1 i9.2.1 i9.2.2))=true->((((sideZ i6.1 i6.2.1 i6.2.2) == (0:Int))=true->(∃ i10:Pq×Pq×Pq,[dP d,dP a,dP b]=l08Between_con.args i10/\l08Between_con.pre i10/\(((!(spanB i10.1 i10.2.1 i10.2.2))=true->((((sideZ i7.1 i7.2.1 i7.2.2) == (0:Int))=true->(∃ i11:Pq×Pq×Pq,[dP a,dP c,dP d]=l08Between_con.args i11/\l08Between_con.pre i11/\(((!(spanB i11.1 i11.2.1 i11.2.2))=true->((((sideZ i8.1 i8.2.1 i8.2.2) == (0:Int))=true->(∃ i12:Pq×Pq×Pq,[dP b,dP c,dP d]=l08Between_con.args i12/\l08Between_con.pre i12/\((Value.bool (spanB i12.1 i12.2.1 i12.2.2)=Value.bool (meetB a b c d)))))/\(((sideZ i8.1 i8.2.1 i8.2.2) == (0:Int))=false->((Value.bool false=Value.bool (meetB a b c d))))))/\((!(spanB i11.1 i11.2.1 i11.2.2))=false->((Value.bool true=Value.bool (meetB a b c d)))))))/\(((sideZ i7.1 i7.2.1 i7.2.2) == (0:Int))=false->((((sideZ i8.1 i8.2.1 i8.2.2) == (0:Int))=true->(∃ i13:Pq×Pq×Pq,[dP b,dP c,dP d]=l08Between_con.args i13/\l08Between_con.pre i13/\((Value.bool (spanB i13.1 i13.2.1 i13.2.2)=Value.bool (meetB a b c d)))))/\(((sideZ i8.1 i8.2.1 i8.2.2) == (0:Int))=false->((Value.bool false=Value.bool (meetB a b c d))))))))/\((!(spanB i10.1 i10.2.1 i10.2.2))=false->((Value.bool true=Value.bool (meetB a b c d)))))))/\(((sideZ i6.1 i6.2.1 i6.2.2) == (0:Int))=false->((((sideZ i7.1 i7.2.1 i7.2.2) == (0:Int))=true->(∃ i14:Pq×Pq×Pq,[dP a,dP c,dP d]=l08Between_con.args i14/\l08Between_con.pre i14/\(((!(spanB i14.1 i14.2.1 i14.2.2))=true->((((sideZ i8.1 i8.2.1 i8.2.2) == (0:Int))=true->(∃ i15:Pq×Pq×Pq,[dP b,dP c,dP d]=l08Between_con.args i15/\l08Between_con.pre i15/\((Value.bool (spanB i15.1 i15.2.1 i15.2.2)=Value.bool (meetB a b c d)))))/\(((sideZ i8.1 i8.2.1 i8.2.2) == (0:Int))=false->((Value.bool false=Value.bool (meetB a b c d))))))/\((!(spanB i14.1 i14.2.1 i14.2.2))=false->((Value.bool true=Value.bool (meetB a b c d)))))))/\(((sideZ i7.1 i7.2.1 i7.2.2) == (0:Int))=false->((((sideZ i8.1 i8.2.1 i8.2.2) == (0:Int))=true->(∃ i16:Pq×Pq×Pq,[dP b,dP c,dP d]=l08Between_con.args i16/\l08Between_con.pre i16/\((Value.bool (spanB i16.1 i16.2.1 i16.2.2)=Value.bool (meetB a b c d)))))/\(((sideZ i8.1 i8.2.1 i8.2.2) == (0:Int))=false->((Value.bool false=Value.bool (meetB a b c d))))))))))/\((!(spanB i9.1 i9.2.1 i9.2.2))=false->((Value.bool true=Value.bool (meetB a b c d)))))))/\(((sideZ i5.1 i5.2.1 i5.2.2) == (0:Int))=false->((((sideZ i6.1 i6.2.1 i6.2.2) == (0:Int))=true->(∃ i17:Pq×Pq×Pq,[dP d,dP a,dP b]=l08Between_con.args i17/\l08Between_con.pre i17/\(((!(spanB i17.1 i17.2.1 i17.2.2))=true->((((sideZ i7.1 i7.2.1 i7.2.2) == (0:Int))=true->(∃ i18:Pq×Pq×Pq,[dP a,dP c,dP d]=l08Between_con.args i18/\l08Between_con.pre i18/\(((!(spanB i18.1 i18.2.1 i18.2.2))=true->((((sideZ i8.1 i8.2.1 i8.2.2) == (0:Int))=true->(∃ i19:Pq×Pq×Pq,[dP b,dP c,dP d]=l08Between_con.args i19/\l08Between_con.pre i19/\((Value.bool (spanB i19.1 i19.2.1 i19.2.2)=Value.bool (meetB a b c d)))))/\(((sideZ i8.1 i8.2.1 i8.2.2) == (0:Int))=false->((Value.bool false=Value.bool (meetB a b c d))))))/\((!(spanB i18.1 i18.2.1 i18.2.2))=false->((Value.bool true=Value.bool (meetB a b c d)))))))/\(((sideZ i7.1 i7.2.1 i7.2.2) == (0:Int))=false->((((sideZ i8.1 i8.2.1 i8.2.2) == (0:Int))=true->(∃ i20:Pq×Pq×Pq,[dP b,dP c,dP d]=l08Between_con.args i20/\l08Between_con.pre i20/\((Value.bool (spanB i20.1 i20.2.1 i20.2.2)=Value.bool (meetB a b c d)))))/\(((sideZ i8.1 i8.2.1 i8.2.2) == (0:Int))=false->((Value.bool false=Value.bool (meetB a b c d))))))))/\((!(spanB i17.1 i17.2.1 i17.2.2))=false->((Value.bool true=Value.bool (meetB a b c d)))))))/\(((sideZ i6.1 i6.2.1 i6.2.2) == (0:Int))=false->((((sideZ i7.1 i7.2.1 i7.2.2) == (0:Int))=true->(∃ i21:Pq×Pq×Pq,[dP a,dP c,dP d]=l08Between_con.args i21/\l08Between_con.pre i21/\(((!(spanB i21.1 i21.2.1 i21.2.2))=true->((((sideZ i8.1 i8.2.1 i8.2.2) == (0:Int))=true->(∃ i22:Pq×Pq×Pq,[dP b,dP c,dP d]=l08Between_con.args i22/\l08Between_con.pre i22/\((Value.bool (spanB i22.1 i22.2.1 i22.2.2)=Value.bool (meetB a b c d)))))/\(((sideZ i8.1 i8.2.1 i8.2.2) == (0:Int))=false->((Value.bool false=Value.bool (meetB a b c d))))))/\((!(spanB i21.1 i21.2.1 i21.2.2))=false->((Value.bool true=Value.bool (meetB a b c d)))))))/\(((sideZ i7.1 i7.2.1 i7.2.2) == (0:Int))=false->((((sideZ i8.1 i8.2.1 i8.2.2) == (0:Int))=true->(∃ i23:Pq×Pq×Pq,[dP b,dP c,dP d]=l08Between_con.args i23/\l08Between_con.pre i23/\((Value.bool (spanB i23.1 i23.2.1 i23.2.2)=Value.bool (meetB a b c d)))))/\(((sideZ i8.1 i8.2.1 i8.2.2) == (0:Int))=false->((Value.bool false=Value.bool (meetB a b c d))))))))))))))/\((decide ((wR ((sideZ i5.1 i5.2.1 i5.2.2)*(sideZ i6.1 i6.2.1 i6.2.2)))<(0:Int)))=false->((((sideZ i5.1 i5.2.1 i5.2.2) == (0:Int))=true->(∃ i24:Pq×Pq×Pq,[dP c,dP a,dP b]=l08Between_con.args i24/\l08Between_con.pre i24/\(((!(spanB i24.1 i24.2.1 i24.2.2))=true->((((sideZ i6.1 i6.2.1 i6.2.2) == (0:Int))=true->(∃ i25:Pq×Pq×Pq,[dP d,dP a,dP b]=l08Between_con.args i25/\l08Between_con.pre i25/\(((!(spanB i25.1 i25.2.1 i25.2.2))=true->((((sideZ i7.1 i7.2.1 i7.2.2) == (0:Int))=true->(∃ i26:Pq×Pq×Pq,[dP a,dP c,dP d]=l08Between_con.args i26/\l08Between_con.pre i26/\(((!(spanB i26.1 i26.2.1 i26.2.2))=true->((((sideZ i8.1 i8.2.1 i8.2.2) == (0:Int))=true->(∃ i27:Pq×Pq×Pq,[dP b,dP c,dP d]=l08Between_con.args i27/\l08Between_con.pre i27/\((Value.bool (spanB i27.1 i27.2.1 i27.2.2)=Value.bool (meetB a b c d)))))/\(((sideZ i8.1 i8.2.1 i8.2.2) == (0:Int))=false->((Value.bool false=Value.bool (meetB a b c d))))))/\((!(spanB i26.1 i26.2.1 i26.2.2))=false->((Value.bool true=Value.bool (meetB a b c d)))))))/\(((sideZ i7.1 i7.2.1 i7.2.2) == (0:Int))=false->((((sideZ i8.1 i8.2.1 i8.2.2) == (0:Int))=true->(∃ i28:Pq×Pq×Pq,[dP b,dP c,dP d]=l08Between_con.args i28/\l08Between_con.pre i28/\((Value.bool (spanB i28.1 i28.2.1 i28.2.2)=Value.bool (meetB a b c d)))))/\(((sideZ i8.1 i8.2.1 i8.2.2) == (0:Int))=false->((Value.bool false=Value.bool (meetB a b c d))))))))/\((!(spanB i25.1 i25.2.1 i25.2.2))=false->((Value.bool true=Value.bool (meetB a b c d)))))))/\(((sideZ i6.1 i6.2.1 i6.2.2) == (0:Int))=false->((((sideZ i7.1 i7.2.1 i7.2.2) == (0:Int))=true->(∃ i29:Pq×Pq×Pq,[dP a,dP c,dP d]=l08Between_con.args i29/\l08Between_con.pre i29/\(((!(spanB i29.1 i29.2.1 i29.2.2))=true->((((sideZ i8.1 i8.2.1 i8.2.2) == (0:Int))=true->(∃ i30:Pq×Pq×Pq,[dP b,dP c,dP d]=l08Between_con.args i30/\l08Between_con.pre i30/\((Value.bool (spanB i30.1 i30.2.1 i30.2.2)=Value.bool (meetB a b c d)))))/\(((sideZ i8.1 i8.2.1 i8.2.2) == (0:Int))=false->((Value.bool false=Value.bool (meetB a b c d))))))/\((!(spanB i29.1 i29.2.1 i29.2.2))=false->((Value.bool true=Value.bool (meetB a b c d)))))))/\(((sideZ i7.1 i7.2.1 i7.2.2) == (0:Int))=false->((((sideZ i8.1 i8.2.1 i8.2.2) == (0:Int))=true->(∃ i31:Pq×Pq×Pq,[dP b,dP c,dP d]=l08Between_con.args i31/\l08Between_con.pre i31/\((Value.bool (spanB i31.1 i31.2.1 i31.2.2)=Value.bool (meetB a b c d)))))/\(((sideZ i8.1 i8.2.1 i8.2.2) == (0:Int))=false->((Value.bool false=Value.bool (meetB a b c d))))))))))/\((!(spanB i24.1 i24.2.1 i24.2.2))=false->((Value.bool true=Value.bool (meetB a b c d)))))))/\(((sideZ i5.1 i5.2.1 i5.2.2) == (0:Int))=false->((((sideZ i6.1 i6.2.1 i6.2.2) == (0:Int))=true->(∃ i32:Pq×Pq×Pq,[dP d,dP a,dP b]=l08Between_con.args i32/\l08Between_con.pre i32/\(((!(spanB i32.1 i32.2.1 i32.2.2))=true->((((sideZ i7.1 i7.2.1 i7.2.2) == (0:Int))=true->(∃ i33:Pq×Pq×Pq,[dP a,dP c,dP d]=l08Between_con.args i33/\l08Between_con.pre i33/\(((!(spanB i33.1 i33.2.1 i33.2.2))=true->((((sideZ i8.1 i8.2.1 i8.2.2) == (0:Int))=true->(∃ i34:Pq×Pq×Pq,[dP b,dP c,dP d]=l08Between_con.args i34/\l08Between_con.pre i34/\((Value.bool (spanB i34.1 i34.2.1 i34.2.2)=Value.bool (meetB a b c d)))))/\(((sideZ i8.1 i8.2.1 i8.2.2) == (0:Int))=false->((Value.bool false=Value.bool (meetB a b c d))))))/\((!(spanB i33.1 i33.2.1 i33.2.2))=false->((Value.bool true=Value.bool (meetB a b c d)))))))/\(((sideZ i7.1 i7.2.1 i7.2.2) == (0:Int))=false->((((sideZ i8.1 i8.2.1 i8.2.2) == (0:Int))=true->(∃ i35:Pq×Pq×Pq,[dP b,dP c,dP d]=l08Between_con.args i35/\l08Between_con.pre i35/\((Value.bool (spanB i35.1 i35.2.1 i35.2.2)=Value.bool (meetB a b c d)))))/\(((sideZ i8.1 i8.2.1 i8.2.2) == (0:Int))=false->((Value.bool false=Value.bool (meetB a b c d))))))))/\((!(spanB i32.1 i32.2.1 i32.2.2))=false->((Value.bool true=Value.bool (meetB a b c d)))))))/\(((sideZ i6.1 i6.2.1 i6.2.2) == (0:Int))=false->((((sideZ i7.1 i7.2.1 i7.2.2) == (0:Int))=true->(∃ i36:Pq×Pq×Pq,[dP a,dP c,dP d]=l08Between_con.args i36/\l08Between_con.pre i36/\(((!(spanB i36.1 i36.2.1 i36.2.2))=true->((((sideZ i8.1 i8.2.1 i8.2.2) == (0:Int))=true->(∃ i37:Pq×Pq×Pq,[dP b,dP c,dP d]=l08Between_con.args i37/\l08Between_con.pre i37/\((Value.bool (spanB i37.1 i37.2.1 i37.2.2)=Value.bool (meetB a b c d)))))/\(((sideZ i8.1 i8.2.1 i8.2.2) == (0:Int))=false->((Value.bool false=Value.bool (meetB a b c d))))))/\((!(spanB i36.1 i36.2.1 i36.2.2))=false->((Value.bool true=Value.bool (meetB a b c d)))))))/\(((sideZ i7.1 i7.2.1 i7.2.2) == (0:Int))=false->((((sideZ i8.1 i8.2.1 i8.2.2) == (0:Int))=true->(∃ i38:Pq×Pq×Pq,[dP b,dP c,dP d]=l08Between_con.args i38/\l08Between_con.pre i38/\((Value.bool (spanB i38.1 i38.2.1 i38.2.2)=Value.bool (meetB a b c d)))))/\(((sideZ i8.1 i8.2.1 i8.2.2) == (0:Int))=false->((Value.bool false=Value.bool (meetB a b c d)))))))))))))))))))))/\((!(!i3.2))=false->((Value.bool false=Value.bool (meetB a b c d)))))))/\((!(!i2.2))=false->((Value.bool false=Value.bool (meetB a b c d)))))))/\((!(!i1.2))=false->((Value.bool false=Value.bool (meetB a b c d)))))) (by kernel_rfl) ?_
 delta wR
 have q1:=side_mul a b c a b d
 have q2:=side_mul c d a c d b
 refine ⟨((ptQ a),a.good),by
  rfl,by
  exact ⟨ptQ_has _,ptQ_ok _⟩,?_⟩
 refine And.symm ⟨λ c4=>?_,λ c4=>?_⟩
 ·replace c4:(!(!a.good))=false:=c4
  try simp only [nrm] at c4
  exact congrArg Value.bool (by unfold meetB;simp_all;try omega)
 replace c4:(!(!a.good))=true:=c4
 try simp only [nrm] at c4
 refine ⟨((ptQ b),b.good),by
  rfl,by
  exact ⟨ptQ_has _,ptQ_ok _⟩,?_⟩
 refine And.symm ⟨λ c8=>?_,λ c8=>?_⟩
 ·replace c8:(!(!b.good))=false:=c8
  try simp only [nrm] at c8
  exact congrArg Value.bool (by unfold meetB;simp_all;try omega)
 replace c8:(!(!b.good))=true:=c8
 try simp only [nrm] at c8
 refine ⟨((ptQ c),c.good),by
  rfl,by
  exact ⟨ptQ_has _,ptQ_ok _⟩,?_⟩
 refine And.symm ⟨λ c12=>?_,λ c12=>?_⟩
 ·replace c12:(!(!c.good))=false:=c12
  try simp only [nrm] at c12
  exact congrArg Value.bool (by unfold meetB;simp_all;try omega)
 replace c12:(!(!c.good))=true:=c12
 try simp only [nrm] at c12
 refine ⟨((ptQ d),d.good),by
  rfl,by
  exact ⟨ptQ_has _,ptQ_ok _⟩,?_⟩
 refine ⟨λ c16=>?_,λ c16=>?_⟩
 ·replace c16:(!d.good)=true:=c16
  try simp only [nrm] at c16
  exact congrArg Value.bool (by unfold meetB;simp_all;try omega)
 replace c16:(!d.good)=false:=c16
 try simp only [nrm] at c16
 refine ⟨(a,b,c),by
  rfl,by
  trivial,?_⟩
 refine ⟨(a,b,d),by
  rfl,by
  trivial,?_⟩
 refine ⟨(c,d,a),by
  rfl,by
  trivial,?_⟩
 refine ⟨(c,d,b),by
  rfl,by
  trivial,?_⟩
 refine And.symm ⟨λ c30=>?_,λ c30=>?_⟩
 ·replace c30:(decide ((IntKind.i64.wrap ((sideZ a b c)*(sideZ a b d)))<(0:Int)))=false:=c30
  try simp only [nrm] at c30
  refine And.symm ⟨λ c123=>?_,λ c123=>?_⟩
  ·replace c123:((sideZ a b c) == (0:Int))=false:=c123
   try simp only [nrm] at c123
   refine And.symm ⟨λ c171=>?_,λ c171=>?_⟩
   ·replace c171:((sideZ a b d) == (0:Int))=false:=c171
    try simp only [nrm] at c171
    refine And.symm ⟨λ c195=>?_,λ c195=>?_⟩
    ·replace c195:((sideZ c d a) == (0:Int))=false:=c195
     try simp only [nrm] at c195
     refine And.symm ⟨λ c207=>?_,λ c207=>?_⟩
     ·replace c207:((sideZ c d b) == (0:Int))=false:=c207
      try simp only [nrm] at c207
      exact congrArg Value.bool (by unfold meetB;simp_all;try omega)
     replace c207:((sideZ c d b) == (0:Int))=true:=c207
     try simp only [nrm] at c207
     refine ⟨(b,c,d),by
      rfl,by
      trivial,?_⟩
     exact congrArg Value.bool (by unfold meetB;simp_all;try omega)
    replace c195:((sideZ c d a) == (0:Int))=true:=c195
    try simp only [nrm] at c195
    refine ⟨(a,c,d),by
     rfl,by
     trivial,?_⟩
    refine And.symm ⟨λ c199=>?_,λ c199=>?_⟩
    ·replace c199:(!(spanB a c d))=false:=c199
     try simp only [nrm] at c199
     exact congrArg Value.bool (by unfold meetB;simp_all;try omega)
    replace c199:(!(spanB a c d))=true:=c199
    try simp only [nrm] at c199
    refine And.symm ⟨λ c200=>?_,λ c200=>?_⟩
    ·replace c200:((sideZ c d b) == (0:Int))=false:=c200
     try simp only [nrm] at c200
     exact congrArg Value.bool (by unfold meetB;simp_all;try omega)
    replace c200:((sideZ c d b) == (0:Int))=true:=c200
    try simp only [nrm] at c200
    refine ⟨(b,c,d),by
     rfl,by
     trivial,?_⟩
    exact congrArg Value.bool (by unfold meetB;simp_all;try omega)
   replace c171:((sideZ a b d) == (0:Int))=true:=c171
   try simp only [nrm] at c171
   refine ⟨(d,a,b),by
    rfl,by
    trivial,?_⟩
   refine And.symm ⟨λ c175=>?_,λ c175=>?_⟩
   ·replace c175:(!(spanB d a b))=false:=c175
    try simp only [nrm] at c175
    exact congrArg Value.bool (by unfold meetB;simp_all;try omega)
   replace c175:(!(spanB d a b))=true:=c175
   try simp only [nrm] at c175
   refine And.symm ⟨λ c176=>?_,λ c176=>?_⟩
   ·replace c176:((sideZ c d a) == (0:Int))=false:=c176
    try simp only [nrm] at c176
    refine And.symm ⟨λ c188=>?_,λ c188=>?_⟩
    ·replace c188:((sideZ c d b) == (0:Int))=false:=c188
     try simp only [nrm] at c188
     exact congrArg Value.bool (by unfold meetB;simp_all;try omega)
    replace c188:((sideZ c d b) == (0:Int))=true:=c188
    try simp only [nrm] at c188
    refine ⟨(b,c,d),by
     rfl,by
     trivial,?_⟩
    exact congrArg Value.bool (by unfold meetB;simp_all;try omega)
   replace c176:((sideZ c d a) == (0:Int))=true:=c176
   try simp only [nrm] at c176
   refine ⟨(a,c,d),by
    rfl,by
    trivial,?_⟩
   refine And.symm ⟨λ c180=>?_,λ c180=>?_⟩
   ·replace c180:(!(spanB a c d))=false:=c180
    try simp only [nrm] at c180
    exact congrArg Value.bool (by unfold meetB;simp_all;try omega)
   replace c180:(!(spanB a c d))=true:=c180
   try simp only [nrm] at c180
   refine And.symm ⟨λ c181=>?_,λ c181=>?_⟩
   ·replace c181:((sideZ c d b) == (0:Int))=false:=c181
    try simp only [nrm] at c181
    exact congrArg Value.bool (by unfold meetB;simp_all;try omega)
   replace c181:((sideZ c d b) == (0:Int))=true:=c181
   try simp only [nrm] at c181
   refine ⟨(b,c,d),by
    rfl,by
    trivial,?_⟩
   exact congrArg Value.bool (by unfold meetB;simp_all;try omega)
  replace c123:((sideZ a b c) == (0:Int))=true:=c123
  try simp only [nrm] at c123
  refine ⟨(c,a,b),by
   rfl,by
   trivial,?_⟩
  refine And.symm ⟨λ c127=>?_,λ c127=>?_⟩
  ·replace c127:(!(spanB c a b))=false:=c127
   try simp only [nrm] at c127
   exact congrArg Value.bool (by unfold meetB;simp_all;try omega)
  replace c127:(!(spanB c a b))=true:=c127
  try simp only [nrm] at c127
  refine And.symm ⟨λ c128=>?_,λ c128=>?_⟩
  ·replace c128:((sideZ a b d) == (0:Int))=false:=c128
   try simp only [nrm] at c128
   refine And.symm ⟨λ c152=>?_,λ c152=>?_⟩
   ·replace c152:((sideZ c d a) == (0:Int))=false:=c152
    try simp only [nrm] at c152
    refine And.symm ⟨λ c164=>?_,λ c164=>?_⟩
    ·replace c164:((sideZ c d b) == (0:Int))=false:=c164
     try simp only [nrm] at c164
     exact congrArg Value.bool (by unfold meetB;simp_all;try omega)
    replace c164:((sideZ c d b) == (0:Int))=true:=c164
    try simp only [nrm] at c164
    refine ⟨(b,c,d),by
     rfl,by
     trivial,?_⟩
    exact congrArg Value.bool (by unfold meetB;simp_all;try omega)
   replace c152:((sideZ c d a) == (0:Int))=true:=c152
   try simp only [nrm] at c152
   refine ⟨(a,c,d),by
    rfl,by
    trivial,?_⟩
   refine And.symm ⟨λ c156=>?_,λ c156=>?_⟩
   ·replace c156:(!(spanB a c d))=false:=c156
    try simp only [nrm] at c156
    exact congrArg Value.bool (by unfold meetB;simp_all;try omega)
   replace c156:(!(spanB a c d))=true:=c156
   try simp only [nrm] at c156
   refine And.symm ⟨λ c157=>?_,λ c157=>?_⟩
   ·replace c157:((sideZ c d b) == (0:Int))=false:=c157
    try simp only [nrm] at c157
    exact congrArg Value.bool (by unfold meetB;simp_all;try omega)
   replace c157:((sideZ c d b) == (0:Int))=true:=c157
   try simp only [nrm] at c157
   refine ⟨(b,c,d),by
    rfl,by
    trivial,?_⟩
   exact congrArg Value.bool (by unfold meetB;simp_all;try omega)
  replace c128:((sideZ a b d) == (0:Int))=true:=c128
  try simp only [nrm] at c128
  refine ⟨(d,a,b),by
   rfl,by
   trivial,?_⟩
  refine And.symm ⟨λ c132=>?_,λ c132=>?_⟩
  ·replace c132:(!(spanB d a b))=false:=c132
   try simp only [nrm] at c132
   exact congrArg Value.bool (by unfold meetB;simp_all;try omega)
  replace c132:(!(spanB d a b))=true:=c132
  try simp only [nrm] at c132
  refine And.symm ⟨λ c133=>?_,λ c133=>?_⟩
  ·replace c133:((sideZ c d a) == (0:Int))=false:=c133
   try simp only [nrm] at c133
   refine And.symm ⟨λ c145=>?_,λ c145=>?_⟩
   ·replace c145:((sideZ c d b) == (0:Int))=false:=c145
    try simp only [nrm] at c145
    exact congrArg Value.bool (by unfold meetB;simp_all;try omega)
   replace c145:((sideZ c d b) == (0:Int))=true:=c145
   try simp only [nrm] at c145
   refine ⟨(b,c,d),by
    rfl,by
    trivial,?_⟩
   exact congrArg Value.bool (by unfold meetB;simp_all;try omega)
  replace c133:((sideZ c d a) == (0:Int))=true:=c133
  try simp only [nrm] at c133
  refine ⟨(a,c,d),by
   rfl,by
   trivial,?_⟩
  refine And.symm ⟨λ c137=>?_,λ c137=>?_⟩
  ·replace c137:(!(spanB a c d))=false:=c137
   try simp only [nrm] at c137
   exact congrArg Value.bool (by unfold meetB;simp_all;try omega)
  replace c137:(!(spanB a c d))=true:=c137
  try simp only [nrm] at c137
  refine And.symm ⟨λ c138=>?_,λ c138=>?_⟩
  ·replace c138:((sideZ c d b) == (0:Int))=false:=c138
   try simp only [nrm] at c138
   exact congrArg Value.bool (by unfold meetB;simp_all;try omega)
  replace c138:((sideZ c d b) == (0:Int))=true:=c138
  try simp only [nrm] at c138
  refine ⟨(b,c,d),by
   rfl,by
   trivial,?_⟩
  exact congrArg Value.bool (by unfold meetB;simp_all;try omega)
 replace c30:(decide ((IntKind.i64.wrap ((sideZ a b c)*(sideZ a b d)))<(0:Int)))=true:=c30
 try simp only [nrm] at c30
 refine ⟨λ c31=>?_,λ c31=>?_⟩
 ·replace c31:(decide ((IntKind.i64.wrap ((sideZ c d a)*(sideZ c d b)))<(0:Int)))=true:=c31
  try simp only [nrm] at c31
  exact congrArg Value.bool (by unfold meetB;simp_all;try omega)
 replace c31:(decide ((IntKind.i64.wrap ((sideZ c d a)*(sideZ c d b)))<(0:Int)))=false:=c31
 try simp only [nrm] at c31
 refine And.symm ⟨λ c33=>?_,λ c33=>?_⟩
 ·replace c33:((sideZ a b c) == (0:Int))=false:=c33
  try simp only [nrm] at c33
  refine And.symm ⟨λ c81=>?_,λ c81=>?_⟩
  ·replace c81:((sideZ a b d) == (0:Int))=false:=c81
   try simp only [nrm] at c81
   refine And.symm ⟨λ c105=>?_,λ c105=>?_⟩
   ·replace c105:((sideZ c d a) == (0:Int))=false:=c105
    try simp only [nrm] at c105
    refine And.symm ⟨λ c117=>?_,λ c117=>?_⟩
    ·replace c117:((sideZ c d b) == (0:Int))=false:=c117
     try simp only [nrm] at c117
     exact congrArg Value.bool (by unfold meetB;simp_all;try omega)
    replace c117:((sideZ c d b) == (0:Int))=true:=c117
    try simp only [nrm] at c117
    refine ⟨(b,c,d),by
     rfl,by
     trivial,?_⟩
    exact congrArg Value.bool (by unfold meetB;simp_all;try omega)
   replace c105:((sideZ c d a) == (0:Int))=true:=c105
   try simp only [nrm] at c105
   refine ⟨(a,c,d),by
    rfl,by
    trivial,?_⟩
   refine And.symm ⟨λ c109=>?_,λ c109=>?_⟩
   ·replace c109:(!(spanB a c d))=false:=c109
    try simp only [nrm] at c109
    exact congrArg Value.bool (by unfold meetB;simp_all;try omega)
   replace c109:(!(spanB a c d))=true:=c109
   try simp only [nrm] at c109
   refine And.symm ⟨λ c110=>?_,λ c110=>?_⟩
   ·replace c110:((sideZ c d b) == (0:Int))=false:=c110
    try simp only [nrm] at c110
    exact congrArg Value.bool (by unfold meetB;simp_all;try omega)
   replace c110:((sideZ c d b) == (0:Int))=true:=c110
   try simp only [nrm] at c110
   refine ⟨(b,c,d),by
    rfl,by
    trivial,?_⟩
   exact congrArg Value.bool (by unfold meetB;simp_all;try omega)
  replace c81:((sideZ a b d) == (0:Int))=true:=c81
  try simp only [nrm] at c81
  refine ⟨(d,a,b),by
   rfl,by
   trivial,?_⟩
  refine And.symm ⟨λ c85=>?_,λ c85=>?_⟩
  ·replace c85:(!(spanB d a b))=false:=c85
   try simp only [nrm] at c85
   exact congrArg Value.bool (by unfold meetB;simp_all;try omega)
  replace c85:(!(spanB d a b))=true:=c85
  try simp only [nrm] at c85
  refine And.symm ⟨λ c86=>?_,λ c86=>?_⟩
  ·replace c86:((sideZ c d a) == (0:Int))=false:=c86
   try simp only [nrm] at c86
   refine And.symm ⟨λ c98=>?_,λ c98=>?_⟩
   ·replace c98:((sideZ c d b) == (0:Int))=false:=c98
    try simp only [nrm] at c98
    exact congrArg Value.bool (by unfold meetB;simp_all;try omega)
   replace c98:((sideZ c d b) == (0:Int))=true:=c98
   try simp only [nrm] at c98
   refine ⟨(b,c,d),by
    rfl,by
    trivial,?_⟩
   exact congrArg Value.bool (by unfold meetB;simp_all;try omega)
  replace c86:((sideZ c d a) == (0:Int))=true:=c86
  try simp only [nrm] at c86
  refine ⟨(a,c,d),by
   rfl,by
   trivial,?_⟩
  refine And.symm ⟨λ c90=>?_,λ c90=>?_⟩
  ·replace c90:(!(spanB a c d))=false:=c90
   try simp only [nrm] at c90
   exact congrArg Value.bool (by unfold meetB;simp_all;try omega)
  replace c90:(!(spanB a c d))=true:=c90
  try simp only [nrm] at c90
  refine And.symm ⟨λ c91=>?_,λ c91=>?_⟩
  ·replace c91:((sideZ c d b) == (0:Int))=false:=c91
   try simp only [nrm] at c91
   exact congrArg Value.bool (by unfold meetB;simp_all;try omega)
  replace c91:((sideZ c d b) == (0:Int))=true:=c91
  try simp only [nrm] at c91
  refine ⟨(b,c,d),by
   rfl,by
   trivial,?_⟩
  exact congrArg Value.bool (by unfold meetB;simp_all;try omega)
 replace c33:((sideZ a b c) == (0:Int))=true:=c33
 try simp only [nrm] at c33
 refine ⟨(c,a,b),by
  rfl,by
  trivial,?_⟩
 refine And.symm ⟨λ c37=>?_,λ c37=>?_⟩
 ·replace c37:(!(spanB c a b))=false:=c37
  try simp only [nrm] at c37
  exact congrArg Value.bool (by unfold meetB;simp_all;try omega)
 replace c37:(!(spanB c a b))=true:=c37
 try simp only [nrm] at c37
 refine And.symm ⟨λ c38=>?_,λ c38=>?_⟩
 ·replace c38:((sideZ a b d) == (0:Int))=false:=c38
  try simp only [nrm] at c38
  refine And.symm ⟨λ c62=>?_,λ c62=>?_⟩
  ·replace c62:((sideZ c d a) == (0:Int))=false:=c62
   try simp only [nrm] at c62
   refine And.symm ⟨λ c74=>?_,λ c74=>?_⟩
   ·replace c74:((sideZ c d b) == (0:Int))=false:=c74
    try simp only [nrm] at c74
    exact congrArg Value.bool (by unfold meetB;simp_all;try omega)
   replace c74:((sideZ c d b) == (0:Int))=true:=c74
   try simp only [nrm] at c74
   refine ⟨(b,c,d),by
    rfl,by
    trivial,?_⟩
   exact congrArg Value.bool (by unfold meetB;simp_all;try omega)
  replace c62:((sideZ c d a) == (0:Int))=true:=c62
  try simp only [nrm] at c62
  refine ⟨(a,c,d),by
   rfl,by
   trivial,?_⟩
  refine And.symm ⟨λ c66=>?_,λ c66=>?_⟩
  ·replace c66:(!(spanB a c d))=false:=c66
   try simp only [nrm] at c66
   exact congrArg Value.bool (by unfold meetB;simp_all;try omega)
  replace c66:(!(spanB a c d))=true:=c66
  try simp only [nrm] at c66
  refine And.symm ⟨λ c67=>?_,λ c67=>?_⟩
  ·replace c67:((sideZ c d b) == (0:Int))=false:=c67
   try simp only [nrm] at c67
   exact congrArg Value.bool (by unfold meetB;simp_all;try omega)
  replace c67:((sideZ c d b) == (0:Int))=true:=c67
  try simp only [nrm] at c67
  refine ⟨(b,c,d),by
   rfl,by
   trivial,?_⟩
  exact congrArg Value.bool (by unfold meetB;simp_all;try omega)
 replace c38:((sideZ a b d) == (0:Int))=true:=c38
 try simp only [nrm] at c38
 refine ⟨(d,a,b),by
  rfl,by
  trivial,?_⟩
 refine And.symm ⟨λ c42=>?_,λ c42=>?_⟩
 ·replace c42:(!(spanB d a b))=false:=c42
  try simp only [nrm] at c42
  exact congrArg Value.bool (by unfold meetB;simp_all;try omega)
 replace c42:(!(spanB d a b))=true:=c42
 try simp only [nrm] at c42
 refine And.symm ⟨λ c43=>?_,λ c43=>?_⟩
 ·replace c43:((sideZ c d a) == (0:Int))=false:=c43
  try simp only [nrm] at c43
  refine And.symm ⟨λ c55=>?_,λ c55=>?_⟩
  ·replace c55:((sideZ c d b) == (0:Int))=false:=c55
   try simp only [nrm] at c55
   exact congrArg Value.bool (by unfold meetB;simp_all;try omega)
  replace c55:((sideZ c d b) == (0:Int))=true:=c55
  try simp only [nrm] at c55
  refine ⟨(b,c,d),by
   rfl,by
   trivial,?_⟩
  exact congrArg Value.bool (by unfold meetB;simp_all;try omega)
 replace c43:((sideZ c d a) == (0:Int))=true:=c43
 try simp only [nrm] at c43
 refine ⟨(a,c,d),by
  rfl,by
  trivial,?_⟩
 refine And.symm ⟨λ c47=>?_,λ c47=>?_⟩
 ·replace c47:(!(spanB a c d))=false:=c47
  try simp only [nrm] at c47
  exact congrArg Value.bool (by unfold meetB;simp_all;try omega)
 replace c47:(!(spanB a c d))=true:=c47
 try simp only [nrm] at c47
 refine And.symm ⟨λ c48=>?_,λ c48=>?_⟩
 ·replace c48:((sideZ c d b) == (0:Int))=false:=c48
  try simp only [nrm] at c48
  exact congrArg Value.bool (by unfold meetB;simp_all;try omega)
 replace c48:((sideZ c d b) == (0:Int))=true:=c48
 try simp only [nrm] at c48
 refine ⟨(b,c,d),by
  rfl,by
  trivial,?_⟩
 exact congrArg Value.bool (by unfold meetB;simp_all;try omega)
def segMeets_con:Con:={ ι:=(List V2)×Pq×Pq,pre:=λ i=>i.1.all isVec=true/\0<i.1.length/\i.1.length<=16,args:=λ i=>[.one (.sl 38 [.int,.int] (vecsD i.1)),.agg [.im (.bool (decide (i.2.1.x.z<0))),.sl 3 [.int] (L i.2.1.x.z.natAbs),.sl 3 [.int] (L i.2.1.x.d),.im (.bool (decide (i.2.1.y.z<0))),.sl 3 [.int] (L i.2.1.y.z.natAbs),.sl 3 [.int] (L i.2.1.y.d)],.agg [.im (.bool (decide (i.2.2.x.z<0))),.sl 3 [.int] (L i.2.2.x.z.natAbs),.sl 3 [.int] (L i.2.2.x.d),.im (.bool (decide (i.2.2.y.z<0))),.sl 3 [.int] (L i.2.2.y.z.natAbs),.sl 3 [.int] (L i.2.2.y.d)]],res:=λ i=>⟨false,[none],[.im (Value.bool (smB i.1 i.2.1 i.2.2))]⟩ }
theorem segMeets_ok:segMeets_con.Ok Tryz.prog 46:=by
 refine fok (X:=⟨tt,[(69,contains_con),(71,pointsOf_con),(72,meet_con)],[],42,[]⟩) mixed tt_ok (CTok.cons contains_ok (CTok.cons pointsOf_ok (CTok.cons meet_ok (CTok.nil _)))) Tryz.func46 (λ (i:(List V2)×Pq×Pq)=>[(5,.mk 12 (Nat) (λ x1=>{ tm:=[(4,.one (.one (.bp 1 0))),(5,.one (.one (.bp 6 0))),(22,.one (.one (.ext 11))),(23,.one (.one (.im (Value.int .i64 (((ptsD i.1).length:Nat):Int))))),(24,.one (.one (.im (Value.int .i64 ((x1:Nat):Int))))),(7,.one (.one (.ext 11)))],en:=[(1,.box [.im (Value.bool (decide (i.2.1.x.z<0))),.ext 2,.ext 3,.im (Value.bool (decide (i.2.1.y.z<0))),.ext 4,.ext 5]),(6,.box [.im (Value.bool (decide (i.2.2.x.z<0))),.ext 7,.ext 8,.im (Value.bool (decide (i.2.2.y.z<0))),.ext 9,.ext 10]),(2,.view 3 [.int] (L i.2.1.x.z.natAbs) []),(3,.view 3 [.int] (L i.2.1.x.d) []),(4,.view 3 [.int] (L i.2.1.y.z.natAbs) []),(5,.view 3 [.int] (L i.2.1.y.d) []),(7,.view 3 [.int] (L i.2.2.x.z.natAbs) []),(8,.view 3 [.int] (L i.2.2.x.d) []),(9,.view 3 [.int] (L i.2.2.y.z.natAbs) []),(10,.view 3 [.int] (L i.2.2.y.d) []),(11,.own 48 [.bool,.sl 3 [.int],.sl 3 [.int],.bool,.sl 3 [.int],.sl 3 [.int]] (ptsD i.1))] }) (λ x1=>x1<=i.1.length/\∀ j,j<x1->edgeB i.1 i.2.1 i.2.2 j=false) (λ x1=>i.1.length-x1) (λ _=>[]))]) ?_
 rintro ⟨l,p,q⟩ hpre
 have hpre:l.all isVec=true/\0<l.length/\l.length<=16:=hpre
 refine by_nf (q:=∃ i1:(List V2)×Pq,[DA.one (DC.sl 38 [.int,.int] (vecsD l)),dP p]=contains_con.args i1/\contains_con.pre i1/\(((!(decide ((conZ i1.1 i1.2)≥(0:Int))))=true->(∃ i2:(List V2)×Pq,[DA.one (DC.sl 38 [.int,.int] (vecsD l)),dP q]=contains_con.args i2/\contains_con.pre i2/\(((decide ((conZ i2.1 i2.2)≥(0:Int)))=true->((Value.bool true=Value.bool (smB l p q))))/\((decide ((conZ i2.1 i2.2)≥(0:Int)))=false->(∃ i3:(List V2),[DA.one (DC.sl 38 [.int,.int] (vecsD l))]=pointsOf_con.args i3/\pointsOf_con.pre i3/\((∃ x1:Nat,(x1<=l.length/\∀ j,j<x1->edgeB l p q j=false)/\((vI (nI ((ptsD i3).length))=vI (nI ((ptsD l).length)))/\(vI (0:Int)=vI (nI x1))/\(rf (Value.bool (decide (p.x.z<0))))/\(rf (Value.bool (decide (p.y.z<0))))/\(rf (Value.bool (decide (q.x.z<0))))/\(rf (Value.bool (decide (q.y.z<0))))/\(rf (L p.x.z.natAbs))/\(rf (L p.x.d))/\(rf (L p.y.z.natAbs))/\(rf (L p.y.d))/\(rf (L q.x.z.natAbs))/\(rf (L q.x.d))/\(rf (L q.y.z.natAbs))/\(rf (L q.y.d))/\(ptsD i3=(ptsD l))))/\∀ x1:Nat,(x1<=l.length/\∀ j,j<x1->edgeB l p q j=false)->(((decide ((nI x1)<(nI ((ptsD l).length))))=true->((0<=(nI x1)/\(nI x1)<((ptsD l).length:Int))/\((x1<(ptsD l).length)/\(((nI ((ptsD l).length))≠0)/\((0<=(Int.tmod (wR ((nI x1)+(1:Int))) (nI ((ptsD l).length)))/\(Int.tmod (wR ((nI x1)+(1:Int))) (nI ((ptsD l).length)))<((ptsD l).length:Int))/\(((Int.tmod (wR ((nI x1)+(1:Int))) (nI ((ptsD l).length))).toNat<(ptsD l).length)/\(∃ i4:Pq×Pq×Pq×Pq,[dP p,dP q,DA.agg [cB (((((ptsD l).getD x1 []).getD 0 (.int 0))).b),cS (((((ptsD l).getD x1 []).getD 1 (.int 0))).r),cS (((((ptsD l).getD x1 []).getD 2 (.int 0))).r),cB (((((ptsD l).getD x1 []).getD 3 (.int 0))).b),cS (((((ptsD l).getD x1 []).getD 4 (.int 0))).r),cS (((((ptsD l).getD x1 []).getD 5 (.int 0))).r)],DA.agg [cB (((((ptsD l).getD ((Int.tmod (wR ((nI x1)+(1:Int))) (nI ((ptsD l).length))).toNat) []).getD 0 (.int 0))).b),cS (((((ptsD l).getD ((Int.tmod (wR ((nI x1)+(1:Int))) (nI ((ptsD l).length))).toNat) []).getD 1 (.int 0))).r),cS (((((ptsD l).getD ((Int.tmod (wR ((nI x1)+(1:Int))) (nI ((ptsD l).length))).toNat) []).getD 2 (.int 0))).r),cB (((((ptsD l).getD ((Int.tmod (wR ((nI x1)+(1:Int))) (nI ((ptsD l).length))).toNat) []).getD 3 (.int 0))).b),cS (((((ptsD l).getD ((Int.tmod (wR ((nI x1)+(1:Int))) (nI ((ptsD l).length))).toNat) []).getD 4 (.int 0))).r),cS (((((ptsD l).getD ((Int.tmod (wR ((nI x1)+(1:Int))) (nI ((ptsD l).length))).toNat) []).getD 5 (.int 0))).r)]]=meet_con.args i4/\meet_con.pre i4/\(((meetB i4.1 i4.2.1 i4.2.2.1 i4.2.2.2)=true->((Value.bool true=Value.bool (smB l p q))))/\((meetB i4.1 i4.2.1 i4.2.2.1 i4.2.2.2)=false->(∃ y2:Nat,(y2<=l.length/\∀ j,j<y2->edgeB l p q j=false)/\(l.length-y2<l.length-x1)/\((rf (vI (nI ((ptsD l).length))))/\(vI (wR ((nI x1)+(1:Int)))=vI (nI y2))/\(rf (Value.bool (decide (p.x.z<0))))/\(rf (Value.bool (decide (p.y.z<0))))/\(rf (Value.bool (decide (q.x.z<0))))/\(rf (Value.bool (decide (q.y.z<0))))/\(rf (L p.x.z.natAbs))/\(rf (L p.x.d))/\(rf (L p.y.z.natAbs))/\(rf (L p.y.d))/\(rf (L q.x.z.natAbs))/\(rf (L q.x.d))/\(rf (L q.y.z.natAbs))/\(rf (L q.y.d))/\(rf (ptsD l)))))))))))))/\((decide ((nI x1)<(nI ((ptsD l).length))))=false->((Value.bool false=Value.bool (smB l p q)))))))))))/\((!(decide ((conZ i1.1 i1.2)≥(0:Int))))=false->((Value.bool true=Value.bool (smB l p q)))))) (by kernel_rfl) ?_
 delta vI wR nI
 have hvl:=vecsD_length l
 have hpl:=ptsD_len l
 refine ⟨(l,p),by
  rfl,by
  exact hpre,?_⟩
 refine And.symm ⟨λ c4=>?_,λ c4=>?_⟩
 ·replace c4:(!(decide ((conZ l p)≥(0:Int))))=false:=c4
  try simp only [nrm] at c4
  rw [smB_one c4]
 replace c4:(!(decide ((conZ l p)≥(0:Int))))=true:=c4
 try simp only [nrm] at c4
 refine ⟨(l,q),by
  rfl,by
  exact hpre,?_⟩
 refine ⟨λ c8=>?_,λ c8=>?_⟩
 ·replace c8:(decide ((conZ l q)≥(0:Int)))=true:=c8
  try simp only [nrm] at c8
  rw [smB_two c8]
 replace c8:(decide ((conZ l q)≥(0:Int)))=false:=c8
 try simp only [nrm] at c8
 refine ⟨l,by
  rfl,by
  exact ⟨hpre.1,by omega⟩,?_⟩
 refine ⟨⟨0,by
  exact ⟨Nat.zero_le _,λ j hj=>absurd hj (Nat.not_lt_zero j)⟩,?_⟩,?_⟩
 ·refine ⟨rfl,?_,rfl,rfl,rfl,rfl,rfl,rfl,rfl,rfl,rfl,rfl,rfl,rfl,rfl⟩
  rfl
 intro (k:Nat) hki13
 have hki13:k<=l.length/\∀ j,j<k->edgeB l p q j=false:=hki13
 refine And.symm ⟨λ c30=>?_,λ c30=>?_⟩
 ·try simp only [nrm] at c30
  rw [smB_no (by omega) (by omega) (λ j hj=>hki13.2 j (by omega))]
 try simp only [nrm] at c30
 have hkl:k<l.length:=by omega
 have m2:(k+1)%l.length<l.length:=(next_mod hkl (by omega)).2.1
 have m1:(Int.tmod (IntKind.i64.wrap (((k:Nat):Int)+(1:Int))) (((ptsD l).length:Nat):Int)).toNat=(k+1)%l.length:=by rw [hpl];exact (next_mod hkl (by omega)).1
 have m3:Int.tmod (IntKind.i64.wrap (((k:Nat):Int)+(1:Int))) (((ptsD l).length:Nat):Int)=(((k+1)%l.length:Nat):Int):=by rw [hpl];exact (next_mod hkl (by omega)).2.2
 refine ao (by omega) λ o31=>?_
 refine ao (by omega) λ o32=>?_
 refine ao (by omega) λ o33=>?_
 refine ao (by omega) λ o34=>?_
 refine ao (by omega) λ o35=>?_
 refine ⟨(p,q,ptAt l k,ptAt l ((k+1)%l.length)),by
  rw [m1,pts_get hkl,pts_get m2];rfl,by
  trivial,?_⟩
 refine ⟨λ c39=>?_,λ c39=>?_⟩
 ·replace c39:(meetB p q (ptAt l k) (ptAt l ((k+1)%l.length)))=true:=c39
  try simp only [nrm] at c39
  rw [smB_edge hkl c39]
 replace c39:(meetB p q (ptAt l k) (ptAt l ((k+1)%l.length)))=false:=c39
 try simp only [nrm] at c39
 refine ⟨k+1,by
  exact ⟨by omega,lt_step hki13.2 c39⟩,by
  omega,?_⟩
 refine ⟨rfl,?_,rfl,rfl,rfl,rfl,rfl,rfl,rfl,rfl,rfl,rfl,rfl,rfl,rfl⟩
 exact vint (wrap64 (by omega) (by omega))
def sSegMeets_con:Con:={ ι:=(List V2)×PtD×PtD,pre:=λ i=>i.2.1.has/\i.2.2.has,args:=λ i=>[.one (.sl 38 [.int,.int] (vecsD i.1)),.agg [.im (.bool i.2.1.x.neg),.sl 3 [.int] i.2.1.x.num,.sl 3 [.int] i.2.1.x.den,.im (.bool i.2.1.y.neg),.sl 3 [.int] i.2.1.y.num,.sl 3 [.int] i.2.1.y.den],.agg [.im (.bool i.2.2.x.neg),.sl 3 [.int] i.2.2.x.num,.sl 3 [.int] i.2.2.x.den,.im (.bool i.2.2.y.neg),.sl 3 [.int] i.2.2.y.num,.sl 3 [.int] i.2.2.y.den]],res:=λ i=>⟨false,[none],[.im (Value.bool (smZ i.1 i.2.1 i.2.2))]⟩ }
theorem sSegMeets_ok:sSegMeets_con.Ok Tryz.prog 33:=by
 refine fok (X:=⟨tt,[(49,sIsPoly_con),(55,sIsPt_con),(56,sContains_con),(58,sPointOf_con),(57,sSegMeet_con)],[],54,[]⟩) mixed tt_ok (CTok.cons sIsPoly_ok (CTok.cons sIsPt_ok (CTok.cons sContains_ok (CTok.cons sPointOf_ok (CTok.cons sSegMeet_ok (CTok.nil _)))))) Tryz.func33 (λ (i:(List V2)×PtD×PtD)=>[(6,.mk 12 (Nat) (λ x1=>{ tm:=[(0,.one (.one (.ext 1))),(4,.one (.one (.bp 2 0))),(5,.one (.one (.bp 7 0))),(32,.one (.one (.ext 1))),(33,.one (.one (.im (Value.int .i64 (((vecsD i.1).length:Nat):Int))))),(34,.one (.one (.im (Value.int .i64 ((x1:Nat):Int)))))],en:=[(2,.box [.im (Value.bool i.2.1.x.neg),.ext 3,.ext 4,.im (Value.bool i.2.1.y.neg),.ext 5,.ext 6]),(7,.box [.im (Value.bool i.2.2.x.neg),.ext 8,.ext 9,.im (Value.bool i.2.2.y.neg),.ext 10,.ext 11]),(1,.view 38 [.int,.int] (vecsD i.1) []),(3,.view 3 [.int] i.2.1.x.num []),(4,.view 3 [.int] i.2.1.x.den []),(5,.view 3 [.int] i.2.1.y.num []),(6,.view 3 [.int] i.2.1.y.den []),(8,.view 3 [.int] i.2.2.x.num []),(9,.view 3 [.int] i.2.2.x.den []),(10,.view 3 [.int] i.2.2.y.num []),(11,.view 3 [.int] i.2.2.y.den [])] }) (λ x1=>x1<=i.1.length/\∀ j,j<x1->edgeB i.1 (pqR i.2.1) (pqR i.2.2) j=false) (λ x1=>i.1.length-x1) (λ _=>[]))]) ?_
 rintro ⟨l,p,q⟩ hpre
 have hpre:p.has/\q.has:=hpre
 refine by_nf (q:=∃ i1:(List V2),[DA.one (DC.sl 38 [.int,.int] (vecsD l))]=sIsPoly_con.args i1/\sIsPoly_con.pre i1/\(((!(!(isPoly i1)))=true->(∃ i2:PtD×Bool,[DA.agg [cB p.x.neg,cS p.x.num,cS p.x.den,cB p.y.neg,cS p.y.num,cS p.y.den]]=sIsPt_con.args i2/\sIsPt_con.pre i2/\(((!(!i2.2))=true->(∃ i3:PtD×Bool,[DA.agg [cB q.x.neg,cS q.x.num,cS q.x.den,cB q.y.neg,cS q.y.num,cS q.y.den]]=sIsPt_con.args i3/\sIsPt_con.pre i3/\(((!i3.2)=true->((Value.bool false=Value.bool (smZ l p q))))/\((!i3.2)=false->(∃ i4:(List V2)×PtD,[DA.one (DC.sl 38 [.int,.int] (vecsD l)),DA.agg [cB p.x.neg,cS p.x.num,cS p.x.den,cB p.y.neg,cS p.y.num,cS p.y.den]]=sContains_con.args i4/\sContains_con.pre i4/\(((!(decide ((cpZ i4.1 i4.2)≥(0:Int))))=true->(∃ i5:(List V2)×PtD,[DA.one (DC.sl 38 [.int,.int] (vecsD l)),DA.agg [cB q.x.neg,cS q.x.num,cS q.x.den,cB q.y.neg,cS q.y.num,cS q.y.den]]=sContains_con.args i5/\sContains_con.pre i5/\(((decide ((cpZ i5.1 i5.2)≥(0:Int)))=true->((Value.bool true=Value.bool (smZ l p q))))/\((decide ((cpZ i5.1 i5.2)≥(0:Int)))=false->((∃ x1:Nat,(x1<=l.length/\∀ j,j<x1->edgeB l (pqR p) (pqR q) j=false)/\((rf (vI (nI ((vecsD l).length))))/\(vI (0:Int)=vI (nI x1))/\(rf (Value.bool p.x.neg))/\(rf (Value.bool p.y.neg))/\(rf (Value.bool q.x.neg))/\(rf (Value.bool q.y.neg))/\(rf (vecsD l))/\(rf (p.x.num))/\(rf (p.x.den))/\(rf (p.y.num))/\(rf (p.y.den))/\(rf (q.x.num))/\(rf (q.x.den))/\(rf (q.y.num))/\(rf (q.y.den))))/\∀ x1:Nat,(x1<=l.length/\∀ j,j<x1->edgeB l (pqR p) (pqR q) j=false)->(((decide ((nI x1)<(nI ((vecsD l).length))))=true->((0<=(nI x1)/\(nI x1)<((vecsD l).length:Int))/\((x1<(vecsD l).length)/\(∃ i6:Int×Int,[DA.agg [cI (((((vecsD l).getD x1 []).getD 0 (.int 0))).n),cI (((((vecsD l).getD x1 []).getD 1 (.int 0))).n)]]=sPointOf_con.args i6/\sPointOf_con.pre i6/\(((nI ((vecsD l).length))≠0)/\((0<=(Int.tmod (wR ((nI x1)+(1:Int))) (nI ((vecsD l).length)))/\(Int.tmod (wR ((nI x1)+(1:Int))) (nI ((vecsD l).length)))<((vecsD l).length:Int))/\(((Int.tmod (wR ((nI x1)+(1:Int))) (nI ((vecsD l).length))).toNat<(vecsD l).length)/\(∃ i7:Int×Int,[DA.agg [cI (((((vecsD l).getD ((Int.tmod (wR ((nI x1)+(1:Int))) (nI ((vecsD l).length))).toNat) []).getD 0 (.int 0))).n),cI (((((vecsD l).getD ((Int.tmod (wR ((nI x1)+(1:Int))) (nI ((vecsD l).length))).toNat) []).getD 1 (.int 0))).n)]]=sPointOf_con.args i7/\sPointOf_con.pre i7/\(∃ i8:Pq×Pq×Pq×Pq,[DA.agg [cB (decide ((Fr.ofInt i6.1).z<0)),cS (L (Fr.ofInt i6.1).z.natAbs),cS (L (Fr.ofInt i6.1).d),cB (decide ((Fr.ofInt i6.2).z<0)),cS (L (Fr.ofInt i6.2).z.natAbs),cS (L (Fr.ofInt i6.2).d)],DA.agg [cB (decide ((Fr.ofInt i7.1).z<0)),cS (L (Fr.ofInt i7.1).z.natAbs),cS (L (Fr.ofInt i7.1).d),cB (decide ((Fr.ofInt i7.2).z<0)),cS (L (Fr.ofInt i7.2).z.natAbs),cS (L (Fr.ofInt i7.2).d)],DA.agg [cB p.x.neg,cS p.x.num,cS p.x.den,cB p.y.neg,cS p.y.num,cS p.y.den],DA.agg [cB q.x.neg,cS q.x.num,cS q.x.den,cB q.y.neg,cS q.y.num,cS q.y.den]]=sSegMeet_con.args i8/\sSegMeet_con.pre i8/\(((meetB i8.1 i8.2.1 i8.2.2.1 i8.2.2.2)=true->((Value.bool true=Value.bool (smZ l p q))))/\((meetB i8.1 i8.2.1 i8.2.2.1 i8.2.2.2)=false->(∃ y2:Nat,(y2<=l.length/\∀ j,j<y2->edgeB l (pqR p) (pqR q) j=false)/\(l.length-y2<l.length-x1)/\((rf (vI (nI ((vecsD l).length))))/\(vI (wR ((nI x1)+(1:Int)))=vI (nI y2))/\(rf (Value.bool p.x.neg))/\(rf (Value.bool p.y.neg))/\(rf (Value.bool q.x.neg))/\(rf (Value.bool q.y.neg))/\(rf (vecsD l))/\(rf (p.x.num))/\(rf (p.x.den))/\(rf (p.y.num))/\(rf (p.y.den))/\(rf (q.x.num))/\(rf (q.x.den))/\(rf (q.y.num))/\(rf (q.y.den)))))))))))))))/\((decide ((nI x1)<(nI ((vecsD l).length))))=false->((Value.bool false=Value.bool (smZ l p q))))))))))/\((!(decide ((cpZ i4.1 i4.2)≥(0:Int))))=false->((Value.bool true=Value.bool (smZ l p q))))))))))/\((!(!i2.2))=false->((Value.bool false=Value.bool (smZ l p q)))))))/\((!(!(isPoly i1)))=false->((Value.bool false=Value.bool (smZ l p q)))))) (by kernel_rfl) ?_
 delta vI wR nI
 have hvl:=vecsD_length l
 have hpl:=ptsD_len l
 refine ⟨l,by
  rfl,by
  trivial,?_⟩
 refine And.symm ⟨λ c4=>?_,λ c4=>?_⟩
 ·try simp only [nrm] at c4
  have hE:smZ l p q=false:=by unfold smZ;rw [c4,Bool.false_and]
  rw [hE]
 try simp only [nrm] at c4
 refine ⟨(p,(okP p)),by
  rfl,by
  exact ⟨hpre.1,rfl⟩,?_⟩
 refine And.symm ⟨λ c8=>?_,λ c8=>?_⟩
 ·replace c8:(!(!(okP p)))=false:=c8
  try simp only [nrm] at c8
  have hE:smZ l p q=false:=by unfold smZ;rw [c8,Bool.false_and,Bool.and_false]
  rw [hE]
 replace c8:(!(!(okP p)))=true:=c8
 try simp only [nrm] at c8
 refine ⟨(q,(okP q)),by
  rfl,by
  exact ⟨hpre.2,rfl⟩,?_⟩
 refine ⟨λ c12=>?_,λ c12=>?_⟩
 ·replace c12:(!(okP q))=true:=c12
  try simp only [nrm] at c12
  have hE:smZ l p q=false:=by unfold smZ;rw [c12,Bool.false_and,Bool.and_false,Bool.and_false]
  rw [hE]
 replace c12:(!(okP q))=false:=c12
 try simp only [nrm] at c12
 obtain ⟨e1,e2,e3,e4,e5,e6,e7,e8⟩:=pqR_ok hpre.1 c8
 obtain ⟨f1,f2,f3,f4,f5,f6,f7,f8⟩:=pqR_ok hpre.2 c12
 have hP:=isPoly_len c4
 have g1:=pqR_good hpre.1 c8
 have g2:=pqR_good hpre.2 c12
 have hE:smZ l p q=smB l (pqR p) (pqR q):=by unfold smZ;rw [c4,c8,c12];rfl
 have k1:=cpZ_yes (p:=p) c4 c8
 have k2:=cpZ_yes (p:=q) c4 c12
 refine ⟨(l,p),by
  rfl,by
  exact hpre.1,?_⟩
 refine And.symm ⟨λ c17=>?_,λ c17=>?_⟩
 ·replace c17:(!(decide ((cpZ l p)≥(0:Int))))=false:=c17
  try simp only [nrm] at c17
  rw [hE,smB_one (by rw [← k1];exact c17)]
 replace c17:(!(decide ((cpZ l p)≥(0:Int))))=true:=c17
 try simp only [nrm] at c17
 refine ⟨(l,q),by
  rfl,by
  exact hpre.2,?_⟩
 refine ⟨λ c21=>?_,λ c21=>?_⟩
 ·replace c21:(decide ((cpZ l q)≥(0:Int)))=true:=c21
  try simp only [nrm] at c21
  rw [hE,smB_two (by rw [← k2];exact c21)]
 replace c21:(decide ((cpZ l q)≥(0:Int)))=false:=c21
 try simp only [nrm] at c21
 refine ⟨⟨0,by
  exact ⟨Nat.zero_le _,λ j hj=>absurd hj (Nat.not_lt_zero j)⟩,?_⟩,?_⟩
 ·refine ⟨rfl,?_,rfl,rfl,rfl,rfl,rfl,rfl,rfl,rfl,rfl,rfl,rfl,rfl,rfl⟩
  rfl
 intro (k:Nat) hki23
 have hki23:k<=l.length/\∀ j,j<k->edgeB l (pqR p) (pqR q) j=false:=hki23
 refine And.symm ⟨λ c40=>?_,λ c40=>?_⟩
 ·try simp only [nrm] at c40
  rw [hE,smB_no (by rw [← k1];omega) (by rw [← k2];omega) (λ j hj=>hki23.2 j (by omega))]
 try simp only [nrm] at c40
 have hkl:k<l.length:=by omega
 have m2:(k+1)%l.length<l.length:=(next_mod hkl (by omega)).2.1
 have m1:(Int.tmod (IntKind.i64.wrap (((k:Nat):Int)+(1:Int))) (((vecsD l).length:Nat):Int)).toNat=(k+1)%l.length:=by rw [hvl];exact (next_mod hkl (by omega)).1
 have m3:Int.tmod (IntKind.i64.wrap (((k:Nat):Int)+(1:Int))) (((vecsD l).length:Nat):Int)=(((k+1)%l.length:Nat):Int):=by rw [hvl];exact (next_mod hkl (by omega)).2.2
 refine ao (by omega) λ o41=>?_
 refine ao (by omega) λ o42=>?_
 refine ⟨((l.getD k (0,0)).1,(l.getD k (0,0)).2),by
  rw [vecs_x (by omega),vecs_y (by omega)];rfl,by
  exact vec_i64 hP.2.2 hkl,?_⟩
 refine ao (by omega) λ o46=>?_
 refine ao (by omega) λ o47=>?_
 refine ao (by omega) λ o48=>?_
 refine ⟨((l.getD ((k+1)%l.length) (0,0)).1,(l.getD ((k+1)%l.length) (0,0)).2),by
  rw [m1,vecs_x m2,vecs_y m2];rfl,by
  try dsimp only [sPointOf_con]
  exact vec_i64 hP.2.2 m2,?_⟩
 refine ⟨(ptAt l k,ptAt l ((k+1)%l.length),pqR p,pqR q),by
  rw [e1,e2,e3,e4,e5,e6,f1,f2,f3,f4,f5,f6];rfl,by
  exact ⟨ptAt_good hP.2.2 hkl,ptAt_good hP.2.2 m2,g1,g2⟩,?_⟩
 refine ⟨λ c55=>?_,λ c55=>?_⟩
 ·replace c55:(meetB (ptAt l k) (ptAt l ((k+1)%l.length)) (pqR p) (pqR q))=true:=c55
  try simp only [nrm] at c55
  rw [hE,smB_edge hkl ((meet_sym _ _ _ _).trans c55)]
 replace c55:(meetB (ptAt l k) (ptAt l ((k+1)%l.length)) (pqR p) (pqR q))=false:=c55
 try simp only [nrm] at c55
 refine ⟨k+1,by
  exact ⟨by omega,lt_step hki23.2 ((meet_sym _ _ _ _).trans c55)⟩,by
  omega,?_⟩
 refine ⟨rfl,?_,rfl,rfl,rfl,rfl,rfl,rfl,rfl,rfl,rfl,rfl,rfl,rfl,rfl⟩
 exact vint (wrap64 (by omega) (by omega))
end Go.Proofs.YtlejeadlmpkffaaGreat
