import Derived.Test.YtndnhlhnjiopfaaGreatDi2RkF
namespace Go.Proofs.YtndnhlhnjiopfaaGreat
set_option maxRecDepth 100000
set_option linter.unusedVariables false
set_option linter.unusedSimpArgs false
open Go.RowKit
def L9 (x a b:Fr):Bool:=decide (Fr.cmp x (Fr.min a b)≥0) && decide (Fr.cmp x (Fr.max a b)<=0)
def CJ (p a b:Pq):Bool:=L9 p.x a.x b.x && L9 p.y a.y b.y
def An (a b c d:Pq):Bool:=
 (decide (Bz a b c=0) && CJ c a b) || ((decide (Bz a b d=0) && CJ d a b) || ((decide (Bz c d a=0) && CJ a c d) || ((decide (Bz c d b=0) && CJ b c d) ||
  (decide (Bz a b c*Bz a b d<0) && decide (Bz c d a*Bz c d b<0)))))
theorem YD (r:Fr):-1<=r.sgn/\r.sgn<=1:=by rw [Fr.sgn_z];unfold Cw;split <;> (try split) <;> omega
theorem SW (p q r:Pq):-1<=Bz p q r/\Bz p q r<=1:=YD _
theorem Pu (p q r s t u:Pq):IntKind.i64.wrap (Bz p q r*Bz s t u)=Bz p q r*Bz s t u:=by
 have h1:=SW p q r
 have h2:=SW s t u
 generalize Bz p q r=x at *
 generalize Bz s t u=y at *
 have hx:x=-1∨x=0∨x=1:=by omega
 rcases hx with rfl|rfl|rfl
 ·exact AB (by omega) (by omega)
 ·exact AB (by omega) (by omega)
 ·exact AB (by omega) (by omega)
def G5 (l:List V2) (p q:Pq) (k:Nat):Bool:=An p q (By l k) (By l ((k+1)%l.length))
def smB (l:List V2) (p q:Pq):Bool:=decide (FU l p≥0) || (decide (FU l q≥0) || (List.range l.length).any (G5 l p q))
theorem Vn {l:List V2} {p q:Pq} {k:Nat} (hk:k<l.length) (h:G5 l p q k=true):smB l p q=true:=by
 have:(List.range l.length).any (G5 l p q)=true:=List.any_eq_true.2 ⟨k,List.mem_range.2 hk,h⟩
 unfold smB;rw [this];simp
theorem Wr {l:List V2} {p q:Pq} (h:FU l p≥0):smB l p q=true:=by unfold smB;rw [decide_eq_true h];rfl
theorem Ws {l:List V2} {p q:Pq} (h:FU l q≥0):smB l p q=true:=by unfold smB;rw [decide_eq_true h];simp
theorem YE {l:List V2} {p q:Pq} (h1:¬ FU l p≥0) (h2:¬ FU l q≥0) (h:∀ j,j<l.length->G5 l p q j=false):smB l p q=false:=by
 have:(List.range l.length).any (G5 l p q)=false:=by
  rw [List.any_eq_false];intro j hj;rw [h j (List.mem_range.1 hj)];simp
 unfold smB;rw [this,decide_eq_false h1,decide_eq_false h2];rfl
def smZ (l:List V2) (p q:PtD):Bool:=AU l && (okP p && (okP q && smB l (pqR p) (pqR q)))
theorem Tm {l:List V2} (h:l.all AQ=true) {k:Nat} (hk:k<l.length):(By l k).good=true:=by
 have hv:=SG h hk
 unfold Pq.good By ptV
 rw [Fr.good_some (Kj (Bk hv.1)),Fr.good_some (Kj (Bk hv.2))];rfl
theorem Yo {l:List V2} {p:Pq} (hl:AU l=true) (h:p.good=true):cpZ l (ptQ p)=FU l p:=by
 rw [SK hl (by rw [ID];exact h)]
 have hg:p.x.good=true/\p.y.good=true:=by unfold Pq.good at h;rwa [Bool.and_eq_true] at h
 have e:pqR (ptQ p)=p:=by
  show (⟨Fr.mk' (zOf (decide (p.x.z<0)) (EO (L p.x.z.natAbs))) (EO (L p.x.d)),Fr.mk' (zOf (decide (p.y.z<0)) (EO (L p.y.z.natAbs))) (EO (L p.y.d))⟩:Pq)=p
  rw [BJ,BJ,BJ,BJ,Bd,Bd,ET (Fr.d_good.1 hg.1),ET (Fr.d_good.1 hg.2)]
 rw [e]
def CW:Con:={ ι:=Fr×Fr×Fr,pre:=λ i=>True,args:=λ i=>[dF i.1,dF i.2.1,dF i.2.2],res:=λ i=>⟨false,[none],[rcB (L9 i.1 i.2.1 i.2.2)]⟩ }
theorem OA:CW.Ok Tryz.prog 120:=by
 refine fok (X:=⟨tt,[(84,BC),(48,BA),(94,DD)],[],21,[]⟩) AG AH (CTok.cons Hk (CTok.cons Hj (CTok.cons NG (CTok.nil _)))) Tryz.func120 (λ _=>[]) ?_
 rintro ⟨x,a,b⟩ hpre
 have hpre:True:=hpre
 refine AF (q:=∃ i1:Fr×Fr,[dF a,dF b]=BC.args i1/\BC.pre i1/\(∃ i2:Fr×Fr,[dF x,dF (Fr.min i1.1 i1.2)]=BA.args i2/\BA.pre i2/\(ifB ((decide ((Fr.cmp i2.1 i2.2)≥(0:Int)))) (∃ i3:Fr×Fr,[dF a,dF b]=DD.args i3/\DD.pre i3/\(∃ i4:Fr×Fr,[dF x,dF (Fr.max i3.1 i3.2)]=BA.args i4/\BA.pre i4/\((vB (decide ((Fr.cmp i4.1 i4.2)<=(0:Int)))=vB (L9 x a b))))) ((vB false=vB (L9 x a b)))))) (by kernel_rfl) ?_
 delta ifB vB
 refine ⟨(a,b),by
  rfl,by
  trivial,?_⟩
 refine ⟨(x,(Fr.min a b)),by
  rfl,by
  trivial,?_⟩
 refine And.symm ⟨λ c7=>?_,λ c7=>?_⟩
 ·try simp only [nrm] at c7
  exact congrArg Value.bool (by unfold L9;first|(rw [decide_eq_true (show Fr.cmp x (Fr.min a b)≥0 by omega)];rfl)|(rw [decide_eq_false (show ¬ Fr.cmp x (Fr.min a b)≥0 by omega)];rfl))
 try simp only [nrm] at c7
 refine ⟨(a,b),by
  rfl,by
  trivial,?_⟩
 refine ⟨(x,(Fr.max a b)),by
  rfl,by
  trivial,?_⟩
 exact congrArg Value.bool (by unfold L9;first|(rw [decide_eq_true (show Fr.cmp x (Fr.min a b)≥0 by omega)];rfl)|(rw [decide_eq_false (show ¬ Fr.cmp x (Fr.min a b)≥0 by omega)];rfl))
def AK:Con:={ ι:=Pq×Pq×Pq,pre:=λ i=>True,args:=λ i=>[dP i.1,dP i.2.1,dP i.2.2],res:=λ i=>⟨false,[none],[rcB (CJ i.1 i.2.1 i.2.2)]⟩ }
theorem Pv:AK.Ok Tryz.prog 79:=by
 refine fok (X:=⟨tt,[(120,CW)],[],23,[]⟩) AG AH (CTok.cons OA (CTok.nil _)) Tryz.func79 (λ _=>[]) ?_
 rintro ⟨p,a,b⟩ hpre
 have hpre:True:=hpre
 refine AF (q:=∃ i1:Fr×Fr×Fr,[dF p.x,dF a.x,dF b.x]=CW.args i1/\CW.pre i1/\(ifB ((L9 i1.1 i1.2.1 i1.2.2)) (∃ i2:Fr×Fr×Fr,[dF p.y,dF a.y,dF b.y]=CW.args i2/\CW.pre i2/\((vB (L9 i2.1 i2.2.1 i2.2.2)=vB (CJ p a b)))) ((vB false=vB (CJ p a b))))) (by kernel_rfl) ?_
 delta ifB vB
 refine ⟨(p.x,a.x,b.x),by
  rfl,by
  trivial,?_⟩
 refine And.symm ⟨λ c4=>?_,λ c4=>?_⟩
 ·try simp only [nrm] at c4
  exact congrArg Value.bool (by unfold CJ;rw [c4];rfl)
 try simp only [nrm] at c4
 refine ⟨(p.y,a.y,b.y),by
  rfl,by
  trivial,?_⟩
 exact congrArg Value.bool (by unfold CJ;rw [c4];rfl)
def Iu:Con:={ ι:=Pq×Pq×Pq×Pq,pre:=λ i=>True,args:=λ i=>[dP i.1,dP i.2.1,dP i.2.2.1,dP i.2.2.2],res:=λ i=>⟨false,[none],[rcB (An i.1 i.2.1 i.2.2.1 i.2.2.2)]⟩ }
set_option maxHeartbeats 1600000 in
theorem Wt:Iu.Ok Tryz.prog 36:=by
 refine fok (X:=⟨tt,[(78,CG),(79,AK)],[],72,[]⟩) AG AH (CTok.cons SL (CTok.cons Pv (CTok.nil _))) Tryz.func36 (λ _=>[]) ?_
 rintro ⟨a,b,c,d⟩ hpre
 have hpre:True:=hpre
 refine AF (q:=let Z6:=An a b c d;let Z2:=(vB true=vB Z6);∃ i1:Pq×Pq×Pq,let Z9:=Bz i1.1 i1.2.1 i1.2.2;[dP a,dP b,dP c]=CG.args i1/\CG.pre i1/\(∃ i2:Pq×Pq×Pq,let Z5:=Bz i2.1 i2.2.1 i2.2.2;[dP a,dP b,dP d]=CG.args i2/\CG.pre i2/\(∃ i3:Pq×Pq×Pq,let Z7:=Bz i3.1 i3.2.1 i3.2.2;let Z4:=(Z7 == (0:Int));[dP c,dP d,dP a]=CG.args i3/\CG.pre i3/\(∃ i4:Pq×Pq×Pq,let Z8:=Bz i4.1 i4.2.1 i4.2.2;let Z3:=(Z8 == (0:Int));let Z1:=ifB ((decide ((wR (Z9*Z5))<(0:Int)))) ((vB (decide ((wR (Z7*Z8))<(0:Int)))=vB Z6)) ((vB false=vB Z6));[dP c,dP d,dP b]=CG.args i4/\CG.pre i4/\(ifB ((Z9 == (0:Int))) (∃ i5:Pq×Pq×Pq,[dP c,dP a,dP b]=AK.args i5/\AK.pre i5/\(ifB ((CJ i5.1 i5.2.1 i5.2.2)) Z2 (ifB ((Z5 == (0:Int))) (∃ i6:Pq×Pq×Pq,[dP d,dP a,dP b]=AK.args i6/\AK.pre i6/\(ifB ((CJ i6.1 i6.2.1 i6.2.2)) Z2 (ifB Z4 (∃ i7:Pq×Pq×Pq,[dP a,dP c,dP d]=AK.args i7/\AK.pre i7/\(ifB ((CJ i7.1 i7.2.1 i7.2.2)) Z2 (ifB Z3 (∃ i8:Pq×Pq×Pq,[dP b,dP c,dP d]=AK.args i8/\AK.pre i8/\(ifB ((CJ i8.1 i8.2.1 i8.2.2)) Z2 Z1)) Z1))) (ifB Z3 (∃ i9:Pq×Pq×Pq,[dP b,dP c,dP d]=AK.args i9/\AK.pre i9/\(ifB ((CJ i9.1 i9.2.1 i9.2.2)) Z2 Z1)) Z1)))) (ifB Z4 (∃ i10:Pq×Pq×Pq,[dP a,dP c,dP d]=AK.args i10/\AK.pre i10/\(ifB ((CJ i10.1 i10.2.1 i10.2.2)) Z2 (ifB Z3 (∃ i11:Pq×Pq×Pq,[dP b,dP c,dP d]=AK.args i11/\AK.pre i11/\(ifB ((CJ i11.1 i11.2.1 i11.2.2)) Z2 Z1)) Z1))) (ifB Z3 (∃ i12:Pq×Pq×Pq,[dP b,dP c,dP d]=AK.args i12/\AK.pre i12/\(ifB ((CJ i12.1 i12.2.1 i12.2.2)) Z2 Z1)) Z1))))) (ifB ((Z5 == (0:Int))) (∃ i13:Pq×Pq×Pq,[dP d,dP a,dP b]=AK.args i13/\AK.pre i13/\(ifB ((CJ i13.1 i13.2.1 i13.2.2)) Z2 (ifB Z4 (∃ i14:Pq×Pq×Pq,[dP a,dP c,dP d]=AK.args i14/\AK.pre i14/\(ifB ((CJ i14.1 i14.2.1 i14.2.2)) Z2 (ifB Z3 (∃ i15:Pq×Pq×Pq,[dP b,dP c,dP d]=AK.args i15/\AK.pre i15/\(ifB ((CJ i15.1 i15.2.1 i15.2.2)) Z2 Z1)) Z1))) (ifB Z3 (∃ i16:Pq×Pq×Pq,[dP b,dP c,dP d]=AK.args i16/\AK.pre i16/\(ifB ((CJ i16.1 i16.2.1 i16.2.2)) Z2 Z1)) Z1)))) (ifB Z4 (∃ i17:Pq×Pq×Pq,[dP a,dP c,dP d]=AK.args i17/\AK.pre i17/\(ifB ((CJ i17.1 i17.2.1 i17.2.2)) Z2 (ifB Z3 (∃ i18:Pq×Pq×Pq,[dP b,dP c,dP d]=AK.args i18/\AK.pre i18/\(ifB ((CJ i18.1 i18.2.1 i18.2.2)) Z2 Z1)) Z1))) (ifB Z3 (∃ i19:Pq×Pq×Pq,[dP b,dP c,dP d]=AK.args i19/\AK.pre i19/\(ifB ((CJ i19.1 i19.2.1 i19.2.2)) Z2 Z1)) Z1)))))))) (by kernel_rfl) ?_
 conv=>zeta
 delta ifB vB wR
 have q1:=Pu a b c a b d
 have q2:=Pu c d a c d b
 refine ⟨(a,b,c),by
  rfl,by
  trivial,?_⟩
 refine ⟨(a,b,d),by
  rfl,by
  trivial,?_⟩
 refine ⟨(c,d,a),by
  rfl,by
  trivial,?_⟩
 refine ⟨(c,d,b),by
  rfl,by
  trivial,?_⟩
 refine And.symm ⟨λ c13=>?_,λ c13=>?_⟩
 ·try simp only [nrm] at c13
  refine And.symm ⟨λ c85=>?_,λ c85=>?_⟩
  ·try simp only [nrm] at c85
   refine And.symm ⟨λ c121=>?_,λ c121=>?_⟩
   ·try simp only [nrm] at c121
    refine And.symm ⟨λ c139=>?_,λ c139=>?_⟩
    ·try simp only [nrm] at c139
     refine ⟨λ c148=>?_,λ c148=>?_⟩
     ·try simp only [nrm] at c148
      exact congrArg Value.bool (by unfold An;simp_all;try omega)
     try simp only [nrm] at c148
     exact congrArg Value.bool (by unfold An;simp_all;try omega)
    try simp only [nrm] at c139
    refine ⟨(b,c,d),by
     rfl,by
     trivial,?_⟩
    refine ⟨λ c143=>?_,λ c143=>?_⟩
    ·try simp only [nrm] at c143
     exact congrArg Value.bool (by unfold An;simp_all;try omega)
    try simp only [nrm] at c143
    refine ⟨λ c145=>?_,λ c145=>?_⟩
    ·try simp only [nrm] at c145
     exact congrArg Value.bool (by unfold An;simp_all;try omega)
    try simp only [nrm] at c145
    exact congrArg Value.bool (by unfold An;simp_all;try omega)
   try simp only [nrm] at c121
   refine ⟨(a,c,d),by
    rfl,by
    trivial,?_⟩
   refine ⟨λ c125=>?_,λ c125=>?_⟩
   ·try simp only [nrm] at c125
    exact congrArg Value.bool (by unfold An;simp_all;try omega)
   try simp only [nrm] at c125
   refine And.symm ⟨λ c127=>?_,λ c127=>?_⟩
   ·try simp only [nrm] at c127
    refine ⟨λ c136=>?_,λ c136=>?_⟩
    ·try simp only [nrm] at c136
     exact congrArg Value.bool (by unfold An;simp_all;try omega)
    try simp only [nrm] at c136
    exact congrArg Value.bool (by unfold An;simp_all;try omega)
   try simp only [nrm] at c127
   refine ⟨(b,c,d),by
    rfl,by
    trivial,?_⟩
   refine ⟨λ c131=>?_,λ c131=>?_⟩
   ·try simp only [nrm] at c131
    exact congrArg Value.bool (by unfold An;simp_all;try omega)
   try simp only [nrm] at c131
   refine ⟨λ c133=>?_,λ c133=>?_⟩
   ·try simp only [nrm] at c133
    exact congrArg Value.bool (by unfold An;simp_all;try omega)
   try simp only [nrm] at c133
   exact congrArg Value.bool (by unfold An;simp_all;try omega)
  try simp only [nrm] at c85
  refine ⟨(d,a,b),by
   rfl,by
   trivial,?_⟩
  refine ⟨λ c89=>?_,λ c89=>?_⟩
  ·try simp only [nrm] at c89
   exact congrArg Value.bool (by unfold An;simp_all;try omega)
  try simp only [nrm] at c89
  refine And.symm ⟨λ c91=>?_,λ c91=>?_⟩
  ·try simp only [nrm] at c91
   refine And.symm ⟨λ c109=>?_,λ c109=>?_⟩
   ·try simp only [nrm] at c109
    refine ⟨λ c118=>?_,λ c118=>?_⟩
    ·try simp only [nrm] at c118
     exact congrArg Value.bool (by unfold An;simp_all;try omega)
    try simp only [nrm] at c118
    exact congrArg Value.bool (by unfold An;simp_all;try omega)
   try simp only [nrm] at c109
   refine ⟨(b,c,d),by
    rfl,by
    trivial,?_⟩
   refine ⟨λ c113=>?_,λ c113=>?_⟩
   ·try simp only [nrm] at c113
    exact congrArg Value.bool (by unfold An;simp_all;try omega)
   try simp only [nrm] at c113
   refine ⟨λ c115=>?_,λ c115=>?_⟩
   ·try simp only [nrm] at c115
    exact congrArg Value.bool (by unfold An;simp_all;try omega)
   try simp only [nrm] at c115
   exact congrArg Value.bool (by unfold An;simp_all;try omega)
  try simp only [nrm] at c91
  refine ⟨(a,c,d),by
   rfl,by
   trivial,?_⟩
  refine ⟨λ c95=>?_,λ c95=>?_⟩
  ·try simp only [nrm] at c95
   exact congrArg Value.bool (by unfold An;simp_all;try omega)
  try simp only [nrm] at c95
  refine And.symm ⟨λ c97=>?_,λ c97=>?_⟩
  ·try simp only [nrm] at c97
   refine ⟨λ c106=>?_,λ c106=>?_⟩
   ·try simp only [nrm] at c106
    exact congrArg Value.bool (by unfold An;simp_all;try omega)
   try simp only [nrm] at c106
   exact congrArg Value.bool (by unfold An;simp_all;try omega)
  try simp only [nrm] at c97
  refine ⟨(b,c,d),by
   rfl,by
   trivial,?_⟩
  refine ⟨λ c101=>?_,λ c101=>?_⟩
  ·try simp only [nrm] at c101
   exact congrArg Value.bool (by unfold An;simp_all;try omega)
  try simp only [nrm] at c101
  refine ⟨λ c103=>?_,λ c103=>?_⟩
  ·try simp only [nrm] at c103
   exact congrArg Value.bool (by unfold An;simp_all;try omega)
  try simp only [nrm] at c103
  exact congrArg Value.bool (by unfold An;simp_all;try omega)
 try simp only [nrm] at c13
 refine ⟨(c,a,b),by
  rfl,by
  trivial,?_⟩
 refine ⟨λ c17=>?_,λ c17=>?_⟩
 ·try simp only [nrm] at c17
  exact congrArg Value.bool (by unfold An;simp_all;try omega)
 try simp only [nrm] at c17
 refine And.symm ⟨λ c19=>?_,λ c19=>?_⟩
 ·try simp only [nrm] at c19
  refine And.symm ⟨λ c55=>?_,λ c55=>?_⟩
  ·try simp only [nrm] at c55
   refine And.symm ⟨λ c73=>?_,λ c73=>?_⟩
   ·try simp only [nrm] at c73
    refine ⟨λ c82=>?_,λ c82=>?_⟩
    ·try simp only [nrm] at c82
     exact congrArg Value.bool (by unfold An;simp_all;try omega)
    try simp only [nrm] at c82
    exact congrArg Value.bool (by unfold An;simp_all;try omega)
   try simp only [nrm] at c73
   refine ⟨(b,c,d),by
    rfl,by
    trivial,?_⟩
   refine ⟨λ c77=>?_,λ c77=>?_⟩
   ·try simp only [nrm] at c77
    exact congrArg Value.bool (by unfold An;simp_all;try omega)
   try simp only [nrm] at c77
   refine ⟨λ c79=>?_,λ c79=>?_⟩
   ·try simp only [nrm] at c79
    exact congrArg Value.bool (by unfold An;simp_all;try omega)
   try simp only [nrm] at c79
   exact congrArg Value.bool (by unfold An;simp_all;try omega)
  try simp only [nrm] at c55
  refine ⟨(a,c,d),by
   rfl,by
   trivial,?_⟩
  refine ⟨λ c59=>?_,λ c59=>?_⟩
  ·try simp only [nrm] at c59
   exact congrArg Value.bool (by unfold An;simp_all;try omega)
  try simp only [nrm] at c59
  refine And.symm ⟨λ c61=>?_,λ c61=>?_⟩
  ·try simp only [nrm] at c61
   refine ⟨λ c70=>?_,λ c70=>?_⟩
   ·try simp only [nrm] at c70
    exact congrArg Value.bool (by unfold An;simp_all;try omega)
   try simp only [nrm] at c70
   exact congrArg Value.bool (by unfold An;simp_all;try omega)
  try simp only [nrm] at c61
  refine ⟨(b,c,d),by
   rfl,by
   trivial,?_⟩
  refine ⟨λ c65=>?_,λ c65=>?_⟩
  ·try simp only [nrm] at c65
   exact congrArg Value.bool (by unfold An;simp_all;try omega)
  try simp only [nrm] at c65
  refine ⟨λ c67=>?_,λ c67=>?_⟩
  ·try simp only [nrm] at c67
   exact congrArg Value.bool (by unfold An;simp_all;try omega)
  try simp only [nrm] at c67
  exact congrArg Value.bool (by unfold An;simp_all;try omega)
 try simp only [nrm] at c19
 refine ⟨(d,a,b),by
  rfl,by
  trivial,?_⟩
 refine ⟨λ c23=>?_,λ c23=>?_⟩
 ·try simp only [nrm] at c23
  exact congrArg Value.bool (by unfold An;simp_all;try omega)
 try simp only [nrm] at c23
 refine And.symm ⟨λ c25=>?_,λ c25=>?_⟩
 ·try simp only [nrm] at c25
  refine And.symm ⟨λ c43=>?_,λ c43=>?_⟩
  ·try simp only [nrm] at c43
   refine ⟨λ c52=>?_,λ c52=>?_⟩
   ·try simp only [nrm] at c52
    exact congrArg Value.bool (by unfold An;simp_all;try omega)
   try simp only [nrm] at c52
   exact congrArg Value.bool (by unfold An;simp_all;try omega)
  try simp only [nrm] at c43
  refine ⟨(b,c,d),by
   rfl,by
   trivial,?_⟩
  refine ⟨λ c47=>?_,λ c47=>?_⟩
  ·try simp only [nrm] at c47
   exact congrArg Value.bool (by unfold An;simp_all;try omega)
  try simp only [nrm] at c47
  refine ⟨λ c49=>?_,λ c49=>?_⟩
  ·try simp only [nrm] at c49
   exact congrArg Value.bool (by unfold An;simp_all;try omega)
  try simp only [nrm] at c49
  exact congrArg Value.bool (by unfold An;simp_all;try omega)
 try simp only [nrm] at c25
 refine ⟨(a,c,d),by
  rfl,by
  trivial,?_⟩
 refine ⟨λ c29=>?_,λ c29=>?_⟩
 ·try simp only [nrm] at c29
  exact congrArg Value.bool (by unfold An;simp_all;try omega)
 try simp only [nrm] at c29
 refine And.symm ⟨λ c31=>?_,λ c31=>?_⟩
 ·try simp only [nrm] at c31
  refine ⟨λ c40=>?_,λ c40=>?_⟩
  ·try simp only [nrm] at c40
   exact congrArg Value.bool (by unfold An;simp_all;try omega)
  try simp only [nrm] at c40
  exact congrArg Value.bool (by unfold An;simp_all;try omega)
 try simp only [nrm] at c31
 refine ⟨(b,c,d),by
  rfl,by
  trivial,?_⟩
 refine ⟨λ c35=>?_,λ c35=>?_⟩
 ·try simp only [nrm] at c35
  exact congrArg Value.bool (by unfold An;simp_all;try omega)
 try simp only [nrm] at c35
 refine ⟨λ c37=>?_,λ c37=>?_⟩
 ·try simp only [nrm] at c37
  exact congrArg Value.bool (by unfold An;simp_all;try omega)
 try simp only [nrm] at c37
 exact congrArg Value.bool (by unfold An;simp_all;try omega)
def CQ:Con:={ ι:=(List V2)×Pq×Pq,pre:=λ i=>i.1.all AQ=true/\0<i.1.length/\i.1.length<=16,args:=λ i=>[.one (DC.sl 44 [.int,.int] (AC i.1)),dP i.2.1,dP i.2.2],res:=λ i=>⟨false,[none],[rcB (smB i.1 i.2.1 i.2.2)]⟩ }
theorem KN:CQ.Ok Tryz.prog 38:=by
 refine fok (X:=⟨tt,[(39,A9),(82,A2),(36,Iu)],[],42,[]⟩) AG AH (CTok.cons G4 (CTok.cons FC (CTok.cons Wt (CTok.nil _)))) Tryz.func38 (λ (i:(List V2)×Pq×Pq)=>[(5,.mk 12 (Nat) (λ x1=>{ tm:=[(4,tP 1 0),(5,tP 6 0),(22,tX 11),(23,tI (nI ((Au i.1).length))),(24,tI (nI x1)),(7,tX 11)],en:=[(1,.box [kB (decide (i.2.1.x.z<0)),.ext 2,.ext 3,kB (decide (i.2.1.y.z<0)),.ext 4,.ext 5]),(6,.box [kB (decide (i.2.2.x.z<0)),.ext 7,.ext 8,kB (decide (i.2.2.y.z<0)),.ext 9,.ext 10]),(2,eV (L i.2.1.x.z.natAbs)),(3,eV (L i.2.1.x.d)),(4,eV (L i.2.1.y.z.natAbs)),(5,eV (L i.2.1.y.d)),(7,eV (L i.2.2.x.z.natAbs)),(8,eV (L i.2.2.x.d)),(9,eV (L i.2.2.y.z.natAbs)),(10,eV (L i.2.2.y.d)),(11,.own 29 z28 (Au i.1))] }) (λ x1=>x1<=i.1.length/\∀ j,j<x1->G5 i.1 i.2.1 i.2.2 j=false) (λ x1=>i.1.length-x1) (λ _=>[]))]) ?_
 rintro ⟨l,p,q⟩ hpre
 have hpre:l.all AQ=true/\0<l.length/\l.length<=16:=hpre
 refine AF (q:=let Z11:=vB (decide (q.y.z<0));let Z10:=vB (decide (q.x.z<0));let Z9:=vB (decide (p.y.z<0));let Z8:=vB (decide (p.x.z<0));let Z6:=(vB true=vB (smB l p q));let Z5:=DC.sl 44 [.int,.int] (AC l);let Z4:=nI ((Au l).length);∃ i1:(List V2)×Pq,[DA.one Z5,dP p]=A9.args i1/\A9.pre i1/\(ifB ((!(decide ((FU i1.1 i1.2)≥(0:Int))))) (∃ i2:(List V2)×Pq,[DA.one Z5,dP q]=A9.args i2/\A9.pre i2/\(ifB ((decide ((FU i2.1 i2.2)≥(0:Int)))) Z6 (∃ i3:(List V2),[DA.one Z5]=A2.args i3/\A2.pre i3/\((∃ x1:Nat,(x1<=l.length/\∀ j,j<x1->G5 l p q j=false)/\((vI (nI ((Au i3).length))=vI Z4)/\(vI (0:Int)=vI (nI x1))/\(rf Z8)/\(rf Z9)/\(rf Z10)/\(rf Z11)/\(rf (L p.x.z.natAbs))/\(rf (L p.x.d))/\(rf (L p.y.z.natAbs))/\(rf (L p.y.d))/\(rf (L q.x.z.natAbs))/\(rf (L q.x.d))/\(rf (L q.y.z.natAbs))/\(rf (L q.y.d))/\(Au i3=(Au l))))/\∀ x1:Nat,let Z7:=wR ((nI x1)+(1:Int));let Z3:=(Au l).getD x1 [];let Z1:=Int.tmod Z7 Z4;let Z2:=(Au l).getD (Z1.toNat) [];(x1<=l.length/\∀ j,j<x1->G5 l p q j=false)->(ifB ((decide ((nI x1)<Z4))) ((0<=(nI x1)/\(nI x1)<((Au l).length:Int))/\((x1<(Au l).length)/\((Z4≠0)/\((0<=Z1/\Z1<((Au l).length:Int))/\((Z1.toNat<(Au l).length)/\(∃ i4:Pq×Pq×Pq×Pq,[dP p,dP q,DA.agg [cB (((Z3.getD 0 (.int 0))).b),cS (((Z3.getD 1 (.int 0))).r),cS (((Z3.getD 2 (.int 0))).r),cB (((Z3.getD 3 (.int 0))).b),cS (((Z3.getD 4 (.int 0))).r),cS (((Z3.getD 5 (.int 0))).r)],DA.agg [cB (((Z2.getD 0 (.int 0))).b),cS (((Z2.getD 1 (.int 0))).r),cS (((Z2.getD 2 (.int 0))).r),cB (((Z2.getD 3 (.int 0))).b),cS (((Z2.getD 4 (.int 0))).r),cS (((Z2.getD 5 (.int 0))).r)]]=Iu.args i4/\Iu.pre i4/\(ifB ((An i4.1 i4.2.1 i4.2.2.1 i4.2.2.2)) Z6 (∃ y2:Nat,(y2<=l.length/\∀ j,j<y2->G5 l p q j=false)/\(l.length-y2<l.length-x1)/\((rf (vI Z4))/\(vI Z7=vI (nI y2))/\(rf Z8)/\(rf Z9)/\(rf Z10)/\(rf Z11)/\(rf (L p.x.z.natAbs))/\(rf (L p.x.d))/\(rf (L p.y.z.natAbs))/\(rf (L p.y.d))/\(rf (L q.x.z.natAbs))/\(rf (L q.x.d))/\(rf (L q.y.z.natAbs))/\(rf (L q.y.d))/\(rf (Au l))))))))))) ((vB false=vB (smB l p q)))))))) Z6)) (by kernel_rfl) ?_
 conv=>zeta
 delta ifB vB vI wR nI
 have hvl:=AI l
 have hpl:=C1 l
 refine ⟨(l,p),by
  rfl,by
  exact hpre,?_⟩
 refine And.symm ⟨λ c4=>?_,λ c4=>?_⟩
 ·try simp only [nrm] at c4
  rw [Wr c4]
 try simp only [nrm] at c4
 refine ⟨(l,q),by
  rfl,by
  exact hpre,?_⟩
 refine ⟨λ c8=>?_,λ c8=>?_⟩
 ·try simp only [nrm] at c8
  rw [Ws c8]
 try simp only [nrm] at c8
 refine ⟨l,by
  rfl,by
  exact ⟨hpre.1,by omega⟩,?_⟩
 refine ⟨⟨0,by
  exact ⟨Nat.zero_le _,λ j hj=>absurd hj (Nat.not_lt_zero j)⟩,?_⟩,?_⟩
 ·refine ⟨rfl,?_,rfl,rfl,rfl,rfl,rfl,rfl,rfl,rfl,rfl,rfl,rfl,rfl,rfl⟩
  rfl
 intro (k:Nat) hki13
 have hki13:k<=l.length/\∀ j,j<k->G5 l p q j=false:=hki13
 refine And.symm ⟨λ c30=>?_,λ c30=>?_⟩
 ·try simp only [nrm] at c30
  rw [YE (by omega) (by omega) (λ j hj=>hki13.2 j (by omega))]
 try simp only [nrm] at c30
 have hkl:k<l.length:=by omega
 have m2:(k+1)%l.length<l.length:=(Fx hkl (by omega)).2.1
 have m1:(Int.tmod (IntKind.i64.wrap (((k:Nat):Int)+(1:Int))) (((Au l).length:Nat):Int)).toNat=(k+1)%l.length:=by rw [hpl];exact (Fx hkl (by omega)).1
 have m3:Int.tmod (IntKind.i64.wrap (((k:Nat):Int)+(1:Int))) (((Au l).length:Nat):Int)=(((k+1)%l.length:Nat):Int):=by rw [hpl];exact (Fx hkl (by omega)).2.2
 refine ao (by omega) λ o31=>?_
 refine ao (by omega) λ o32=>?_
 refine ao (by omega) λ o33=>?_
 refine ao (by omega) λ o34=>?_
 refine ao (by omega) λ o35=>?_
 refine ⟨(p,q,By l k,By l ((k+1)%l.length)),by
  rw [m1,EU hkl,EU m2];rfl,by
  trivial,?_⟩
 refine ⟨λ c39=>?_,λ c39=>?_⟩
 ·try simp only [nrm] at c39
  rw [Vn hkl c39]
 try simp only [nrm] at c39
 refine ⟨k+1,by
  exact ⟨by omega,Ki hki13.2 c39⟩,by
  omega,?_⟩
 refine ⟨rfl,?_,rfl,rfl,rfl,rfl,rfl,rfl,rfl,rfl,rfl,rfl,rfl,rfl,rfl⟩
 exact Am (AB (by omega) (by omega))
def D5:Con:={ ι:=(List V2)×PtD×PtD,pre:=λ i=>i.2.1.has/\i.2.2.has,args:=λ i=>[.one (DC.sl 44 [.int,.int] (AC i.1)),DA.agg [cB i.2.1.x.neg,cS i.2.1.x.num,cS i.2.1.x.den,cB i.2.1.y.neg,cS i.2.1.y.num,cS i.2.1.y.den],DA.agg [cB i.2.2.x.neg,cS i.2.2.x.num,cS i.2.2.x.den,cB i.2.2.y.neg,cS i.2.2.y.num,cS i.2.2.y.den]],res:=λ i=>⟨false,[none],[rcB (smZ i.1 i.2.1 i.2.2)]⟩ }
theorem OB:D5.Ok Tryz.prog 11:=by
 refine fok (X:=⟨tt,[(37,BF),(34,AE),(38,CQ)],[],21,[]⟩) AG AH (CTok.cons GU (CTok.cons B4 (CTok.cons KN (CTok.nil _)))) Tryz.func11 (λ _=>[]) ?_
 rintro ⟨l,p,q⟩ hpre
 have hpre:p.has/\q.has:=hpre
 refine AF (q:=let Z2:=(vB false=vB (smZ l p q));let Z1:=DC.sl 44 [.int,.int] (AC l);∃ i1:(List V2),[DA.one Z1]=BF.args i1/\BF.pre i1/\(ifB ((AU i1)) (∃ i2:(List (List Dat)),[DA.one (DC.sl 29 z28 ([[Dat.bool p.x.neg,Dat.sl p.x.num,Dat.sl p.x.den,Dat.bool p.y.neg,Dat.sl p.y.num,Dat.sl p.y.den],[Dat.bool q.x.neg,Dat.sl q.x.num,Dat.sl q.x.den,Dat.bool q.y.neg,Dat.sl q.y.num,Dat.sl q.y.den]]:List (List Dat)))]=AE.args i2/\AE.pre i2/\(ifB ((!(i2.any (λ r=>!(okP (BK r)))))) (∃ i3:(List V2)×Pq×Pq,[DA.one Z1,DA.agg [cB p.x.neg,cS p.x.num,cS p.x.den,cB p.y.neg,cS p.y.num,cS p.y.den],DA.agg [cB q.x.neg,cS q.x.num,cS q.x.den,cB q.y.neg,cS q.y.num,cS q.y.den]]=CQ.args i3/\CQ.pre i3/\((vB (smB i3.1 i3.2.1 i3.2.2)=vB (smZ l p q)))) Z2)) Z2)) (by kernel_rfl) ?_
 conv=>zeta
 delta ifB vB
 have hvl:=AI l
 have hpl:=C1 l
 refine ⟨l,by
  rfl,by
  trivial,?_⟩
 refine And.symm ⟨λ c4=>?_,λ c4=>?_⟩
 ·try simp only [nrm] at c4
  have hE:smZ l p q=false:=by unfold smZ;rw [c4];rfl
  rw [hE]
 try simp only [nrm] at c4
 refine ⟨([[Dat.bool p.x.neg,Dat.sl p.x.num,Dat.sl p.x.den,Dat.bool p.y.neg,Dat.sl p.y.num,Dat.sl p.y.den],[Dat.bool q.x.neg,Dat.sl q.x.num,Dat.sl q.x.den,Dat.bool q.y.neg,Dat.sl q.y.num,Dat.sl q.y.den]]:List (List Dat)),by
  rfl,by
  try dsimp only [AE]
  exact ⟨by show 2<=_;decide,SI hpre.1 hpre.2⟩,?_⟩
 refine And.symm ⟨λ c8=>?_,λ c8=>?_⟩
 ·try dsimp only at c8
  try simp only [nrm] at c8
  have h:=(Wh p q).symm.trans c8
  simp only [Bool.not_eq_true'] at h
  have hE:smZ l p q=false:=by unfold smZ;rw [← Bool.and_assoc (okP p) (okP q),h,Bool.false_and,Bool.and_false]
  rw [hE]
 try dsimp only at c8
 try simp only [nrm] at c8
 have h:=(Wh p q).symm.trans c8
 have hpq:okP p=true/\okP q=true:=by simpa using h
 obtain ⟨e1,e2,e3,e4,e5,e6,e7,e8⟩:=Jj hpre.1 hpq.1
 obtain ⟨f1,f2,f3,f4,f5,f6,f7,f8⟩:=Jj hpre.2 hpq.2
 have hE:smZ l p q=smB l (pqR p) (pqR q):=by unfold smZ;rw [c4,hpq.1,hpq.2];rfl
 have hP:=GV c4
 refine ⟨(l,pqR p,pqR q),by
  rw [e1,e2,e3,e4,e5,e6,f1,f2,f3,f4,f5,f6];rfl,by
  show l.all AQ=true/\0<l.length/\l.length<=16
  exact ⟨hP.2.2,by omega,by omega⟩,?_⟩
 rw [hE]
end Go.Proofs.YtndnhlhnjiopfaaGreat
