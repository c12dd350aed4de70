import Derived.Test.YtlejeadlmpkffaaGreatMaRkM
import Derived.Test.YtlejeadlmpkffaaGreatMaNum3
namespace Go.Proofs.YtlejeadlmpkffaaGreat
set_option maxRecDepth 100000
set_option linter.unusedVariables false
set_option linter.unusedSimpArgs false
open Go.RowKit
theorem nneg_dec (n:Nat):decide (((n:Nat):Int)<0)=false:=decide_eq_false (by omega)
theorem good_i (r:Fr):decide ((((L r.d).length:Nat):Int)>(0:Int))=r.good:=by
 rw [← Fr.d_good'];congr 1;apply propext;omega
theorem one_nl:nl 1=1:=nl_one (by decide) (by decide)
theorem mk_fitz {z:Int} {d:Nat} (hd:d≠0) (h1:nl (z.natAbs/z.natAbs.gcd d)<=24) (h2:nl (d/z.natAbs.gcd d)<=24) :
  decide ((Fr.mk' z d).z<0)=decide (z<0)/\(Fr.mk' z d).z.natAbs=z.natAbs/z.natAbs.gcd d/\(Fr.mk' z d).d=d/z.natAbs.gcd d:=by
 have hv:(Fr.mk' z d).v=some (mkRat z d):=clamp_yes (fitR_iff.2 ⟨by rw [mkRat_natAbs hd];exact h1,by rw [(mkRat_num hd).2];exact h2⟩)
 exact ⟨by rw [Fr.z_some hv,mkRat_neg hd],by rw [Fr.z_some hv,mkRat_natAbs hd],by rw [Fr.d_some hv,(mkRat_num hd).2]⟩
theorem ofInt_zd {n:Int} (h:nl n.natAbs<=24):(Fr.ofInt n).z=n/\(Fr.ofInt n).d=1:=by
 rw [Fr.z_some (ofInt_v h),Fr.d_some (ofInt_v h),Rat.num_intCast,Rat.den_intCast];exact ⟨rfl,rfl⟩
theorem zOf_lti (neg:Bool) (m:Nat):decide (zOf neg m<0)=(neg && decide ((((L m).length:Nat):Int)>(0:Int))):=by
 rw [zOf_lt];congr 2;apply propext;omega
theorem bad_d {r:Fr} (h:r.good=false):r.d=0:=Classical.byContradiction λ h2=>by rw [Fr.d_good.2 h2] at h;cases h
theorem good_d {r:Fr} (h:r.good=true):r.d≠0:=Fr.d_good.1 h
theorem zlen {z:Int} (h:(L z.natAbs).length=0):z=0:=by
 rw [L_len] at h
 have:=nl_eq_zero.1 h
 omega
theorem zlen' {z:Int} (h:(L z.natAbs).length≠0):z≠0:=by
 rintro rfl
 exact h (by rw [L_len];exact nl_zero)
theorem all_any (l:List (List Dat)):l.all (λ r=>inB (rn r))=!(l.any λ r=>!(inB (rn r))):=by rw [List.all_eq_not_any_not]
theorem natOkR_no1 {l:List (List Dat)} (h:60<l.length):natOkR l=false:=by
 unfold natOkR;rw [decide_eq_false (show ¬ l.length<=60 by omega)];rfl
theorem natOkR_no2 {l:List (List Dat)} (h:(l.any λ r=>!(inB (rn r)))=true):natOkR l=false:=by
 unfold natOkR;rw [all_any,h];simp
theorem natOkR_nil {l:List (List Dat)} (h:l.length=0):natOkR l=true:=by
 rw [List.eq_nil_of_length_eq_zero h];rfl
theorem natOkR_last {l:List (List Dat)} (h1:l.length<=60) (h:(l.any λ r=>!(inB (rn r)))=false) (h0:l.length≠0):natOkR l=(rn (l.getD (l.length-1) []) != 0):=by
 unfold natOkR
 rw [all_any,h,decide_eq_true h1,decide_eq_false h0]
 generalize rn (l.getD (l.length-1) [])=v
 by_cases hv:v=0 <;> simp [hv]
theorem bigOkR_yes {m:List (List Dat)} (h:natOkR m=true):bigOkR true m=!(((m.length:Nat):Int) == (0:Int)):=by
 unfold bigOkR;rw [h]
 by_cases hv:m.length=0
 ·rw [hv];rfl
 ·have:((((m.length:Nat):Int)) == (0:Int))=false:=by rw [beq_eq_false_iff_ne];omega
  rw [this];simp [hv]
theorem bigOkR_nat {neg:Bool} {m:List (List Dat)} (h:bigOkR neg m=true):natOkR m=true:=by
 unfold bigOkR at h;rw [Bool.and_eq_true] at h;exact h.1
theorem ratOkR_no {neg:Bool} {m d:List (List Dat)} (h:bigOkR neg m=false∨natOkR d=false∨d.length=0∨24<m.length∨24<d.length):ratOkR neg m d=false:=by
 unfold ratOkR
 rcases h with h|h|h|h|h
 ·rw [h];rfl
 ·rw [h];simp
 ·simp [h]
 ·rw [decide_eq_false (show ¬ m.length<=24 by omega)];simp
 ·rw [decide_eq_false (show ¬ d.length<=24 by omega)];simp
theorem ratOkR_yes {neg:Bool} {m d:List (List Dat)} (h1:bigOkR neg m=true) (h2:natOkR d=true) (h3:d.length≠0) (h4:m.length<=24) (h5:d.length<=24):ratOkR neg m d=decide ((valR m).gcd (valR d)=1):=by
 unfold ratOkR;rw [h1,h2,decide_eq_false h3,decide_eq_true h4,decide_eq_true h5];rfl
theorem int_nl {n:Int} (h:-9223372036854775808<=n/\n<=9223372036854775807):nl n.natAbs<=24:=(nl_le' _ _).2 (Nat.lt_of_le_of_lt (show n.natAbs<=9223372036854775808 by omega) (by decide))
theorem gcd_bnd {a b:Nat} (h:b≠0):a.gcd b≠0/\nl (a.gcd b)<=nl b:=⟨λ e=>h (Nat.eq_zero_of_gcd_eq_zero_right e),nl_mono (Nat.gcd_le_right _ (Nat.pos_of_ne_zero h))⟩
def cloneInts_con:Con:={ ι:=(List (List Dat)),pre:=λ i=>i.length<=1073741824,args:=λ i=>[.one (.sl 3 [.int] i)],res:=λ i=>⟨false,[none],[.own 3 [.int] i]⟩ }
theorem cloneInts_ok:cloneInts_con.Ok Tryz.prog 182:=by
 refine fok (X:=⟨tt,[],[],8,[]⟩) mixed tt_ok (CTok.nil _) Tryz.func182 (λ _=>[]) ?_
 intro (ls:List (List Dat)) hpre
 have hpre:ls.length<=1073741824:=hpre
 refine by_nf (q:=∀ b1:Bool,(b1=true->ls=[])->((b1=true->((([]:List (List Dat))=ls)))/\(b1=false->((([]:List (List Dat)).length+ls.length<=1073741824)/\(((([]:List (List Dat))++ls)=ls)))))) (by kernel_rfl) ?_
 intro b1 q1
 refine ⟨λ c2=>?_,λ c2=>?_⟩
 ·try simp only [nrm] at c2
  rw [q1 c2]
 try simp only [nrm] at c2
 refine ao (by simp;omega) λ o4=>?_
 rfl
def isOne_con:Con:={ ι:=Nat,pre:=λ i=>True,args:=λ i=>[.one (.sl 3 [.int] (L i))],res:=λ i=>⟨false,[none],[.im (Value.bool (decide (i=1)))]⟩ }
theorem isOne_ok:isOne_con.Ok Tryz.prog 86:=by
 refine fok (X:=⟨tt,[],[],12,[]⟩) mixed tt_ok (CTok.nil _) Tryz.func86 (λ _=>[]) ?_
 intro (a:Nat) hpre
 have hpre:True:=hpre
 refine by_nf (q:=(((nI ((L a).length)) == (1:Int))=true->((0<=(0:Int)/\(0:Int)<((L a).length:Int))/\((0<(L a).length)/\((Value.bool (((((L a).getD 0 []).getD 0 (.int 0))).n == (1:Int))=Value.bool (decide (a=1)))))))/\(((nI ((L a).length)) == (1:Int))=false->((Value.bool false=Value.bool (decide (a=1)))))) (by kernel_rfl) ?_
 delta nI
 have ha:=L_len a
 refine And.symm ⟨λ c1=>?_,λ c1=>?_⟩
 ·try simp only [nrm] at c1
  exact congrArg Value.bool (decide_eq_false (λ e=>by subst e;rw [one_nl] at ha;omega)).symm
 try simp only [nrm] at c1
 have h1:=one_limb (b:=a) (by omega)
 refine ao (by omega) λ o2=>?_
 refine ao (by omega) λ o3=>?_
 rw [L_n,h1.1]
 exact congrArg Value.bool (by rw [Bool.eq_iff_iff,beq_iff_eq,decide_eq_true_iff];omega)
def bigMake_con:Con:={ ι:=Bool×Nat,pre:=λ i=>True,args:=λ i=>[.one (.im (.bool i.1)),.one (.sl 3 [.int] (L i.2))],res:=λ i=>⟨false,[some 2],[.im (Value.bool (decide ((zOf i.1 i.2)<0))),.view 3 [.int] (L (zOf i.1 i.2).natAbs)]⟩ }
theorem bigMake_ok:bigMake_con.Ok Tryz.prog 161:=by
 refine fok (X:=⟨tt,[],[],13,[]⟩) mixed tt_ok (CTok.nil _) Tryz.func161 (λ _=>[]) ?_
 rintro ⟨neg,m⟩ hpre
 have hpre:True:=hpre
 refine by_nf (q:=(neg=true->((Value.bool (decide ((nI ((L m).length))>(0:Int)))=Value.bool (decide ((zOf neg m)<0)))/\((L m)=L (zOf neg m).natAbs)))/\(neg=false->((Value.bool false=Value.bool (decide ((zOf neg m)<0)))/\((L m)=L (zOf neg m).natAbs)))) (by kernel_rfl) ?_
 delta nI
 refine ⟨λ c1=>?_,λ c1=>?_⟩
 ·try simp only [nrm] at c1
  refine ⟨?_,?_⟩
  ·rw [zOf_lti,c1];rfl
  rw [zOf_abs]
 try simp only [nrm] at c1
 refine ⟨?_,?_⟩
 ·rw [zOf_lti,c1];rfl
 rw [zOf_abs]
def bigNeg_con:Con:={ ι:=Int,pre:=λ i=>True,args:=λ i=>[.agg [.im (.bool (decide (i<0))),.sl 3 [.int] (L i.natAbs)]],res:=λ i=>⟨false,[some 2],[.im (Value.bool (decide ((-i)<0))),.view 3 [.int] (L (-i).natAbs)]⟩ }
theorem bigNeg_ok:bigNeg_con.Ok Tryz.prog 184:=by
 refine fok (X:=⟨tt,[(161,bigMake_con)],[],9,[]⟩) mixed tt_ok (CTok.cons bigMake_ok (CTok.nil _)) Tryz.func184 (λ _=>[]) ?_
 intro (z:Int) hpre
 have hpre:True:=hpre
 refine by_nf (q:=∃ i1:Bool×Nat,[DA.one (cB (!(decide (z<0)))),DA.one (cS (L z.natAbs))]=bigMake_con.args i1/\bigMake_con.pre i1/\((Value.bool (decide ((zOf i1.1 i1.2)<0))=Value.bool (decide ((-z)<0)))/\(L (zOf i1.1 i1.2).natAbs=L (-z).natAbs))) (by kernel_rfl) ?_
 refine ⟨((!(decide (z<0))),z.natAbs),by
  rfl,by
  trivial,?_⟩
 refine ⟨?_,?_⟩
 ·rw [zOf_opp]
 rw [zOf_opp]
def bigAdd_con:Con:={ ι:=Int×Int,pre:=λ i=>nl i.1.natAbs<=1000/\nl i.2.natAbs<=1000,args:=λ i=>[.agg [.im (.bool (decide (i.1<0))),.sl 3 [.int] (L i.1.natAbs)],.agg [.im (.bool (decide (i.2<0))),.sl 3 [.int] (L i.2.natAbs)]],res:=λ i=>⟨false,[some 2],[.im (Value.bool (decide ((i.1+i.2)<0))),.view 3 [.int] (L (i.1+i.2).natAbs)]⟩ }
theorem bigAdd_ok:bigAdd_con.Ok Tryz.prog 183:=by
 refine fok (X:=⟨tt,[(162,natAdd_con),(161,bigMake_con),(144,natCmp_con),(148,natSub_con)],[],42,[]⟩) mixed tt_ok (CTok.cons natAdd_ok (CTok.cons bigMake_ok (CTok.cons natCmp_ok (CTok.cons natSub_ok (CTok.nil _))))) Tryz.func183 (λ _=>[]) ?_
 rintro ⟨x,y⟩ hpre
 have hpre:nl x.natAbs<=1000/\nl y.natAbs<=1000:=hpre
 refine by_nf (q:=(((decide (x<0)) == (decide (y<0)))=true->(∃ i1:Nat×Nat,[DA.one (cS (L x.natAbs)),DA.one (cS (L y.natAbs))]=natAdd_con.args i1/\natAdd_con.pre i1/\(∃ i2:Bool×Nat,[DA.one (cB (decide (x<0))),DA.one (cS (L (i1.1+i1.2)))]=bigMake_con.args i2/\bigMake_con.pre i2/\((Value.bool (decide ((zOf i2.1 i2.2)<0))=Value.bool (decide ((x+y)<0)))/\(L (zOf i2.1 i2.2).natAbs=L (x+y).natAbs)))))/\(((decide (x<0)) == (decide (y<0)))=false->(∃ i3:Nat×Nat,[DA.one (cS (L x.natAbs)),DA.one (cS (L y.natAbs))]=natCmp_con.args i3/\natCmp_con.pre i3/\(((decide ((cmpN i3.1 i3.2)≥(0:Int)))=true->(∃ i4:Nat×Nat,[DA.one (cS (L x.natAbs)),DA.one (cS (L y.natAbs))]=natSub_con.args i4/\natSub_con.pre i4/\(∃ i5:Bool×Nat,[DA.one (cB (decide (x<0))),DA.one (cS (L (i4.1-i4.2)))]=bigMake_con.args i5/\bigMake_con.pre i5/\((Value.bool (decide ((zOf i5.1 i5.2)<0))=Value.bool (decide ((x+y)<0)))/\(L (zOf i5.1 i5.2).natAbs=L (x+y).natAbs)))))/\((decide ((cmpN i3.1 i3.2)≥(0:Int)))=false->(∃ i6:Nat×Nat,[DA.one (cS (L y.natAbs)),DA.one (cS (L x.natAbs))]=natSub_con.args i6/\natSub_con.pre i6/\(∃ i7:Bool×Nat,[DA.one (cB (decide (y<0))),DA.one (cS (L (i6.1-i6.2)))]=bigMake_con.args i7/\bigMake_con.pre i7/\((Value.bool (decide ((zOf i7.1 i7.2)<0))=Value.bool (decide ((x+y)<0)))/\(L (zOf i7.1 i7.2).natAbs=L (x+y).natAbs))))))))) (by kernel_rfl) ?_
 refine ⟨λ c1=>?_,λ c1=>?_⟩
 ·try simp only [nrm] at c1
  refine ⟨(x.natAbs,y.natAbs),by
   rfl,by
   show nl x.natAbs<=1048576/\nl y.natAbs<=1048576
   exact ⟨by omega,by omega⟩,?_⟩
  refine ⟨(decide (x<0),(x.natAbs+y.natAbs)),by
   rfl,by
   trivial,?_⟩
  refine ⟨?_,?_⟩
  ·rw [zOf_add1 c1]
  rw [zOf_add1 c1]
 try simp only [nrm] at c1
 refine ⟨(x.natAbs,y.natAbs),by
  rfl,by
  show nl x.natAbs<=1048576/\nl y.natAbs<=1048576
  exact ⟨by omega,by omega⟩,?_⟩
 refine ⟨λ c13=>?_,λ c13=>?_⟩
 ·replace c13:(decide ((cmpN x.natAbs y.natAbs)≥(0:Int)))=true:=c13
  try simp only [nrm] at c13
  refine ⟨(x.natAbs,y.natAbs),by
   rfl,by
   show nl x.natAbs<=1048576/\nl y.natAbs<=1048576/\y.natAbs<=x.natAbs
   exact ⟨by omega,by omega,cmpN_ge0.1 c13⟩,?_⟩
  refine ⟨(decide (x<0),(x.natAbs-y.natAbs)),by
   rfl,by
   trivial,?_⟩
  refine ⟨?_,?_⟩
  ·rw [zOf_add2 c1 (cmpN_ge0.1 c13)]
  rw [zOf_add2 c1 (cmpN_ge0.1 c13)]
 replace c13:(decide ((cmpN x.natAbs y.natAbs)≥(0:Int)))=false:=c13
 try simp only [nrm] at c13
 refine ⟨(y.natAbs,x.natAbs),by
  rfl,by
  show nl y.natAbs<=1048576/\nl x.natAbs<=1048576/\x.natAbs<=y.natAbs
  exact ⟨by omega,by omega,Nat.le_of_lt (cmpN_lt0.1 c13)⟩,?_⟩
 refine ⟨(decide (y<0),(y.natAbs-x.natAbs)),by
  rfl,by
  trivial,?_⟩
 refine ⟨?_,?_⟩
 ·rw [zOf_add3 c1 (Nat.le_of_lt (cmpN_lt0.1 c13))]
 rw [zOf_add3 c1 (Nat.le_of_lt (cmpN_lt0.1 c13))]
def bigMul_con:Con:={ ι:=Int×Int,pre:=λ i=>nl i.1.natAbs<=1000/\nl i.2.natAbs<=1000,args:=λ i=>[.agg [.im (.bool (decide (i.1<0))),.sl 3 [.int] (L i.1.natAbs)],.agg [.im (.bool (decide (i.2<0))),.sl 3 [.int] (L i.2.natAbs)]],res:=λ i=>⟨false,[some 2],[.im (Value.bool (decide ((i.1*i.2)<0))),.view 3 [.int] (L (i.1*i.2).natAbs)]⟩ }
theorem bigMul_ok:bigMul_con.Ok Tryz.prog 126:=by
 refine fok (X:=⟨tt,[(149,natMul_con),(161,bigMake_con)],[],16,[]⟩) mixed tt_ok (CTok.cons natMul_ok (CTok.cons bigMake_ok (CTok.nil _))) Tryz.func126 (λ _=>[]) ?_
 rintro ⟨x,y⟩ hpre
 have hpre:nl x.natAbs<=1000/\nl y.natAbs<=1000:=hpre
 refine by_nf (q:=∃ i1:Nat×Nat,[DA.one (cS (L x.natAbs)),DA.one (cS (L y.natAbs))]=natMul_con.args i1/\natMul_con.pre i1/\(∃ i2:Bool×Nat,[DA.one (cB ((decide (x<0)) != (decide (y<0)))),DA.one (cS (L (i1.1*i1.2)))]=bigMake_con.args i2/\bigMake_con.pre i2/\((Value.bool (decide ((zOf i2.1 i2.2)<0))=Value.bool (decide ((x*y)<0)))/\(L (zOf i2.1 i2.2).natAbs=L (x*y).natAbs)))) (by kernel_rfl) ?_
 refine ⟨(x.natAbs,y.natAbs),by
  rfl,by
  show nl x.natAbs<=524288/\nl y.natAbs<=524288
  exact ⟨by omega,by omega⟩,?_⟩
 refine ⟨(((decide (x<0)) != (decide (y<0))),(x.natAbs*y.natAbs)),by
  rfl,by
  trivial,?_⟩
 refine ⟨?_,?_⟩
 ·rw [zOf_mul]
 rw [zOf_mul]
def bigCmp_con:Con:={ ι:=Int×Int,pre:=λ i=>nl i.1.natAbs<=1000/\nl i.2.natAbs<=1000,args:=λ i=>[.agg [.im (.bool (decide (i.1<0))),.sl 3 [.int] (L i.1.natAbs)],.agg [.im (.bool (decide (i.2<0))),.sl 3 [.int] (L i.2.natAbs)]],res:=λ i=>⟨false,[none],[.im (Value.int .i64 (cmpI i.1 i.2))]⟩ }
theorem bigCmp_ok:bigCmp_con.Ok Tryz.prog 125:=by
 refine fok (X:=⟨tt,[(144,natCmp_con)],[],28,[]⟩) mixed tt_ok (CTok.cons natCmp_ok (CTok.nil _)) Tryz.func125 (λ _=>[]) ?_
 rintro ⟨x,y⟩ hpre
 have hpre:nl x.natAbs<=1000/\nl y.natAbs<=1000:=hpre
 refine by_nf (q:=(decide (x<0)=true->((decide (y<0)=true->(∃ i1:Nat×Nat,[DA.one (cS (L y.natAbs)),DA.one (cS (L x.natAbs))]=natCmp_con.args i1/\natCmp_con.pre i1/\((vI (cmpN i1.1 i1.2)=vI (cmpI x y)))))/\(decide (y<0)=false->((decide (x<0)=true->((vI (-1:Int)=vI (cmpI x y))))/\(decide (x<0)=false->((decide (y<0)=true->((vI (1:Int)=vI (cmpI x y))))/\(decide (y<0)=false->(∃ i2:Nat×Nat,[DA.one (cS (L x.natAbs)),DA.one (cS (L y.natAbs))]=natCmp_con.args i2/\natCmp_con.pre i2/\((vI (cmpN i2.1 i2.2)=vI (cmpI x y)))))))))))/\(decide (x<0)=false->((decide (x<0)=true->((vI (-1:Int)=vI (cmpI x y))))/\(decide (x<0)=false->((decide (y<0)=true->((vI (1:Int)=vI (cmpI x y))))/\(decide (y<0)=false->(∃ i3:Nat×Nat,[DA.one (cS (L x.natAbs)),DA.one (cS (L y.natAbs))]=natCmp_con.args i3/\natCmp_con.pre i3/\((vI (cmpN i3.1 i3.2)=vI (cmpI x y)))))))))) (by kernel_rfl) ?_
 delta vI
 refine And.symm ⟨λ c1=>?_,λ c1=>?_⟩
 ·try simp only [nrm] at c1
  refine ⟨λ c15=>?_,λ c15=>?_⟩
  ·try simp only [nrm] at c15
   exfalso;omega
  try simp only [nrm] at c15
  refine ⟨λ c17=>?_,λ c17=>?_⟩
  ·try simp only [nrm] at c17
   rw [← cmpI_pn (by omega) (by omega)]
  try simp only [nrm] at c17
  refine ⟨(x.natAbs,y.natAbs),by
   rfl,by
   show nl x.natAbs<=1048576/\nl y.natAbs<=1048576
   exact ⟨by omega,by omega⟩,?_⟩
  rw [cmpI_pp (by omega) (by omega)]
 try simp only [nrm] at c1
 refine ⟨λ c2=>?_,λ c2=>?_⟩
 ·try simp only [nrm] at c2
  refine ⟨(y.natAbs,x.natAbs),by
   rfl,by
   show nl y.natAbs<=1048576/\nl x.natAbs<=1048576
   exact ⟨by omega,by omega⟩,?_⟩
  rw [cmpI_nn (by omega) (by omega)]
 try simp only [nrm] at c2
 refine ⟨λ c7=>?_,λ c7=>?_⟩
 ·try simp only [nrm] at c7
  rw [← cmpI_np (by omega) (by omega)]
 try simp only [nrm] at c7
 refine ⟨λ c9=>?_,λ c9=>?_⟩
 ·try simp only [nrm] at c9
  exfalso;omega
 try simp only [nrm] at c9
 refine ⟨(x.natAbs,y.natAbs),by
  rfl,by
  exact ⟨by omega,by omega⟩,?_⟩
 exfalso;omega
def ownBig_con:Con:={ ι:=Bool×Nat,pre:=λ i=>nl i.2<=60,args:=λ i=>[.agg [.im (.bool i.1),.sl 3 [.int] (L i.2)]],res:=λ i=>⟨false,[some 2],[.im (Value.bool i.1),.own 3 [.int] (L i.2)]⟩ }
theorem ownBig_ok:ownBig_con.Ok Tryz.prog 181:=by
 refine fok (X:=⟨tt,[(182,cloneInts_con)],[],14,[]⟩) mixed tt_ok (CTok.cons cloneInts_ok (CTok.nil _)) Tryz.func181 (λ _=>[]) ?_
 rintro ⟨neg,m⟩ hpre
 have hpre:nl m<=60:=hpre
 refine by_nf (q:=((decide ((nI ((L m).length))>(60:Int)))=true->((Value.bool false=Value.bool neg)/\(([]:List (List Dat))=L m)))/\((decide ((nI ((L m).length))>(60:Int)))=false->(∃ i1:(List (List Dat)),[DA.one (cS (L m))]=cloneInts_con.args i1/\cloneInts_con.pre i1/\((Value.bool neg=Value.bool neg)/\(i1=L m))))) (by kernel_rfl) ?_
 delta nI
 have hm:=L_len m
 refine ⟨λ c1=>?_,λ c1=>?_⟩
 ·try simp only [nrm] at c1
  refine ⟨?_,?_⟩
  ·exfalso;omega
  exfalso;omega
 try simp only [nrm] at c1
 refine ⟨(L m),by
  rfl,by
  show (L m).length<=1073741824
  omega,?_⟩
 exact ⟨rfl,rfl⟩
def bigOf_con:Con:={ ι:=Int,pre:=λ i=>-9223372036854775808<=i/\i<=9223372036854775807,args:=λ i=>[.one (.im (.int .i64 i))],res:=λ i=>⟨false,[some 2],[.im (Value.bool (decide (i<0))),.own 3 [.int] (L i.natAbs)]⟩ }
theorem bigOf_ok:bigOf_con.Ok Tryz.prog 127:=by
 refine fok (X:=⟨tt,[(145,natOf_con),(162,natAdd_con)],[],18,[]⟩) mixed tt_ok (CTok.cons natOf_ok (CTok.cons natAdd_ok (CTok.nil _))) Tryz.func127 (λ _=>[]) ?_
 intro (n:Int) hpre
 have hpre:-9223372036854775808<=n/\n<=9223372036854775807:=hpre
 refine by_nf (q:=((decide (n≥(0:Int)))=true->(∃ i1:Nat,[DA.one (cI n)]=natOf_con.args i1/\natOf_con.pre i1/\((Value.bool false=Value.bool (decide (n<0)))/\(L i1=L n.natAbs))))/\((decide (n≥(0:Int)))=false->(((n == (-9223372036854775808:Int))=true->(∃ i2:Nat,[DA.one (cI (9223372036854775807:Int))]=natOf_con.args i2/\natOf_con.pre i2/\(∃ i3:Nat,[DA.one (cI (1:Int))]=natOf_con.args i3/\natOf_con.pre i3/\(∃ i4:Nat×Nat,[DA.one (cS (L i2)),DA.one (cS (L i3))]=natAdd_con.args i4/\natAdd_con.pre i4/\((Value.bool true=Value.bool (decide (n<0)))/\(L (i4.1+i4.2)=L n.natAbs))))))/\((n == (-9223372036854775808:Int))=false->(∃ i5:Nat,[DA.one (cI (wR (0-n)))]=natOf_con.args i5/\natOf_con.pre i5/\((Value.bool true=Value.bool (decide (n<0)))/\(L i5=L n.natAbs))))))) (by kernel_rfl) ?_
 delta wR
 refine ⟨λ c1=>?_,λ c1=>?_⟩
 ·try simp only [nrm] at c1
  have en:n=((n.toNat:Nat):Int):=by omega
  have ea:n.natAbs=n.toNat:=by omega
  refine ⟨n.toNat,by
   show [DA.one (DC.im (Value.int .i64 n))]=[DA.one (DC.im (Value.int .i64 ((n.toNat:Nat):Int)))]
   rw [← en],by
   show n.toNat<=9223372036854775807
   omega,?_⟩
  refine ⟨?_,?_⟩
  ·rw [decide_eq_false (show ¬ n<0 by omega)];done
  rw [ea];done
 try simp only [nrm] at c1
 refine And.symm ⟨λ c7=>?_,λ c7=>?_⟩
 ·try simp only [nrm] at c7
  have en:IntKind.i64.wrap (0-n)=(((-n).toNat:Nat):Int):=by rw [wrap64 (by omega) (by omega)];omega
  have ea:n.natAbs=(-n).toNat:=by omega
  refine ⟨(-n).toNat,by
   rw [en];rfl,by
   show ((-n).toNat)<=9223372036854775807
   omega,?_⟩
  refine ⟨?_,?_⟩
  ·rw [decide_eq_true (show n<0 by omega)];done
  rw [ea];done
 try simp only [nrm] at c7
 refine ⟨9223372036854775807,by
  rfl,by
  show 9223372036854775807<=9223372036854775807
  trivial,?_⟩
 refine ⟨1,by
  rfl,by
  show 1<=9223372036854775807
  trivial,?_⟩
 refine ⟨(9223372036854775807,1),by
  rfl,by
  exact ⟨Nat.le_trans ((nl_le' 3 _).2 (by decide)) (by decide),Nat.le_trans ((nl_le' 3 _).2 (by decide)) (by decide)⟩,?_⟩
 refine ⟨?_,?_⟩
 ·rw [decide_eq_true (show n<0 by omega)];done
 rw [show n.natAbs=9223372036854775807+1 by omega];done
def isGood_con:Con:={ ι:=Fr,pre:=λ i=>True,args:=λ i=>[.agg [.im (.bool (decide (i.z<0))),.sl 3 [.int] (L i.z.natAbs),.sl 3 [.int] (L i.d)]],res:=λ i=>⟨false,[none],[.im (Value.bool i.good)]⟩ }
theorem isGood_ok:isGood_con.Ok Tryz.prog 124:=by
 refine fok (X:=⟨tt,[],[],7,[]⟩) mixed tt_ok (CTok.nil _) Tryz.func124 (λ _=>[]) ?_
 intro (r:Fr) hpre
 have hpre:True:=hpre
 refine by_nf (q:=(Value.bool (decide ((nI ((L r.d).length))>(0:Int)))=Value.bool r.good)) (by kernel_rfl) ?_
 delta nI
 rw [good_i]
def ratMake_con:Con:={ ι:=Int×Nat,pre:=λ i=>i.2≠0/\nl i.1.natAbs<=1000/\nl i.2<=1000,args:=λ i=>[.agg [.im (.bool (decide (i.1<0))),.sl 3 [.int] (L i.1.natAbs)],.one (.sl 3 [.int] (L i.2))],res:=λ i=>⟨false,[some 3],[.im (Value.bool (decide ((Fr.mk' i.1 i.2).z<0))),.own 3 [.int] (L (Fr.mk' i.1 i.2).z.natAbs),.own 3 [.int] (L (Fr.mk' i.1 i.2).d)]⟩ }
theorem ratMake_ok:ratMake_con.Ok Tryz.prog 163:=by
 refine fok (X:=⟨tt,[(86,isOne_con),(87,natGcd_con),(114,natDiv_con),(181,ownBig_con),(182,cloneInts_con)],[],45,[]⟩) mixed tt_ok (CTok.cons isOne_ok (CTok.cons natGcd_ok (CTok.cons natDiv_ok (CTok.cons ownBig_ok (CTok.cons cloneInts_ok (CTok.nil _)))))) Tryz.func163 (λ _=>[]) ?_
 rintro ⟨z,d⟩ hpre
 have hpre:d≠0/\nl z.natAbs<=1000/\nl d<=1000:=hpre
 refine by_nf (q:=∃ i1:Nat,[DA.one (cS (L d))]=isOne_con.args i1/\isOne_con.pre i1/\(((!(decide (i1=1)))=true->(∃ i2:Nat×Nat,[DA.one (cS (L z.natAbs)),DA.one (cS (L d))]=natGcd_con.args i2/\natGcd_con.pre i2/\(∃ i3:Nat,[DA.one (cS (L (i2.1.gcd i2.2)))]=isOne_con.args i3/\isOne_con.pre i3/\(((!(decide (i3=1)))=true->(∃ i4:Nat×Nat,[DA.one (cS (L z.natAbs)),DA.one (cS (L (i2.1.gcd i2.2)))]=natDiv_con.args i4/\natDiv_con.pre i4/\(∃ i5:Nat×Nat,[DA.one (cS (L d)),DA.one (cS (L (i2.1.gcd i2.2)))]=natDiv_con.args i5/\natDiv_con.pre i5/\(((!(decide ((nI ((L (i4.1/i4.2)).length))>(24:Int))))=true->(((decide ((nI ((L (i5.1/i5.2)).length))>(24:Int)))=true->((eqN (Fr.mk' z d))))/\((decide ((nI ((L (i5.1/i5.2)).length))>(24:Int)))=false->(∃ i6:Bool×Nat,[DA.agg [cB (decide (z<0)),cS (L (i4.1/i4.2))]]=ownBig_con.args i6/\ownBig_con.pre i6/\(∃ i7:(List (List Dat)),[DA.one (cS (L (i5.1/i5.2)))]=cloneInts_con.args i7/\cloneInts_con.pre i7/\((Value.bool i6.1=Value.bool (decide ((Fr.mk' z d).z<0)))/\(L i6.2=L (Fr.mk' z d).z.natAbs)/\(i7=L (Fr.mk' z d).d)))))))/\((!(decide ((nI ((L (i4.1/i4.2)).length))>(24:Int))))=false->((eqN (Fr.mk' z d))))))))/\((!(decide (i3=1)))=false->(((!(decide ((nI ((L z.natAbs).length))>(24:Int))))=true->(((decide ((nI ((L d).length))>(24:Int)))=true->((eqN (Fr.mk' z d))))/\((decide ((nI ((L d).length))>(24:Int)))=false->(∃ i8:Bool×Nat,[dB z]=ownBig_con.args i8/\ownBig_con.pre i8/\(∃ i9:(List (List Dat)),[DA.one (cS (L d))]=cloneInts_con.args i9/\cloneInts_con.pre i9/\((Value.bool i8.1=Value.bool (decide ((Fr.mk' z d).z<0)))/\(L i8.2=L (Fr.mk' z d).z.natAbs)/\(i9=L (Fr.mk' z d).d)))))))/\((!(decide ((nI ((L z.natAbs).length))>(24:Int))))=false->((eqN (Fr.mk' z d))))))))))/\((!(decide (i1=1)))=false->(((!(decide ((nI ((L z.natAbs).length))>(24:Int))))=true->(((decide ((nI ((L d).length))>(24:Int)))=true->((eqN (Fr.mk' z d))))/\((decide ((nI ((L d).length))>(24:Int)))=false->(∃ i10:Bool×Nat,[dB z]=ownBig_con.args i10/\ownBig_con.pre i10/\(∃ i11:(List (List Dat)),[DA.one (cS (L d))]=cloneInts_con.args i11/\cloneInts_con.pre i11/\((Value.bool i10.1=Value.bool (decide ((Fr.mk' z d).z<0)))/\(L i10.2=L (Fr.mk' z d).z.natAbs)/\(i11=L (Fr.mk' z d).d)))))))/\((!(decide ((nI ((L z.natAbs).length))>(24:Int))))=false->((eqN (Fr.mk' z d)))))))) (by kernel_rfl) ?_
 delta nI
 have hg:=gcd_bnd (a:=z.natAbs) hpre.1
 refine ⟨d,by
  rfl,by
  trivial,?_⟩
 refine And.symm ⟨λ c4=>?_,λ c4=>?_⟩
 ·try simp only [nrm] at c4
  have e1:z.natAbs.gcd d=1:=by rw [c4];exact Nat.gcd_one_right _
  have ez:z.natAbs/z.natAbs.gcd d=z.natAbs:=by rw [e1,Nat.div_one]
  have ed:d/z.natAbs.gcd d=d:=by rw [e1,Nat.div_one]
  have lz:=L_len (z.natAbs/z.natAbs.gcd d)
  have ld:=L_len (d/z.natAbs.gcd d)
  rw [ez] at lz
  rw [ed] at ld
  refine And.symm ⟨λ c52=>?_,λ c52=>?_⟩
  ·try simp only [nrm] at c52
   refine eqN_of ?_
   rw [mk_unfit hpre.1 (by rw [ez,ed];omega)];done
  try simp only [nrm] at c52
  refine ⟨λ c53=>?_,λ c53=>?_⟩
  ·try simp only [nrm] at c53
   refine eqN_of ?_
   rw [mk_unfit hpre.1 (by rw [ez,ed];omega)];done
  try simp only [nrm] at c53
  refine ⟨(decide (z<0),z.natAbs),by
   rfl,by
   show nl z.natAbs<=60
   omega,?_⟩
  refine ⟨(L d),by
   rfl,by
   show (L d).length<=1073741824
   omega,?_⟩
  refine ⟨?_,?_,?_⟩
  ·rw [(mk_fitz hpre.1 (by rw [ez];omega) (by rw [ed];omega)).1];done
  ·rw [(mk_fitz hpre.1 (by rw [ez];omega) (by rw [ed];omega)).2.1,ez];done
  rw [(mk_fitz hpre.1 (by rw [ez];omega) (by rw [ed];omega)).2.2,ed];done
 try simp only [nrm] at c4
 refine ⟨(z.natAbs,d),by
  rfl,by
  show nl z.natAbs<=131072/\nl d<=131072
  exact ⟨by omega,by omega⟩,?_⟩
 refine ⟨(z.natAbs.gcd d),by
  rfl,by
  trivial,?_⟩
 refine And.symm ⟨λ c11=>?_,λ c11=>?_⟩
 ·try simp only [nrm] at c11
  have e1:z.natAbs.gcd d=1:=c11
  have ez:z.natAbs/z.natAbs.gcd d=z.natAbs:=by rw [e1,Nat.div_one]
  have ed:d/z.natAbs.gcd d=d:=by rw [e1,Nat.div_one]
  have lz:=L_len (z.natAbs/z.natAbs.gcd d)
  have ld:=L_len (d/z.natAbs.gcd d)
  rw [ez] at lz
  rw [ed] at ld
  refine And.symm ⟨λ c35=>?_,λ c35=>?_⟩
  ·try simp only [nrm] at c35
   refine eqN_of ?_
   rw [mk_unfit hpre.1 (by rw [ez,ed];omega)];done
  try simp only [nrm] at c35
  refine ⟨λ c36=>?_,λ c36=>?_⟩
  ·try simp only [nrm] at c36
   refine eqN_of ?_
   rw [mk_unfit hpre.1 (by rw [ez,ed];omega)];done
  try simp only [nrm] at c36
  refine ⟨(decide (z<0),z.natAbs),by
   rfl,by
   show nl z.natAbs<=60
   omega,?_⟩
  refine ⟨(L d),by
   rfl,by
   show (L d).length<=1073741824
   omega,?_⟩
  refine ⟨?_,?_,?_⟩
  ·rw [(mk_fitz hpre.1 (by rw [ez];omega) (by rw [ed];omega)).1];done
  ·rw [(mk_fitz hpre.1 (by rw [ez];omega) (by rw [ed];omega)).2.1,ez];done
  rw [(mk_fitz hpre.1 (by rw [ez];omega) (by rw [ed];omega)).2.2,ed];done
 try simp only [nrm] at c11
 have ez:z.natAbs/z.natAbs.gcd d=z.natAbs/z.natAbs.gcd d:=rfl
 have ed:d/z.natAbs.gcd d=d/z.natAbs.gcd d:=rfl
 have lz:=L_len (z.natAbs/z.natAbs.gcd d)
 have ld:=L_len (d/z.natAbs.gcd d)
 rw [ez] at lz
 rw [ed] at ld
 refine ⟨(z.natAbs,(z.natAbs.gcd d)),by
  rfl,by
  show (z.natAbs.gcd d)≠0/\nl z.natAbs<=131072/\nl (z.natAbs.gcd d)<=131072
  exact ⟨by omega,by omega⟩,?_⟩
 refine ⟨(d,(z.natAbs.gcd d)),by
  rfl,by
  show (z.natAbs.gcd d)≠0/\nl d<=131072/\nl (z.natAbs.gcd d)<=131072
  exact ⟨by omega,by omega⟩,?_⟩
 refine And.symm ⟨λ c18=>?_,λ c18=>?_⟩
 ·replace c18:(!(decide ((((L (z.natAbs/(z.natAbs.gcd d))).length:Nat):Int)>(24:Int))))=false:=c18
  try simp only [nrm] at c18
  refine eqN_of ?_
  rw [mk_unfit hpre.1 (by rw [ez,ed];omega)];done
 replace c18:(!(decide ((((L (z.natAbs/(z.natAbs.gcd d))).length:Nat):Int)>(24:Int))))=true:=c18
 try simp only [nrm] at c18
 refine ⟨λ c19=>?_,λ c19=>?_⟩
 ·replace c19:(decide ((((L (d/(z.natAbs.gcd d))).length:Nat):Int)>(24:Int)))=true:=c19
  try simp only [nrm] at c19
  refine eqN_of ?_
  rw [mk_unfit hpre.1 (by rw [ez,ed];omega)];done
 replace c19:(decide ((((L (d/(z.natAbs.gcd d))).length:Nat):Int)>(24:Int)))=false:=c19
 try simp only [nrm] at c19
 refine ⟨(decide (z<0),(z.natAbs/(z.natAbs.gcd d))),by
  rfl,by
  show nl (z.natAbs/(z.natAbs.gcd d))<=60
  omega,?_⟩
 refine ⟨L (d/(z.natAbs.gcd d)),by
  rfl,by
  show (L (d/(z.natAbs.gcd d))).length<=1073741824
  omega,?_⟩
 refine ⟨?_,?_,?_⟩
 ·rw [(mk_fitz hpre.1 (by rw [ez];omega) (by rw [ed];omega)).1];done
 ·rw [(mk_fitz hpre.1 (by rw [ez];omega) (by rw [ed];omega)).2.1,ez];done
 rw [(mk_fitz hpre.1 (by rw [ez];omega) (by rw [ed];omega)).2.2,ed];done
def ratInt_con:Con:={ ι:=Int,pre:=λ i=>-9223372036854775808<=i/\i<=9223372036854775807,args:=λ i=>[.one (.im (.int .i64 i))],res:=λ i=>⟨false,[some 3],[.im (Value.bool (decide ((Fr.ofInt i).z<0))),.own 3 [.int] (L (Fr.ofInt i).z.natAbs),.own 3 [.int] (L (Fr.ofInt i).d)]⟩ }
theorem ratInt_ok:ratInt_con.Ok Tryz.prog 94:=by
 refine fok (X:=⟨tt,[(127,bigOf_con)],[],7,[]⟩) mixed tt_ok (CTok.cons bigOf_ok (CTok.nil _)) Tryz.func94 (λ _=>[]) ?_
 intro (n:Int) hpre
 have hpre:-9223372036854775808<=n/\n<=9223372036854775807:=hpre
 refine by_nf (q:=∃ i1:Int,[DA.one (cI n)]=bigOf_con.args i1/\bigOf_con.pre i1/\((Value.bool (decide (i1<0))=Value.bool (decide ((Fr.ofInt n).z<0)))/\(L i1.natAbs=L (Fr.ofInt n).z.natAbs)/\(([[Dat.int (1:Int)]]:List (List Dat))=L (Fr.ofInt n).d))) (by kernel_rfl) ?_
 refine ⟨n,by
  rfl,by
  exact hpre,?_⟩
 refine ⟨?_,?_,?_⟩
 ·rw [(ofInt_zd (int_nl hpre)).1];done
 ·rw [(ofInt_zd (int_nl hpre)).1];done
 rw [(ofInt_zd (int_nl hpre)).2];exact L_one (by decide) (by decide)
def ratAdd_con:Con:={ ι:=Fr×Fr,pre:=λ i=>True,args:=λ i=>[.agg [.im (.bool (decide (i.1.z<0))),.sl 3 [.int] (L i.1.z.natAbs),.sl 3 [.int] (L i.1.d)],.agg [.im (.bool (decide (i.2.z<0))),.sl 3 [.int] (L i.2.z.natAbs),.sl 3 [.int] (L i.2.d)]],res:=λ i=>⟨false,[some 3],[.im (Value.bool (decide ((Fr.add i.1 i.2).z<0))),.own 3 [.int] (L (Fr.add i.1 i.2).z.natAbs),.own 3 [.int] (L (Fr.add i.1 i.2).d)]⟩ }
theorem ratAdd_ok:ratAdd_con.Ok Tryz.prog 164:=by
 refine fok (X:=⟨tt,[(124,isGood_con),(126,bigMul_con),(183,bigAdd_con),(149,natMul_con),(163,ratMake_con)],[],35,[]⟩) mixed tt_ok (CTok.cons isGood_ok (CTok.cons bigMul_ok (CTok.cons bigAdd_ok (CTok.cons natMul_ok (CTok.cons ratMake_ok (CTok.nil _)))))) Tryz.func164 (λ _=>[]) ?_
 rintro ⟨r,s⟩ hpre
 have hpre:True:=hpre
 refine by_nf (q:=∃ i1:Fr,[dF r]=isGood_con.args i1/\isGood_con.pre i1/\(((!(!i1.good))=true->(∃ i2:Fr,[dF s]=isGood_con.args i2/\isGood_con.pre i2/\(((!i2.good)=true->((eqN (Fr.add r s))))/\((!i2.good)=false->(∃ i3:Int×Int,[dB r.z,DA.agg [cB false,cS (L s.d)]]=bigMul_con.args i3/\bigMul_con.pre i3/\(∃ i4:Int×Int,[dB s.z,DA.agg [cB false,cS (L r.d)]]=bigMul_con.args i4/\bigMul_con.pre i4/\(∃ i5:Int×Int,[dB (i3.1*i3.2),dB (i4.1*i4.2)]=bigAdd_con.args i5/\bigAdd_con.pre i5/\(∃ i6:Nat×Nat,[DA.one (cS (L r.d)),DA.one (cS (L s.d))]=natMul_con.args i6/\natMul_con.pre i6/\(∃ i7:Int×Nat,[dB (i5.1+i5.2),DA.one (cS (L (i6.1*i6.2)))]=ratMake_con.args i7/\ratMake_con.pre i7/\((eqC (Fr.mk' i7.1 i7.2) (Fr.add r s))))))))))))/\((!(!i1.good))=false->((eqN (Fr.add r s)))))) (by kernel_rfl) ?_
 have h1:=r.nlz
 have h2:=r.nld
 have h3:=s.nlz
 have h4:=s.nld
 refine ⟨r,by
  rfl,by
  trivial,?_⟩
 refine And.symm ⟨λ c4=>?_,λ c4=>?_⟩
 ·try simp only [nrm] at c4
  have hE:Fr.add r s=Fr.none:=Fr.bin_bad _ (.inl (bad_d c4))
  refine eqN_of ?_
  rw [hE];done
 try simp only [nrm] at c4
 refine ⟨s,by
  rfl,by
  trivial,?_⟩
 refine ⟨λ c8=>?_,λ c8=>?_⟩
 ·try simp only [nrm] at c8
  have hE:Fr.add r s=Fr.none:=Fr.bin_bad _ (.inr (bad_d c8))
  refine eqN_of ?_
  rw [hE];done
 try simp only [nrm] at c8
 have hE:=Fr.add_zd (good_d c4) (good_d c8)
 have m1:=nl_abs_mul r.z ((s.d:Nat):Int)
 have m2:=nl_abs_mul s.z ((r.d:Nat):Int)
 rw [nl_cast] at m1 m2
 have m3:=nl_abs_add (r.z*((s.d:Nat):Int)) (s.z*((r.d:Nat):Int))
 have m4:=nl_mul_le r.d s.d
 have m5:r.d*s.d≠0:=Nat.mul_ne_zero (good_d c4) (good_d c8)
 refine ⟨(r.z,((s.d:Nat):Int)),by
  rfl,by
  show nl r.z.natAbs<=1000/\nl ((s.d:Nat):Int).natAbs<=1000
  exact ⟨by omega,by rw [nl_cast];omega⟩,?_⟩
 refine ⟨(s.z,((r.d:Nat):Int)),by
  rfl,by
  show nl s.z.natAbs<=1000/\nl ((r.d:Nat):Int).natAbs<=1000
  exact ⟨by omega,by rw [nl_cast];omega⟩,?_⟩
 refine ⟨((r.z*((s.d:Nat):Int)),(s.z*((r.d:Nat):Int))),by
  rfl,by
  show nl (r.z*((s.d:Nat):Int)).natAbs<=1000/\nl (s.z*((r.d:Nat):Int)).natAbs<=1000
  exact ⟨by omega,by omega⟩,?_⟩
 refine ⟨(r.d,s.d),by
  rfl,by
  show nl r.d<=524288/\nl s.d<=524288
  exact ⟨by omega,by omega⟩,?_⟩
 refine ⟨(((r.z*((s.d:Nat):Int))+(s.z*((r.d:Nat):Int))),(r.d*s.d)),by
  rfl,by
  show (r.d*s.d)≠0/\nl ((r.z*((s.d:Nat):Int))+(s.z*((r.d:Nat):Int))).natAbs<=1000/\nl (r.d*s.d)<=1000
  exact ⟨by omega,by omega⟩,?_⟩
 refine eqC_of ?_
 rw [hE];done
def ratMul_con:Con:={ ι:=Fr×Fr,pre:=λ i=>True,args:=λ i=>[.agg [.im (.bool (decide (i.1.z<0))),.sl 3 [.int] (L i.1.z.natAbs),.sl 3 [.int] (L i.1.d)],.agg [.im (.bool (decide (i.2.z<0))),.sl 3 [.int] (L i.2.z.natAbs),.sl 3 [.int] (L i.2.d)]],res:=λ i=>⟨false,[some 3],[.im (Value.bool (decide ((Fr.mul i.1 i.2).z<0))),.own 3 [.int] (L (Fr.mul i.1 i.2).z.natAbs),.own 3 [.int] (L (Fr.mul i.1 i.2).d)]⟩ }
theorem ratMul_ok:ratMul_con.Ok Tryz.prog 128:=by
 refine fok (X:=⟨tt,[(124,isGood_con),(126,bigMul_con),(149,natMul_con),(163,ratMake_con)],[],25,[]⟩) mixed tt_ok (CTok.cons isGood_ok (CTok.cons bigMul_ok (CTok.cons natMul_ok (CTok.cons ratMake_ok (CTok.nil _))))) Tryz.func128 (λ _=>[]) ?_
 rintro ⟨r,s⟩ hpre
 have hpre:True:=hpre
 refine by_nf (q:=∃ i1:Fr,[dF r]=isGood_con.args i1/\isGood_con.pre i1/\(((!(!i1.good))=true->(∃ i2:Fr,[dF s]=isGood_con.args i2/\isGood_con.pre i2/\(((!i2.good)=true->((eqN (Fr.mul r s))))/\((!i2.good)=false->(∃ i3:Int×Int,[dB r.z,dB s.z]=bigMul_con.args i3/\bigMul_con.pre i3/\(∃ i4:Nat×Nat,[DA.one (cS (L r.d)),DA.one (cS (L s.d))]=natMul_con.args i4/\natMul_con.pre i4/\(∃ i5:Int×Nat,[dB (i3.1*i3.2),DA.one (cS (L (i4.1*i4.2)))]=ratMake_con.args i5/\ratMake_con.pre i5/\((eqC (Fr.mk' i5.1 i5.2) (Fr.mul r s))))))))))/\((!(!i1.good))=false->((eqN (Fr.mul r s)))))) (by kernel_rfl) ?_
 have h1:=r.nlz
 have h2:=r.nld
 have h3:=s.nlz
 have h4:=s.nld
 refine ⟨r,by
  rfl,by
  trivial,?_⟩
 refine And.symm ⟨λ c4=>?_,λ c4=>?_⟩
 ·try simp only [nrm] at c4
  have hE:Fr.mul r s=Fr.none:=Fr.bin_bad _ (.inl (bad_d c4))
  refine eqN_of ?_
  rw [hE];done
 try simp only [nrm] at c4
 refine ⟨s,by
  rfl,by
  trivial,?_⟩
 refine ⟨λ c8=>?_,λ c8=>?_⟩
 ·try simp only [nrm] at c8
  have hE:Fr.mul r s=Fr.none:=Fr.bin_bad _ (.inr (bad_d c8))
  refine eqN_of ?_
  rw [hE];done
 try simp only [nrm] at c8
 have hE:=Fr.mul_zd (good_d c4) (good_d c8)
 have m1:=nl_abs_mul r.z s.z
 have m4:=nl_mul_le r.d s.d
 have m5:r.d*s.d≠0:=Nat.mul_ne_zero (good_d c4) (good_d c8)
 refine ⟨(r.z,s.z),by
  rfl,by
  show nl r.z.natAbs<=1000/\nl s.z.natAbs<=1000
  exact ⟨by omega,by omega⟩,?_⟩
 refine ⟨(r.d,s.d),by
  rfl,by
  show nl r.d<=524288/\nl s.d<=524288
  exact ⟨by omega,by omega⟩,?_⟩
 refine ⟨((r.z*s.z),(r.d*s.d)),by
  rfl,by
  show (r.d*s.d)≠0/\nl (r.z*s.z).natAbs<=1000/\nl (r.d*s.d)<=1000
  exact ⟨by omega,by omega⟩,?_⟩
 refine eqC_of ?_
 rw [hE];done
def ratNeg_con:Con:={ ι:=Fr,pre:=λ i=>True,args:=λ i=>[.agg [.im (.bool (decide (i.z<0))),.sl 3 [.int] (L i.z.natAbs),.sl 3 [.int] (L i.d)]],res:=λ i=>⟨false,[some 3],[.im (Value.bool (decide (i.opp.z<0))),.view 3 [.int] (L i.opp.z.natAbs),.view 3 [.int] (L i.opp.d)]⟩ }
theorem ratNeg_ok:ratNeg_con.Ok Tryz.prog 165:=by
 refine fok (X:=⟨tt,[(184,bigNeg_con)],[],9,[]⟩) mixed tt_ok (CTok.cons bigNeg_ok (CTok.nil _)) Tryz.func165 (λ _=>[]) ?_
 intro (r:Fr) hpre
 have hpre:True:=hpre
 refine by_nf (q:=∃ i1:Int,[dB r.z]=bigNeg_con.args i1/\bigNeg_con.pre i1/\((Value.bool (decide ((-i1)<0))=Value.bool (decide (r.opp.z<0)))/\(L (-i1).natAbs=L r.opp.z.natAbs)/\((L r.d)=L r.opp.d))) (by kernel_rfl) ?_
 refine ⟨r.z,by
  rfl,by
  trivial,?_⟩
 refine ⟨?_,?_,?_⟩
 ·rw [Fr.opp_z];done
 ·rw [Fr.opp_z];done
 rw [Fr.opp_d]
def ratSub_con:Con:={ ι:=Fr×Fr,pre:=λ i=>True,args:=λ i=>[.agg [.im (.bool (decide (i.1.z<0))),.sl 3 [.int] (L i.1.z.natAbs),.sl 3 [.int] (L i.1.d)],.agg [.im (.bool (decide (i.2.z<0))),.sl 3 [.int] (L i.2.z.natAbs),.sl 3 [.int] (L i.2.d)]],res:=λ i=>⟨false,[some 3],[.im (Value.bool (decide ((Fr.sub i.1 i.2).z<0))),.own 3 [.int] (L (Fr.sub i.1 i.2).z.natAbs),.own 3 [.int] (L (Fr.sub i.1 i.2).d)]⟩ }
theorem ratSub_ok:ratSub_con.Ok Tryz.prog 129:=by
 refine fok (X:=⟨tt,[(165,ratNeg_con),(164,ratAdd_con)],[],9,[]⟩) mixed tt_ok (CTok.cons ratNeg_ok (CTok.cons ratAdd_ok (CTok.nil _))) Tryz.func129 (λ _=>[]) ?_
 rintro ⟨r,s⟩ hpre
 have hpre:True:=hpre
 refine by_nf (q:=∃ i1:Fr,[dF s]=ratNeg_con.args i1/\ratNeg_con.pre i1/\(∃ i2:Fr×Fr,[dF r,dF i1.opp]=ratAdd_con.args i2/\ratAdd_con.pre i2/\((eqC (Fr.add i2.1 i2.2) (Fr.sub r s))))) (by kernel_rfl) ?_
 refine ⟨s,by
  rfl,by
  trivial,?_⟩
 refine ⟨(r,s.opp),by
  rfl,by
  trivial,?_⟩
 refine eqC_of ?_
 rw [Fr.sub_opp]
def ratCmp_con:Con:={ ι:=Fr×Fr,pre:=λ i=>True,args:=λ i=>[.agg [.im (.bool (decide (i.1.z<0))),.sl 3 [.int] (L i.1.z.natAbs),.sl 3 [.int] (L i.1.d)],.agg [.im (.bool (decide (i.2.z<0))),.sl 3 [.int] (L i.2.z.natAbs),.sl 3 [.int] (L i.2.d)]],res:=λ i=>⟨false,[none],[.im (Value.int .i64 (Fr.cmp i.1 i.2))]⟩ }
theorem ratCmp_ok:ratCmp_con.Ok Tryz.prog 93:=by
 refine fok (X:=⟨tt,[(124,isGood_con),(126,bigMul_con),(125,bigCmp_con)],[],26,[]⟩) mixed tt_ok (CTok.cons isGood_ok (CTok.cons bigMul_ok (CTok.cons bigCmp_ok (CTok.nil _)))) Tryz.func93 (λ _=>[]) ?_
 rintro ⟨r,s⟩ hpre
 have hpre:True:=hpre
 refine by_nf (q:=∃ i1:Fr,[dF r]=isGood_con.args i1/\isGood_con.pre i1/\(((!(!i1.good))=true->(∃ i2:Fr,[dF s]=isGood_con.args i2/\isGood_con.pre i2/\(((!i2.good)=true->((vI (0:Int)=vI (Fr.cmp r s))))/\((!i2.good)=false->(∃ i3:Int×Int,[dB r.z,DA.agg [cB false,cS (L s.d)]]=bigMul_con.args i3/\bigMul_con.pre i3/\(∃ i4:Int×Int,[dB s.z,DA.agg [cB false,cS (L r.d)]]=bigMul_con.args i4/\bigMul_con.pre i4/\(∃ i5:Int×Int,[dB (i3.1*i3.2),dB (i4.1*i4.2)]=bigCmp_con.args i5/\bigCmp_con.pre i5/\((vI (cmpI i5.1 i5.2)=vI (Fr.cmp r s))))))))))/\((!(!i1.good))=false->((vI (0:Int)=vI (Fr.cmp r s)))))) (by kernel_rfl) ?_
 delta vI
 have h1:=r.nlz
 have h2:=r.nld
 have h3:=s.nlz
 have h4:=s.nld
 refine ⟨r,by
  rfl,by
  trivial,?_⟩
 refine And.symm ⟨λ c4=>?_,λ c4=>?_⟩
 ·try simp only [nrm] at c4
  have hE:Fr.cmp r s=0:=Fr.cmp_bad (.inl (bad_d c4))
  rw [hE];done
 try simp only [nrm] at c4
 refine ⟨s,by
  rfl,by
  trivial,?_⟩
 refine ⟨λ c8=>?_,λ c8=>?_⟩
 ·try simp only [nrm] at c8
  have hE:Fr.cmp r s=0:=Fr.cmp_bad (.inr (bad_d c8))
  rw [hE];done
 try simp only [nrm] at c8
 have hE:=Fr.cmp_zd (good_d c4) (good_d c8)
 have m1:=nl_abs_mul r.z ((s.d:Nat):Int)
 have m2:=nl_abs_mul s.z ((r.d:Nat):Int)
 rw [nl_cast] at m1 m2
 
 refine ⟨(r.z,((s.d:Nat):Int)),by
  rfl,by
  show nl r.z.natAbs<=1000/\nl ((s.d:Nat):Int).natAbs<=1000
  exact ⟨by omega,by rw [nl_cast];omega⟩,?_⟩
 refine ⟨(s.z,((r.d:Nat):Int)),by
  rfl,by
  show nl s.z.natAbs<=1000/\nl ((r.d:Nat):Int).natAbs<=1000
  exact ⟨by omega,by rw [nl_cast];omega⟩,?_⟩
 refine ⟨((r.z*((s.d:Nat):Int)),(s.z*((r.d:Nat):Int))),by
  rfl,by
  show nl (r.z*((s.d:Nat):Int)).natAbs<=1000/\nl (s.z*((r.d:Nat):Int)).natAbs<=1000
  exact ⟨by omega,by omega⟩,?_⟩
 rw [hE];done
def ratSign_con:Con:={ ι:=Fr,pre:=λ i=>True,args:=λ i=>[.agg [.im (.bool (decide (i.z<0))),.sl 3 [.int] (L i.z.natAbs),.sl 3 [.int] (L i.d)]],res:=λ i=>⟨false,[none],[.im (Value.int .i64 i.sgn)]⟩ }
theorem ratSign_ok:ratSign_con.Ok Tryz.prog 130:=by
 refine fok (X:=⟨tt,[(124,isGood_con)],[],18,[]⟩) mixed tt_ok (CTok.cons isGood_ok (CTok.nil _)) Tryz.func130 (λ _=>[]) ?_
 intro (r:Fr) hpre
 have hpre:True:=hpre
 refine by_nf (q:=∃ i1:Fr,[dF r]=isGood_con.args i1/\isGood_con.pre i1/\(((!(!i1.good))=true->((((nI ((L r.z.natAbs).length)) == (0:Int))=true->((vI (0:Int)=vI r.sgn)))/\(((nI ((L r.z.natAbs).length)) == (0:Int))=false->((decide (r.z<0)=true->((vI (-1:Int)=vI r.sgn)))/\(decide (r.z<0)=false->((vI (1:Int)=vI r.sgn)))))))/\((!(!i1.good))=false->((vI (0:Int)=vI r.sgn))))) (by kernel_rfl) ?_
 delta vI nI
 refine ⟨r,by
  rfl,by
  trivial,?_⟩
 refine And.symm ⟨λ c4=>?_,λ c4=>?_⟩
 ·try simp only [nrm] at c4
  have hz:r.z=0:=by rw [Fr.bad_z (bad_d c4)];rfl
  rw [Fr.sgn_z,hz];rfl
 try simp only [nrm] at c4
 refine ⟨λ c5=>?_,λ c5=>?_⟩
 ·try simp only [nrm] at c5
  have hz:r.z=0:=zlen (by omega)
  rw [Fr.sgn_z,hz];rfl
 try simp only [nrm] at c5
 have hz:r.z≠0:=zlen' (by omega)
 refine ⟨λ c7=>?_,λ c7=>?_⟩
 ·try simp only [nrm] at c7
  rw [Fr.sgn_z];unfold cmpI;rw [if_pos (by omega)];done
 try simp only [nrm] at c7
 rw [Fr.sgn_z];unfold cmpI;rw [if_neg (by omega),if_neg (by omega)];done
def ratMin_con:Con:={ ι:=Fr×Fr,pre:=λ i=>True,args:=λ i=>[.agg [.im (.bool (decide (i.1.z<0))),.sl 3 [.int] (L i.1.z.natAbs),.sl 3 [.int] (L i.1.d)],.agg [.im (.bool (decide (i.2.z<0))),.sl 3 [.int] (L i.2.z.natAbs),.sl 3 [.int] (L i.2.d)]],res:=λ i=>⟨false,[some 3],[.im (Value.bool (decide ((Fr.min i.1 i.2).z<0))),.view 3 [.int] (L (Fr.min i.1 i.2).z.natAbs),.view 3 [.int] (L (Fr.min i.1 i.2).d)]⟩ }
theorem ratMin_ok:ratMin_con.Ok Tryz.prog 166:=by
 refine fok (X:=⟨tt,[(124,isGood_con),(93,ratCmp_con)],[],22,[]⟩) mixed tt_ok (CTok.cons isGood_ok (CTok.cons ratCmp_ok (CTok.nil _))) Tryz.func166 (λ _=>[]) ?_
 rintro ⟨r,s⟩ hpre
 have hpre:True:=hpre
 refine by_nf (q:=∃ i1:Fr,[dF r]=isGood_con.args i1/\isGood_con.pre i1/\(((!(!i1.good))=true->(∃ i2:Fr,[dF s]=isGood_con.args i2/\isGood_con.pre i2/\(((!i2.good)=true->((eqN (Fr.min r s))))/\((!i2.good)=false->(∃ i3:Fr×Fr,[dF r,dF s]=ratCmp_con.args i3/\ratCmp_con.pre i3/\(((decide ((Fr.cmp i3.1 i3.2)<=(0:Int)))=true->((eqC r (Fr.min r s))))/\((decide ((Fr.cmp i3.1 i3.2)<=(0:Int)))=false->((eqC s (Fr.min r s))))))))))/\((!(!i1.good))=false->((eqN (Fr.min r s)))))) (by kernel_rfl) ?_
 refine ⟨r,by
  rfl,by
  trivial,?_⟩
 refine And.symm ⟨λ c4=>?_,λ c4=>?_⟩
 ·try simp only [nrm] at c4
  have hE:Fr.min r s=Fr.none:=Fr.bin_bad _ (.inl (bad_d c4))
  refine eqN_of ?_
  rw [hE];done
 try simp only [nrm] at c4
 refine ⟨s,by
  rfl,by
  trivial,?_⟩
 refine ⟨λ c8=>?_,λ c8=>?_⟩
 ·try simp only [nrm] at c8
  have hE:Fr.min r s=Fr.none:=Fr.bin_bad _ (.inr (bad_d c8))
  refine eqN_of ?_
  rw [hE];done
 try simp only [nrm] at c8
 refine ⟨(r,s),by
  rfl,by
  trivial,?_⟩
 refine ⟨λ c15=>?_,λ c15=>?_⟩
 ·replace c15:(decide ((Fr.cmp r s)<=(0:Int)))=true:=c15
  try simp only [nrm] at c15
  have hE:Fr.min r s=r:=by rw [Fr.min_pick,if_neg (λ h=>h.elim (good_d c4) (good_d c8)),if_pos (by omega)]
  refine eqC_of ?_
  rw [hE];done
 replace c15:(decide ((Fr.cmp r s)<=(0:Int)))=false:=c15
 try simp only [nrm] at c15
 have hE:Fr.min r s=s:=by rw [Fr.min_pick,if_neg (λ h=>h.elim (good_d c4) (good_d c8)),if_neg (by omega)]
 refine eqC_of ?_
 rw [hE];done
def ratMax_con:Con:={ ι:=Fr×Fr,pre:=λ i=>True,args:=λ i=>[.agg [.im (.bool (decide (i.1.z<0))),.sl 3 [.int] (L i.1.z.natAbs),.sl 3 [.int] (L i.1.d)],.agg [.im (.bool (decide (i.2.z<0))),.sl 3 [.int] (L i.2.z.natAbs),.sl 3 [.int] (L i.2.d)]],res:=λ i=>⟨false,[some 3],[.im (Value.bool (decide ((Fr.max i.1 i.2).z<0))),.view 3 [.int] (L (Fr.max i.1 i.2).z.natAbs),.view 3 [.int] (L (Fr.max i.1 i.2).d)]⟩ }
theorem ratMax_ok:ratMax_con.Ok Tryz.prog 167:=by
 refine fok (X:=⟨tt,[(124,isGood_con),(93,ratCmp_con)],[],22,[]⟩) mixed tt_ok (CTok.cons isGood_ok (CTok.cons ratCmp_ok (CTok.nil _))) Tryz.func167 (λ _=>[]) ?_
 rintro ⟨r,s⟩ hpre
 have hpre:True:=hpre
 refine by_nf (q:=∃ i1:Fr,[dF r]=isGood_con.args i1/\isGood_con.pre i1/\(((!(!i1.good))=true->(∃ i2:Fr,[dF s]=isGood_con.args i2/\isGood_con.pre i2/\(((!i2.good)=true->((eqN (Fr.max r s))))/\((!i2.good)=false->(∃ i3:Fr×Fr,[dF r,dF s]=ratCmp_con.args i3/\ratCmp_con.pre i3/\(((decide ((Fr.cmp i3.1 i3.2)≥(0:Int)))=true->((eqC r (Fr.max r s))))/\((decide ((Fr.cmp i3.1 i3.2)≥(0:Int)))=false->((eqC s (Fr.max r s))))))))))/\((!(!i1.good))=false->((eqN (Fr.max r s)))))) (by kernel_rfl) ?_
 refine ⟨r,by
  rfl,by
  trivial,?_⟩
 refine And.symm ⟨λ c4=>?_,λ c4=>?_⟩
 ·try simp only [nrm] at c4
  have hE:Fr.max r s=Fr.none:=Fr.bin_bad _ (.inl (bad_d c4))
  refine eqN_of ?_
  rw [hE];done
 try simp only [nrm] at c4
 refine ⟨s,by
  rfl,by
  trivial,?_⟩
 refine ⟨λ c8=>?_,λ c8=>?_⟩
 ·try simp only [nrm] at c8
  have hE:Fr.max r s=Fr.none:=Fr.bin_bad _ (.inr (bad_d c8))
  refine eqN_of ?_
  rw [hE];done
 try simp only [nrm] at c8
 refine ⟨(r,s),by
  rfl,by
  trivial,?_⟩
 refine ⟨λ c15=>?_,λ c15=>?_⟩
 ·replace c15:(decide ((Fr.cmp r s)≥(0:Int)))=true:=c15
  try simp only [nrm] at c15
  have hE:Fr.max r s=r:=by rw [Fr.max_pick,if_neg (λ h=>h.elim (good_d c4) (good_d c8)),if_pos (by omega)]
  refine eqC_of ?_
  rw [hE];done
 replace c15:(decide ((Fr.cmp r s)≥(0:Int)))=false:=c15
 try simp only [nrm] at c15
 have hE:Fr.max r s=s:=by rw [Fr.max_pick,if_neg (λ h=>h.elim (good_d c4) (good_d c8)),if_neg (by omega)]
 refine eqC_of ?_
 rw [hE];done
def NatOk_con:Con:={ ι:=(List (List Dat)),pre:=λ i=>i.length<=9223372036854775807,args:=λ i=>[.one (.sl 3 [.int] i)],res:=λ i=>⟨false,[none],[.im (Value.bool (natOkR i))]⟩ }
theorem NatOk_ok:NatOk_con.Ok Tryz.prog 85:=by
 refine fok (X:=⟨tt,[(111,cfNat_con)],[],22,[]⟩) mixed tt_ok (CTok.cons cfNat_ok (CTok.nil _)) Tryz.func85 (λ _=>[]) ?_
 intro (l:List (List Dat)) hpre
 have hpre:l.length<=9223372036854775807:=hpre
 refine by_nf (q:=((!(decide ((nI l.length)>(60:Int))))=true->(∃ i1:(List (List Dat)),[DA.one (cS l),DA.one (DC.ro (.fn 112 []))]=cfNat_con.args i1/\cfNat_con.pre i1/\(((i1.any (λ r=>!(inB (rn r))))=true->((Value.bool false=Value.bool (natOkR l))))/\((i1.any (λ r=>!(inB (rn r))))=false->(((!((nI l.length) == (0:Int)))=true->((0<=(wR ((nI l.length)-(1:Int)))/\(wR ((nI l.length)-(1:Int)))<(l.length:Int))/\(((wR ((nI l.length)-(1:Int))).toNat<l.length)/\((Value.bool ((((l.getD ((wR ((nI l.length)-(1:Int))).toNat) []).getD 0 (.int 0))).n != (0:Int))=Value.bool (natOkR l))))))/\((!((nI l.length) == (0:Int)))=false->((Value.bool true=Value.bool (natOkR l)))))))))/\((!(decide ((nI l.length)>(60:Int))))=false->((Value.bool false=Value.bool (natOkR l))))) (by kernel_rfl) ?_
 delta wR nI
 refine And.symm ⟨λ c1=>?_,λ c1=>?_⟩
 ·try simp only [nrm] at c1
  have hE:=natOkR_no1 (l:=l) (by omega)
  rw [hE]
 try simp only [nrm] at c1
 refine ⟨l,by
  rfl,by
  trivial,?_⟩
 refine ⟨λ c5=>?_,λ c5=>?_⟩
 ·try simp only [nrm] at c5
  have hE:=natOkR_no2 c5
  rw [hE]
 try simp only [nrm] at c5
 refine And.symm ⟨λ c7=>?_,λ c7=>?_⟩
 ·try simp only [nrm] at c7
  have hE:=natOkR_nil (l:=l) (by omega)
  rw [hE]
 try simp only [nrm] at c7
 have hE:=natOkR_last (l:=l) (by omega) c5 (by omega)
 have hw:(IntKind.i64.wrap (((l.length:Nat):Int)-(1:Int)))=((l.length-1:Nat):Int):=by rw [wrap64 (by omega) (by omega)];omega
 refine ao (by rw [hw];omega) λ o8=>?_
 refine ao (by rw [hw];omega) λ o9=>?_
 rw [hw,Int.toNat_natCast,hE];rfl
def BigIntOk_con:Con:={ ι:=Bool×(List (List Dat)),pre:=λ i=>i.2.length<=9223372036854775807,args:=λ i=>[.agg [.im (.bool i.1),.sl 3 [.int] i.2]],res:=λ i=>⟨false,[none],[.im (Value.bool (bigOkR i.1 i.2))]⟩ }
theorem BigIntOk_ok:BigIntOk_con.Ok Tryz.prog 84:=by
 refine fok (X:=⟨tt,[(85,NatOk_con)],[],17,[]⟩) mixed tt_ok (CTok.cons NatOk_ok (CTok.nil _)) Tryz.func84 (λ _=>[]) ?_
 rintro ⟨neg,m⟩ hpre
 have hpre:m.length<=9223372036854775807:=hpre
 refine by_nf (q:=∃ i1:(List (List Dat)),[DA.one (cS m)]=NatOk_con.args i1/\NatOk_con.pre i1/\(((natOkR i1)=true->((neg=true->((Value.bool (!((nI m.length) == (0:Int)))=Value.bool (bigOkR neg m))))/\(neg=false->((Value.bool (!false)=Value.bool (bigOkR neg m))))))/\((natOkR i1)=false->((Value.bool false=Value.bool (bigOkR neg m)))))) (by kernel_rfl) ?_
 delta nI
 refine ⟨m,by
  rfl,by
  trivial,?_⟩
 refine And.symm ⟨λ c4=>?_,λ c4=>?_⟩
 ·try simp only [nrm] at c4
  unfold bigOkR;rw [c4];rfl
 try simp only [nrm] at c4
 refine ⟨λ c5=>?_,λ c5=>?_⟩
 ·try simp only [nrm] at c5
  rw [c5,bigOkR_yes c4];done
 try simp only [nrm] at c5
 unfold bigOkR;rw [c4,c5];rfl
def RatOk_con:Con:={ ι:=Bool×(List (List Dat))×(List (List Dat)),pre:=λ i=>Dat.has (.sl 3 [.int]) (.sl i.2.1)/\Dat.has (.sl 3 [.int]) (.sl i.2.2)/\i.2.1.length<=9223372036854775807/\i.2.2.length<=9223372036854775807,args:=λ i=>[.agg [.im (.bool i.1),.sl 3 [.int] i.2.1,.sl 3 [.int] i.2.2]],res:=λ i=>⟨false,[none],[.im (Value.bool (ratOkR i.1 i.2.1 i.2.2))]⟩ }
theorem RatOk_ok:RatOk_con.Ok Tryz.prog 63:=by
 refine fok (X:=⟨tt,[(84,BigIntOk_con),(85,NatOk_con),(86,isOne_con),(87,natGcd_con)],[],44,[]⟩) mixed tt_ok (CTok.cons BigIntOk_ok (CTok.cons NatOk_ok (CTok.cons isOne_ok (CTok.cons natGcd_ok (CTok.nil _))))) Tryz.func63 (λ _=>[]) ?_
 rintro ⟨neg,m,d⟩ hpre
 have hpre:Dat.has (.sl 3 [.int]) (.sl m)/\Dat.has (.sl 3 [.int]) (.sl d)/\m.length<=9223372036854775807/\d.length<=9223372036854775807:=hpre
 refine by_nf (q:=∃ i1:Bool×(List (List Dat)),[DA.agg [cB neg,cS m]]=BigIntOk_con.args i1/\BigIntOk_con.pre i1/\(((!(!(bigOkR i1.1 i1.2)))=true->(∃ i2:(List (List Dat)),[DA.one (cS d)]=NatOk_con.args i2/\NatOk_con.pre i2/\(((!(!(natOkR i2)))=true->(((!((nI d.length) == (0:Int)))=true->(((!(decide ((nI m.length)>(24:Int))))=true->(((decide ((nI d.length)>(24:Int)))=true->((Value.bool false=Value.bool (ratOkR neg m d))))/\((decide ((nI d.length)>(24:Int)))=false->(∃ i3:Nat,[DA.one (cS d)]=isOne_con.args i3/\isOne_con.pre i3/\(((!(decide (i3=1)))=true->(∃ i4:Nat×Nat,[DA.one (cS m),DA.one (cS d)]=natGcd_con.args i4/\natGcd_con.pre i4/\(∃ i5:Nat,[DA.one (cS (L (i4.1.gcd i4.2)))]=isOne_con.args i5/\isOne_con.pre i5/\((Value.bool (decide (i5=1))=Value.bool (ratOkR neg m d))))))/\((!(decide (i3=1)))=false->((Value.bool true=Value.bool (ratOkR neg m d)))))))))/\((!(decide ((nI m.length)>(24:Int))))=false->((Value.bool false=Value.bool (ratOkR neg m d))))))/\((!((nI d.length) == (0:Int)))=false->((Value.bool false=Value.bool (ratOkR neg m d))))))/\((!(!(natOkR i2)))=false->((Value.bool false=Value.bool (ratOkR neg m d)))))))/\((!(!(bigOkR i1.1 i1.2)))=false->((Value.bool false=Value.bool (ratOkR neg m d)))))) (by kernel_rfl) ?_
 delta nI
 refine ⟨(neg,m),by
  rfl,by
  show m.length<=9223372036854775807
  omega,?_⟩
 refine And.symm ⟨λ c4=>?_,λ c4=>?_⟩
 ·replace c4:(!(!(bigOkR neg m)))=false:=c4
  try simp only [nrm] at c4
  have hE:ratOkR neg m d=false:=ratOkR_no (.inl c4)
  rw [hE]
 replace c4:(!(!(bigOkR neg m)))=true:=c4
 try simp only [nrm] at c4
 refine ⟨d,by
  rfl,by
  show d.length<=9223372036854775807
  omega,?_⟩
 refine And.symm ⟨λ c8=>?_,λ c8=>?_⟩
 ·try simp only [nrm] at c8
  have hE:ratOkR neg m d=false:=ratOkR_no (.inr (.inl c8))
  rw [hE]
 try simp only [nrm] at c8
 refine And.symm ⟨λ c9=>?_,λ c9=>?_⟩
 ·try simp only [nrm] at c9
  have hE:ratOkR neg m d=false:=ratOkR_no (.inr (.inr (.inl (by omega))))
  rw [hE]
 try simp only [nrm] at c9
 refine And.symm ⟨λ c10=>?_,λ c10=>?_⟩
 ·try simp only [nrm] at c10
  have hE:ratOkR neg m d=false:=ratOkR_no (.inr (.inr (.inr (.inl (by omega)))))
  rw [hE]
 try simp only [nrm] at c10
 refine ⟨λ c11=>?_,λ c11=>?_⟩
 ·try simp only [nrm] at c11
  have hE:ratOkR neg m d=false:=ratOkR_no (.inr (.inr (.inr (.inr (by omega)))))
  rw [hE]
 try simp only [nrm] at c11
 obtain ⟨a,ea,na⟩:=natOkR_inv hpre.1 (bigOkR_nat c4)
 obtain ⟨b,eb,nb⟩:=natOkR_inv hpre.2.1 c8
 have hE:=ratOkR_yes c4 c8 (by omega) (by omega) (by omega)
 refine ⟨b,by
  rw [eb];rfl,by
  trivial,?_⟩
 refine And.symm ⟨λ c16=>?_,λ c16=>?_⟩
 ·try simp only [nrm] at c16
  rw [hE,ea,eb,valR_L,valR_L]
  exact congrArg Value.bool (decide_eq_true (by rw [c16];exact Nat.gcd_one_right a)).symm
 try simp only [nrm] at c16
 refine ⟨(a,b),by
  rw [ea,eb];rfl,by
  show nl a<=131072/\nl b<=131072
  exact ⟨by omega,by omega⟩,?_⟩
 refine ⟨(a.gcd b),by
  rfl,by
  trivial,?_⟩
 rw [hE,ea,eb,valR_L,valR_L]
end Go.Proofs.YtlejeadlmpkffaaGreat
