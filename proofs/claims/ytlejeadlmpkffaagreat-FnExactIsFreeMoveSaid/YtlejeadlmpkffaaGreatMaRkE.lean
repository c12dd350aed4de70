import Derived.Test.YtlejeadlmpkffaaGreatMaRkD
namespace Go.Proofs.YtlejeadlmpkffaaGreat
set_option maxRecDepth 100000
set_option linter.unusedVariables false
set_option linter.unusedSimpArgs false
open Go.RowKit
theorem zOf_scale (z:Int) (d:Nat):zOf (decide (z<0)) (z.natAbs*d)=z*((d:Nat):Int):=by
 have h:=zOf_mul z ((d:Nat):Int)
 rw [nneg_dec,Int.natAbs_natCast] at h
 rw [← h]
 cases decide (z<0) <;> rfl
theorem zOf_dec {neg:Bool} {m k:Nat} (h:m=0->k=0):zOf (decide (zOf neg m<0)) k=zOf neg k:=by
 cases neg
 ·have:decide (zOf false m<0)=false:=decide_eq_false (by unfold zOf;simp)
  rw [this]
 ·by_cases hm:m=0
  ·rw [h hm];unfold zOf;simp
  ·have:decide (zOf true m<0)=true:=decide_eq_true (by unfold zOf;simp;omega)
   rw [this]
def lowR (z:Int) (d:Nat):Fr:=if d=0 then Fr.none else Fr.mk' z d
theorem low_yes {z:Int} {d:Nat} (h:d≠0):lowR z d=Fr.mk' z d:=by unfold lowR;rw [if_neg h]
theorem low_no {z:Int} {d:Nat} (h:d=0):lowR z d=Fr.none:=by unfold lowR;rw [if_pos h]
theorem low_fit {neg:Bool} {m d M D:Nat} {z:Int} (hz:zOf neg m=z) (hd:d≠0) (eM:m/m.gcd d=M) (eD:d/m.gcd d=D) (h1:nl M<=24) (h2:nl D<=24):(lowR z d).z=zOf neg M/\(lowR z d).d=D:=by
 have ha:z.natAbs=m:=by rw [← hz,zOf_abs]
 have hf:=mk_fitz (z:=z) hd (by rw [ha,eM];exact h1) (by rw [ha,eD];exact h2)
 rw [low_yes hd]
 rw [ha,eM,eD] at hf
 refine ⟨?_,hf.2.2⟩
 rw [← zOf_self (Fr.mk' z d).z,hf.1,hf.2.1,← hz]
 exact zOf_dec λ e=>by rw [← eM,e,Nat.zero_div]
theorem low_unfit {neg:Bool} {m d M D:Nat} {z:Int} (hz:zOf neg m=z) (hd:d≠0) (eM:m/m.gcd d=M) (eD:d/m.gcd d=D) (h:¬ (nl M<=24/\nl D<=24)):lowR z d=Fr.none:=by
 have ha:z.natAbs=m:=by rw [← hz,zOf_abs]
 rw [low_yes hd,mk_unfit hd (by rw [ha,eM,eD];exact h)]
theorem one_L:[[Dat.int (1:Int)]]=L 1:=L_one (by decide) (by decide)
theorem L_has (e:Nat) {n:Nat} (h:nl n<=9223372036854775807):Dat.has (.sl e [.int]) (.sl (L n)):=by
 refine ⟨by rw [L_len];exact h,λ k hk=>?_⟩
 unfold L
 rw [rowsN_getD (by rw [L_len] at hk;exact hk)]
 simp [hasRow,Dat.has]
theorem ratOkR_zd (r:Fr):ratOkR (decide (r.z<0)) (L r.z.natAbs) (L r.d)=r.good:=by
 rw [← Fr.neg_z,← Fr.num_z,← Fr.den_d];exact ratOkR_fr r
theorem bigOkR_pos {m:List (List Dat)} (h:natOkR m=true):bigOkR true m=decide (((m.length:Nat):Int)>(0:Int)):=by
 rw [bigOkR_yes h]
 by_cases hv:m.length=0
 ·rw [hv];rfl
 ·rw [decide_eq_true (by omega)]
  have:((((m.length:Nat):Int)) == (0:Int))=false:=by rw [beq_eq_false_iff_ne];omega
  rw [this];rfl
theorem sub_opp' (r s:Fr):Fr.sub r s=Fr.add r s.opp:=(Fr.sub_opp r s).symm
theorem add_low1 {r s:Fr} (hr:r.d=1) (hs:s.d=1):Fr.add r s=lowR (r.z+s.z) 1:=by
 rw [Fr.add_zd (by omega) (by omega),low_yes (by decide),hr,hs]
 show Fr.mk' (r.z*1+s.z*1) (1*1)=_
 rw [Int.mul_one,Int.mul_one]
theorem add_low {r s:Fr} (hr:r.d≠0) (hs:s.d≠0):Fr.add r s=lowR (r.z*((s.d:Nat):Int)+s.z*((r.d:Nat):Int)) (r.d*s.d):=by
 rw [Fr.add_zd hr hs,low_yes (Nat.mul_ne_zero hr hs)]
theorem mul_low {r s:Fr} (hr:r.d≠0) (hs:s.d≠0):Fr.mul r s=lowR (r.z*s.z) (r.d*s.d):=by
 rw [Fr.mul_zd hr hs,low_yes (Nat.mul_ne_zero hr hs)]
def sBigIntOk_con:Con:={ ι:=Bool×(List (List Dat)),pre:=λ i=>i.2.length<=9223372036854775807,args:=λ i=>[.agg [.im (.bool i.1),.sl 3 [.int] i.2]],res:=λ i=>⟨false,[none],[.im (Value.bool (bigOkR i.1 i.2))]⟩ }
theorem sBigIntOk_ok:sBigIntOk_con.Ok Tryz.prog 98:=by
 refine fok (X:=⟨tt,[(99,sNatOk_con)],[],17,[]⟩) mixed tt_ok (CTok.cons sNatOk_ok (CTok.nil _)) Tryz.func98 (λ _=>[]) ?_
 rintro ⟨neg,m⟩ hpre
 have hpre:m.length<=9223372036854775807:=hpre
 refine by_nf (q:=∃ i1:(List (List Dat)),[DA.one (cS m)]=sNatOk_con.args i1/\sNatOk_con.pre i1/\(((natOkR i1)=true->(((!(!neg))=true->((Value.bool (decide ((nI m.length)>(0:Int)))=Value.bool (bigOkR neg m))))/\((!(!neg))=false->((Value.bool true=Value.bool (bigOkR neg m))))))/\((natOkR i1)=false->((Value.bool false=Value.bool (bigOkR neg m)))))) (by kernel_rfl) ?_
 delta nI
 refine ⟨m,by
  rfl,by
  trivial,?_⟩
 refine And.symm ⟨λ c4=>?_,λ c4=>?_⟩
 ·try simp only [nrm] at c4
  unfold bigOkR;rw [c4];rfl
 try simp only [nrm] at c4
 refine ⟨λ c5=>?_,λ c5=>?_⟩
 ·try simp only [nrm] at c5
  rw [c5,bigOkR_pos c4];done
 try simp only [nrm] at c5
 unfold bigOkR;rw [c4,c5];rfl
def l03Make_con:Con:={ ι:=Bool×Nat×Int,pre:=λ i=>nl i.2.1<=60/\zOf i.1 i.2.1=i.2.2,args:=λ i=>[.one (.im (.bool i.1)),.one (.sl 3 [.int] (L i.2.1))],res:=λ i=>⟨false,[some 2],[.im (Value.bool (decide (i.2.2<0))),.own 3 [.int] (L i.2.2.natAbs)]⟩ }
theorem l03Make_ok:l03Make_con.Ok Tryz.prog 139:=by
 refine fok (X:=⟨tt,[(175,l02Cap_con)],[],18,[]⟩) mixed tt_ok (CTok.cons l02Cap_ok (CTok.nil _)) Tryz.func139 (λ _=>[]) ?_
 rintro ⟨neg,m,z⟩ hpre
 have hpre:nl m<=60/\zOf neg m=z:=hpre
 refine by_nf (q:=∃ i1:Nat,[DA.one (cS (L m))]=l02Cap_con.args i1/\l02Cap_con.pre i1/\((neg=true->((([]:List (List Dat)).length+(L i1).length<=1073741824)/\((Value.bool (decide ((nI ((L i1).length))>(0:Int)))=Value.bool (decide (z<0)))/\((([]:List (List Dat))++L i1)=L z.natAbs))))/\(neg=false->((([]:List (List Dat)).length+(L i1).length<=1073741824)/\((Value.bool false=Value.bool (decide (z<0)))/\((([]:List (List Dat))++L i1)=L z.natAbs)))))) (by kernel_rfl) ?_
 delta nI
 refine ⟨m,by
  rfl,by
  exact hpre.1,?_⟩
 refine ⟨λ c4=>?_,λ c4=>?_⟩
 ·try simp only [nrm] at c4
  refine ao (by first|(rw [L_len];simp only [List.length_nil];omega)) λ o5=>?_
  refine ⟨?_,?_⟩
  ·rw [← hpre.2]
   rw [zOf_lti,c4];rfl
  rw [← hpre.2]
  rw [zOf_abs];exact List.nil_append _
 try simp only [nrm] at c4
 refine ao (by first|(rw [L_len];simp only [List.length_nil];omega)) λ o8=>?_
 refine ⟨?_,?_⟩
 ·rw [← hpre.2]
  rw [zOf_lti,c4];rfl
 rw [← hpre.2]
 rw [zOf_abs];exact List.nil_append _
def sBigIntOf_con:Con:={ ι:=Int,pre:=λ i=>-9223372036854775808<=i/\i<=9223372036854775807,args:=λ i=>[.one (.im (.int .i64 i))],res:=λ i=>⟨false,[some 2],[.im (Value.bool (decide (i<0))),.own 3 [.int] (L i.natAbs)]⟩ }
theorem sBigIntOf_ok:sBigIntOf_con.Ok Tryz.prog 107:=by
 refine fok (X:=⟨tt,[(139,l03Make_con),(140,sNatOf_con)],[],16,[]⟩) mixed tt_ok (CTok.cons l03Make_ok (CTok.cons sNatOf_ok (CTok.nil _))) Tryz.func107 (λ _=>[]) ?_
 intro (n:Int) hpre
 have hpre:-9223372036854775808<=n/\n<=9223372036854775807:=hpre
 refine by_nf (q:=((n == (-9223372036854775808:Int))=true->(∃ i1:Bool×Nat×Int,[DA.one (cB true),DA.one (cS ([[Dat.int (854775808:Int)],[Dat.int (223372036:Int)],[Dat.int (9:Int)]]:List (List Dat)))]=l03Make_con.args i1/\l03Make_con.pre i1/\((Value.bool (decide (i1.2.2<0))=Value.bool (decide (n<0)))/\(L i1.2.2.natAbs=L n.natAbs))))/\((n == (-9223372036854775808:Int))=false->(((decide (n<(0:Int)))=true->(∃ i2:Nat,[DA.one (cI (wR (0-n)))]=sNatOf_con.args i2/\sNatOf_con.pre i2/\(∃ i3:Bool×Nat×Int,[DA.one (cB true),DA.one (cS (L i2))]=l03Make_con.args i3/\l03Make_con.pre i3/\((Value.bool (decide (i3.2.2<0))=Value.bool (decide (n<0)))/\(L i3.2.2.natAbs=L n.natAbs)))))/\((decide (n<(0:Int)))=false->(∃ i4:Nat,[DA.one (cI n)]=sNatOf_con.args i4/\sNatOf_con.pre i4/\(∃ i5:Bool×Nat×Int,[DA.one (cB false),DA.one (cS (L i4))]=l03Make_con.args i5/\l03Make_con.pre i5/\((Value.bool (decide (i5.2.2<0))=Value.bool (decide (n<0)))/\(L i5.2.2.natAbs=L n.natAbs)))))))) (by kernel_rfl) ?_
 delta wR
 refine ⟨λ c1=>?_,λ c1=>?_⟩
 ·try simp only [nrm] at c1
  refine ⟨(true,9223372036854775808,n),by
   rw [minL];rfl,by
   show nl 9223372036854775808<=60/\zOf true 9223372036854775808=n
   exact ⟨Nat.le_trans ((nl_le' 3 _).2 (by decide)) (by decide),by unfold zOf;rw [if_pos rfl];omega⟩,?_⟩
  exact ⟨rfl,rfl⟩
 try simp only [nrm] at c1
 refine ⟨λ c7=>?_,λ c7=>?_⟩
 ·try simp only [nrm] at c7
  have en:IntKind.i64.wrap (0-n)=(((-n).toNat:Nat):Int):=by rw [wrap64 (by omega) (by omega)];omega
  have ea:n.natAbs=(-n).toNat:=by omega
  refine ⟨(-n).toNat,by
   rw [en];rfl,by
   show ((-n).toNat)<=9223372036854775807
   omega,?_⟩
  refine ⟨(true,(-n).toNat,n),by
   rfl,by
   show nl ((-n).toNat)<=60/\zOf true ((-n).toNat)=n
   exact ⟨Nat.le_trans (by rw [← ea];exact int_nl hpre) (by decide),by unfold zOf;rw [if_pos rfl];omega⟩,?_⟩
  exact ⟨rfl,rfl⟩
 try simp only [nrm] at c7
 have en:n=((n.toNat:Nat):Int):=by omega
 have ea:n.natAbs=n.toNat:=by omega
 refine ⟨n.toNat,by
  show [DA.one (DC.im (Value.int .i64 n))]=[DA.one (DC.im (Value.int .i64 ((n.toNat:Nat):Int)))]
  rw [← en],by
  show n.toNat<=9223372036854775807
  omega,?_⟩
 refine ⟨(false,n.toNat,n),by
  rfl,by
  show nl n.toNat<=60/\zOf false n.toNat=n
  exact ⟨Nat.le_trans (by rw [← ea];exact int_nl hpre) (by decide),by unfold zOf;rw [if_neg (by decide)];omega⟩,?_⟩
 exact ⟨rfl,rfl⟩
def l03Add_con:Con:={ ι:=Int×Int,pre:=λ i=>nl i.1.natAbs<=59/\nl i.2.natAbs<=59,args:=λ i=>[.agg [.im (.bool (decide (i.1<0))),.sl 3 [.int] (L i.1.natAbs)],.agg [.im (.bool (decide (i.2<0))),.sl 3 [.int] (L i.2.natAbs)]],res:=λ i=>⟨false,[some 2],[.im (Value.bool (decide ((i.1+i.2)<0))),.own 3 [.int] (L (i.1+i.2).natAbs)]⟩ }
theorem l03Add_ok:l03Add_con.Ok Tryz.prog 174:=by
 refine fok (X:=⟨tt,[(185,l02Add_con),(139,l03Make_con),(168,l02Cmp_con),(172,l02Sub_con)],[],40,[]⟩) mixed tt_ok (CTok.cons l02Add_ok (CTok.cons l03Make_ok (CTok.cons l02Cmp_ok (CTok.cons l02Sub_ok (CTok.nil _))))) Tryz.func174 (λ _=>[]) ?_
 rintro ⟨x,y⟩ hpre
 have hpre:nl x.natAbs<=59/\nl y.natAbs<=59:=hpre
 refine by_nf (q:=(((decide (x<0)) == (decide (y<0)))=true->(∃ i1:Nat×Nat,[DA.one (cS (L x.natAbs)),DA.one (cS (L y.natAbs))]=l02Add_con.args i1/\l02Add_con.pre i1/\(∃ i2:Bool×Nat×Int,[DA.one (cB (decide (x<0))),DA.one (cS (L (i1.1+i1.2)))]=l03Make_con.args i2/\l03Make_con.pre i2/\((Value.bool (decide (i2.2.2<0))=Value.bool (decide ((x+y)<0)))/\(L i2.2.2.natAbs=L (x+y).natAbs)))))/\(((decide (x<0)) == (decide (y<0)))=false->(∃ i3:Nat×Nat,[DA.one (cS (L x.natAbs)),DA.one (cS (L y.natAbs))]=l02Cmp_con.args i3/\l02Cmp_con.pre i3/\(((decide ((cmpN i3.1 i3.2)≥(0:Int)))=true->(∃ i4:Nat×Nat,[DA.one (cS (L x.natAbs)),DA.one (cS (L y.natAbs))]=l02Sub_con.args i4/\l02Sub_con.pre i4/\(∃ i5:Bool×Nat×Int,[DA.one (cB (decide (x<0))),DA.one (cS (L (i4.1-i4.2)))]=l03Make_con.args i5/\l03Make_con.pre i5/\((Value.bool (decide (i5.2.2<0))=Value.bool (decide ((x+y)<0)))/\(L i5.2.2.natAbs=L (x+y).natAbs)))))/\((decide ((cmpN i3.1 i3.2)≥(0:Int)))=false->(∃ i6:Nat×Nat,[DA.one (cS (L y.natAbs)),DA.one (cS (L x.natAbs))]=l02Sub_con.args i6/\l02Sub_con.pre i6/\(∃ i7:Bool×Nat×Int,[DA.one (cB (decide (y<0))),DA.one (cS (L (i6.1-i6.2)))]=l03Make_con.args i7/\l03Make_con.pre i7/\((Value.bool (decide (i7.2.2<0))=Value.bool (decide ((x+y)<0)))/\(L i7.2.2.natAbs=L (x+y).natAbs))))))))) (by kernel_rfl) ?_
 have hs:=nl_add_le x.natAbs y.natAbs
 have hs1:=nl_mono (Nat.sub_le x.natAbs y.natAbs)
 have hs2:=nl_mono (Nat.sub_le y.natAbs x.natAbs)
 refine ⟨λ c1=>?_,λ c1=>?_⟩
 ·try simp only [nrm] at c1
  refine ⟨(x.natAbs,y.natAbs),by
   rfl,by
   show nl x.natAbs<=1048576/\nl y.natAbs<=1048576
   exact ⟨by omega,by omega⟩,?_⟩
  refine ⟨(decide (x<0),x.natAbs+y.natAbs,x+y),by
   rfl,by
   show nl (x.natAbs+y.natAbs)<=60/\zOf (decide (x<0)) (x.natAbs+y.natAbs)=(x+y)
   exact ⟨by omega,zOf_add1 c1⟩,?_⟩
  exact ⟨rfl,rfl⟩
 try simp only [nrm] at c1
 refine ⟨(x.natAbs,y.natAbs),by
  rfl,by
  show nl x.natAbs<=1048576/\nl y.natAbs<=1048576
  exact ⟨by omega,by omega⟩,?_⟩
 refine ⟨λ c13=>?_,λ c13=>?_⟩
 ·replace c13:(decide ((cmpN x.natAbs y.natAbs)≥(0:Int)))=true:=c13
  try simp only [nrm] at c13
  refine ⟨(x.natAbs,y.natAbs),by
   rfl,by
   show nl x.natAbs<=1048576/\nl y.natAbs<=1048576/\y.natAbs<=x.natAbs
   exact ⟨by omega,by omega,cmpN_ge0.1 c13⟩,?_⟩
  refine ⟨(decide (x<0),x.natAbs-y.natAbs,x+y),by
   rfl,by
   show nl (x.natAbs-y.natAbs)<=60/\zOf (decide (x<0)) (x.natAbs-y.natAbs)=(x+y)
   exact ⟨by omega,zOf_add2 c1 (cmpN_ge0.1 c13)⟩,?_⟩
  exact ⟨rfl,rfl⟩
 replace c13:(decide ((cmpN x.natAbs y.natAbs)≥(0:Int)))=false:=c13
 try simp only [nrm] at c13
 refine ⟨(y.natAbs,x.natAbs),by
  rfl,by
  show nl y.natAbs<=1048576/\nl x.natAbs<=1048576/\x.natAbs<=y.natAbs
  exact ⟨by omega,by omega,Nat.le_of_lt (cmpN_lt0.1 c13)⟩,?_⟩
 refine ⟨(decide (y<0),y.natAbs-x.natAbs,x+y),by
  rfl,by
  show nl (y.natAbs-x.natAbs)<=60/\zOf (decide (y<0)) (y.natAbs-x.natAbs)=(x+y)
  exact ⟨by omega,zOf_add3 c1 (Nat.le_of_lt (cmpN_lt0.1 c13))⟩,?_⟩
 exact ⟨rfl,rfl⟩
def l03Cmp_con:Con:={ ι:=Int×Int,pre:=λ i=>nl i.1.natAbs<=59/\nl i.2.natAbs<=59,args:=λ i=>[.agg [.im (.bool (decide (i.1<0))),.sl 3 [.int] (L i.1.natAbs)],.agg [.im (.bool (decide (i.2<0))),.sl 3 [.int] (L i.2.natAbs)]],res:=λ i=>⟨false,[none],[.im (Value.int .i64 (cmpI i.1 i.2))]⟩ }
theorem l03Cmp_ok:l03Cmp_con.Ok Tryz.prog 141:=by
 refine fok (X:=⟨tt,[(168,l02Cmp_con)],[],34,[]⟩) mixed tt_ok (CTok.cons l02Cmp_ok (CTok.nil _)) Tryz.func141 (λ _=>[]) ?_
 rintro ⟨x,y⟩ hpre
 have hpre:nl x.natAbs<=59/\nl y.natAbs<=59:=hpre
 refine by_nf (q:=(decide (x<0)=true->(((!(decide (y<0)))=true->((vI (-1:Int)=vI (cmpI x y))))/\((!(decide (y<0)))=false->(((!(decide (x<0)))=true->((decide (y<0)=true->((vI (1:Int)=vI (cmpI x y))))/\(decide (y<0)=false->((decide (x<0)=true->(∃ i1:Nat×Nat,[DA.one (cS (L y.natAbs)),DA.one (cS (L x.natAbs))]=l02Cmp_con.args i1/\l02Cmp_con.pre i1/\((vI (cmpN i1.1 i1.2)=vI (cmpI x y)))))/\(decide (x<0)=false->(∃ i2:Nat×Nat,[DA.one (cS (L x.natAbs)),DA.one (cS (L y.natAbs))]=l02Cmp_con.args i2/\l02Cmp_con.pre i2/\((vI (cmpN i2.1 i2.2)=vI (cmpI x y)))))))))/\((!(decide (x<0)))=false->((decide (x<0)=true->(∃ i3:Nat×Nat,[DA.one (cS (L y.natAbs)),DA.one (cS (L x.natAbs))]=l02Cmp_con.args i3/\l02Cmp_con.pre i3/\((vI (cmpN i3.1 i3.2)=vI (cmpI x y)))))/\(decide (x<0)=false->(∃ i4:Nat×Nat,[DA.one (cS (L x.natAbs)),DA.one (cS (L y.natAbs))]=l02Cmp_con.args i4/\l02Cmp_con.pre i4/\((vI (cmpN i4.1 i4.2)=vI (cmpI x y)))))))))))/\(decide (x<0)=false->(((!(decide (x<0)))=true->((decide (y<0)=true->((vI (1:Int)=vI (cmpI x y))))/\(decide (y<0)=false->((decide (x<0)=true->(∃ i5:Nat×Nat,[DA.one (cS (L y.natAbs)),DA.one (cS (L x.natAbs))]=l02Cmp_con.args i5/\l02Cmp_con.pre i5/\((vI (cmpN i5.1 i5.2)=vI (cmpI x y)))))/\(decide (x<0)=false->(∃ i6:Nat×Nat,[DA.one (cS (L x.natAbs)),DA.one (cS (L y.natAbs))]=l02Cmp_con.args i6/\l02Cmp_con.pre i6/\((vI (cmpN i6.1 i6.2)=vI (cmpI x y)))))))))/\((!(decide (x<0)))=false->((decide (x<0)=true->(∃ i7:Nat×Nat,[DA.one (cS (L y.natAbs)),DA.one (cS (L x.natAbs))]=l02Cmp_con.args i7/\l02Cmp_con.pre i7/\((vI (cmpN i7.1 i7.2)=vI (cmpI x y)))))/\(decide (x<0)=false->(∃ i8:Nat×Nat,[DA.one (cS (L x.natAbs)),DA.one (cS (L y.natAbs))]=l02Cmp_con.args i8/\l02Cmp_con.pre i8/\((vI (cmpN i8.1 i8.2)=vI (cmpI x y)))))))))) (by kernel_rfl) ?_
 delta vI
 refine And.symm ⟨λ c1=>?_,λ c1=>?_⟩
 ·try simp only [nrm] at c1
  refine And.symm ⟨λ c25=>?_,λ c25=>?_⟩
  ·try simp only [nrm] at c25
   refine ⟨λ c37=>?_,λ c37=>?_⟩
   ·try simp only [nrm] at c37
    refine ⟨(y.natAbs,x.natAbs),by
     rfl,by
     exact ⟨by omega,by omega⟩,?_⟩
    exfalso;omega
   try simp only [nrm] at c37
   refine ⟨(x.natAbs,y.natAbs),by
    rfl,by
    exact ⟨by omega,by omega⟩,?_⟩
   exfalso;omega
  try simp only [nrm] at c25
  refine ⟨λ c26=>?_,λ c26=>?_⟩
  ·try simp only [nrm] at c26
   rw [← cmpI_pn (by omega) (by omega)]
  try simp only [nrm] at c26
  refine ⟨λ c28=>?_,λ c28=>?_⟩
  ·try simp only [nrm] at c28
   refine ⟨(y.natAbs,x.natAbs),by
    rfl,by
    exact ⟨by omega,by omega⟩,?_⟩
   exfalso;omega
  try simp only [nrm] at c28
  refine ⟨(x.natAbs,y.natAbs),by
   rfl,by
   show nl x.natAbs<=1048576/\nl y.natAbs<=1048576
   exact ⟨by omega,by omega⟩,?_⟩
  rw [cmpI_pp (by omega) (by omega)]
 try simp only [nrm] at c1
 refine ⟨λ c2=>?_,λ c2=>?_⟩
 ·try simp only [nrm] at c2
  rw [← cmpI_np (by omega) (by omega)]
 try simp only [nrm] at c2
 refine And.symm ⟨λ c4=>?_,λ c4=>?_⟩
 ·try simp only [nrm] at c4
  refine And.symm ⟨λ c16=>?_,λ c16=>?_⟩
  ·try simp only [nrm] at c16
   refine ⟨(x.natAbs,y.natAbs),by
    rfl,by
    exact ⟨by omega,by omega⟩,?_⟩
   exfalso;omega
  try simp only [nrm] at c16
  refine ⟨(y.natAbs,x.natAbs),by
   rfl,by
   show nl y.natAbs<=1048576/\nl x.natAbs<=1048576
   exact ⟨by omega,by omega⟩,?_⟩
  rw [cmpI_nn (by omega) (by omega)]
 try simp only [nrm] at c4
 refine ⟨λ c5=>?_,λ c5=>?_⟩
 ·try simp only [nrm] at c5
  exfalso;omega
 try simp only [nrm] at c5
 refine ⟨λ c7=>?_,λ c7=>?_⟩
 ·try simp only [nrm] at c7
  refine ⟨(y.natAbs,x.natAbs),by
   rfl,by
   exact ⟨by omega,by omega⟩,?_⟩
  exfalso;omega
 try simp only [nrm] at c7
 refine ⟨(x.natAbs,y.natAbs),by
  rfl,by
  exact ⟨by omega,by omega⟩,?_⟩
 exfalso;omega
def l04One_con:Con:={ ι:=Nat,pre:=λ i=>True,args:=λ i=>[.one (.sl 3 [.int] (L i))],res:=λ i=>⟨false,[none],[.im (Value.bool (decide (i=1)))]⟩ }
theorem l04One_ok:l04One_con.Ok Tryz.prog 100:=by
 refine fok (X:=⟨tt,[],[],12,[]⟩) mixed tt_ok (CTok.nil _) Tryz.func100 (λ _=>[]) ?_
 intro (a:Nat) hpre
 have hpre:True:=hpre
 refine by_nf (q:=(((nI ((L a).length)) == (1:Int))=true->((0<=(0:Int)/\(0:Int)<((L a).length:Int))/\((0<(L a).length)/\((Value.bool (((((L a).getD 0 []).getD 0 (.int 0))).n == (1:Int))=Value.bool (decide (a=1)))))))/\(((nI ((L a).length)) == (1:Int))=false->((Value.bool false=Value.bool (decide (a=1)))))) (by kernel_rfl) ?_
 delta nI
 have ha:=L_len a
 refine And.symm ⟨λ c1=>?_,λ c1=>?_⟩
 ·try simp only [nrm] at c1
  exact congrArg Value.bool (decide_eq_false (λ e=>by subst e;rw [one_nl] at ha;omega)).symm
 try simp only [nrm] at c1
 have h1:=one_limb (b:=a) (by omega)
 refine ao (by omega) λ o2=>?_
 refine ao (by omega) λ o3=>?_
 rw [L_n,h1.1]
 exact congrArg Value.bool (by rw [Bool.eq_iff_iff,beq_iff_eq,decide_eq_true_iff];omega)
def l04Low_con:Con:={ ι:=Bool×Nat×Nat×Int,pre:=λ i=>nl i.2.1<=1000/\nl i.2.2.1<=1000/\zOf i.1 i.2.1=i.2.2.2,args:=λ i=>[.one (.im (.bool i.1)),.one (.sl 3 [.int] (L i.2.1)),.one (.sl 3 [.int] (L i.2.2.1))],res:=λ i=>⟨false,[some 3],[.im (Value.bool (decide ((lowR i.2.2.2 i.2.2.1).z<0))),.own 3 [.int] (L (lowR i.2.2.2 i.2.2.1).z.natAbs),.own 3 [.int] (L (lowR i.2.2.2 i.2.2.1).d)]⟩ }
theorem l04Low_ok:l04Low_con.Ok Tryz.prog 173:=by
 refine fok (X:=⟨tt,[(170,l02Trim_con),(100,l04One_con),(101,l02Gcd_con),(134,l02Div_con),(139,l03Make_con)],[],55,[]⟩) mixed tt_ok (CTok.cons l02Trim_ok (CTok.cons l04One_ok (CTok.cons l02Gcd_ok (CTok.cons l02Div_ok (CTok.cons l03Make_ok (CTok.nil _)))))) Tryz.func173 (λ _=>[]) ?_
 rintro ⟨neg,m,d,z⟩ hpre
 have hpre:nl m<=1000/\nl d<=1000/\zOf neg m=z:=hpre
 refine by_nf (q:=∃ i1:(List Nat)×Nat,[DA.one (cS (L m))]=l02Trim_con.args i1/\l02Trim_con.pre i1/\(∃ i2:(List Nat)×Nat,[DA.one (cS (L d))]=l02Trim_con.args i2/\l02Trim_con.pre i2/\((((nI ((L i2.2).length)) == (0:Int))=true->((eqN (lowR z d))))/\(((nI ((L i2.2).length)) == (0:Int))=false->(∃ i3:Nat,[DA.one (cS (L i2.2))]=l04One_con.args i3/\l04One_con.pre i3/\(((!(decide (i3=1)))=true->(∃ i4:Nat×Nat,[DA.one (cS (L i1.2)),DA.one (cS (L i2.2))]=l02Gcd_con.args i4/\l02Gcd_con.pre i4/\(∃ i5:Nat,[DA.one (cS (L (i4.1.gcd i4.2)))]=l04One_con.args i5/\l04One_con.pre i5/\(((!(decide (i5=1)))=true->(∃ i6:Nat×Nat,[DA.one (cS (L i1.2)),DA.one (cS (L (i4.1.gcd i4.2)))]=l02Div_con.args i6/\l02Div_con.pre i6/\(∃ i7:Nat×Nat,[DA.one (cS (L i2.2)),DA.one (cS (L (i4.1.gcd i4.2)))]=l02Div_con.args i7/\l02Div_con.pre i7/\(((!(decide ((nI ((L (i6.1/i6.2)).length))>(24:Int))))=true->(((decide ((nI ((L (i7.1/i7.2)).length))>(24:Int)))=true->((eqN (lowR z d))))/\((decide ((nI ((L (i7.1/i7.2)).length))>(24:Int)))=false->(∃ i8:Bool×Nat×Int,[DA.one (cB neg),DA.one (cS (L (i6.1/i6.2)))]=l03Make_con.args i8/\l03Make_con.pre i8/\((([]:List (List Dat)).length+(L (i7.1/i7.2)).length<=1073741824)/\((Value.bool (decide (i8.2.2<0))=Value.bool (decide ((lowR z d).z<0)))/\(L i8.2.2.natAbs=L (lowR z d).z.natAbs)/\((([]:List (List Dat))++L (i7.1/i7.2))=L (lowR z d).d)))))))/\((!(decide ((nI ((L (i6.1/i6.2)).length))>(24:Int))))=false->((eqN (lowR z d))))))))/\((!(decide (i5=1)))=false->(((!(decide ((nI ((L i1.2).length))>(24:Int))))=true->(((decide ((nI ((L i2.2).length))>(24:Int)))=true->((eqN (lowR z d))))/\((decide ((nI ((L i2.2).length))>(24:Int)))=false->(∃ i9:Bool×Nat×Int,[DA.one (cB neg),DA.one (cS (L i1.2))]=l03Make_con.args i9/\l03Make_con.pre i9/\((([]:List (List Dat)).length+(L i2.2).length<=1073741824)/\((Value.bool (decide (i9.2.2<0))=Value.bool (decide ((lowR z d).z<0)))/\(L i9.2.2.natAbs=L (lowR z d).z.natAbs)/\((([]:List (List Dat))++L i2.2)=L (lowR z d).d)))))))/\((!(decide ((nI ((L i1.2).length))>(24:Int))))=false->((eqN (lowR z d))))))))))/\((!(decide (i3=1)))=false->(((!(decide ((nI ((L i1.2).length))>(24:Int))))=true->(((decide ((nI ((L i2.2).length))>(24:Int)))=true->((eqN (lowR z d))))/\((decide ((nI ((L i2.2).length))>(24:Int)))=false->(∃ i10:Bool×Nat×Int,[DA.one (cB neg),DA.one (cS (L i1.2))]=l03Make_con.args i10/\l03Make_con.pre i10/\((([]:List (List Dat)).length+(L i2.2).length<=1073741824)/\((Value.bool (decide (i10.2.2<0))=Value.bool (decide ((lowR z d).z<0)))/\(L i10.2.2.natAbs=L (lowR z d).z.natAbs)/\((([]:List (List Dat))++L i2.2)=L (lowR z d).d)))))))/\((!(decide ((nI ((L i1.2).length))>(24:Int))))=false->((eqN (lowR z d)))))))))))) (by kernel_rfl) ?_
 delta nI
 refine ⟨(dig m,m),by
  rfl,by
  exact ⟨by show nl _<=_;omega,dig_lt _,limbs_dig _⟩,?_⟩
 refine ⟨(dig d,d),by
  rfl,by
  exact ⟨by show nl _<=_;omega,dig_lt _,limbs_dig _⟩,?_⟩
 refine ⟨λ c7=>?_,λ c7=>?_⟩
 ·replace c7:((((L d).length:Nat):Int) == (0:Int))=true:=c7
  try simp only [nrm] at c7
  have hE:lowR z d=Fr.none:=low_no (zero_of_len (by omega))
  refine eqN_of ?_
  rw [hE];done
 replace c7:((((L d).length:Nat):Int) == (0:Int))=false:=c7
 try simp only [nrm] at c7
 have hd:d≠0:=λ e=>by subst e;rw [L_len,nl_zero] at c7;omega
 have hg:=gcd_bnd (a:=m) hd
 refine ⟨d,by
  rfl,by
  trivial,?_⟩
 refine And.symm ⟨λ c14=>?_,λ c14=>?_⟩
 ·try simp only [nrm] at c14
  have e1:m.gcd d=1:=by rw [c14];exact Nat.gcd_one_right _
  have eM:m/m.gcd d=m:=by rw [e1,Nat.div_one]
  have eD:d/m.gcd d=d:=by rw [e1,Nat.div_one]
  have lm:=L_len m
  have ld:=L_len d
  refine And.symm ⟨λ c58=>?_,λ c58=>?_⟩
  ·replace c58:(!(decide ((((L m).length:Nat):Int)>(24:Int))))=false:=c58
   try simp only [nrm] at c58
   refine eqN_of ?_
   rw [low_unfit hpre.2.2 hd eM eD (by omega)];done
  replace c58:(!(decide ((((L m).length:Nat):Int)>(24:Int))))=true:=c58
  try simp only [nrm] at c58
  refine ⟨λ c59=>?_,λ c59=>?_⟩
  ·replace c59:(decide ((((L d).length:Nat):Int)>(24:Int)))=true:=c59
   try simp only [nrm] at c59
   refine eqN_of ?_
   rw [low_unfit hpre.2.2 hd eM eD (by omega)];done
  replace c59:(decide ((((L d).length:Nat):Int)>(24:Int)))=false:=c59
  try simp only [nrm] at c59
  refine ⟨(neg,m,(zOf neg m)),by
   rfl,by
   show nl m<=60/\zOf neg m=(zOf neg m)
   exact ⟨by omega,by omega⟩,?_⟩
  refine ao (a:=([]:List (List Dat)).length+(L d).length<=1073741824) (by simp only [List.length_nil];omega) λ o66=>?_
  refine ⟨?_,?_,?_⟩
  ·rw [(low_fit hpre.2.2 hd eM eD (by omega) (by omega)).1];done
  ·rw [(low_fit hpre.2.2 hd eM eD (by omega) (by omega)).1];done
  rw [(low_fit hpre.2.2 hd eM eD (by omega) (by omega)).2];exact List.nil_append _
 try simp only [nrm] at c14
 refine ⟨(m,d),by
  rfl,by
  show nl m<=131072/\nl d<=131072
  exact ⟨by omega,by omega⟩,?_⟩
 refine ⟨(m.gcd d),by
  rfl,by
  trivial,?_⟩
 refine And.symm ⟨λ c21=>?_,λ c21=>?_⟩
 ·try simp only [nrm] at c21
  have e1:m.gcd d=1:=c21
  have eM:m/m.gcd d=m:=by rw [e1,Nat.div_one]
  have eD:d/m.gcd d=d:=by rw [e1,Nat.div_one]
  have lm:=L_len m
  have ld:=L_len d
  refine And.symm ⟨λ c43=>?_,λ c43=>?_⟩
  ·replace c43:(!(decide ((((L m).length:Nat):Int)>(24:Int))))=false:=c43
   try simp only [nrm] at c43
   refine eqN_of ?_
   rw [low_unfit hpre.2.2 hd eM eD (by omega)];done
  replace c43:(!(decide ((((L m).length:Nat):Int)>(24:Int))))=true:=c43
  try simp only [nrm] at c43
  refine ⟨λ c44=>?_,λ c44=>?_⟩
  ·replace c44:(decide ((((L d).length:Nat):Int)>(24:Int)))=true:=c44
   try simp only [nrm] at c44
   refine eqN_of ?_
   rw [low_unfit hpre.2.2 hd eM eD (by omega)];done
  replace c44:(decide ((((L d).length:Nat):Int)>(24:Int)))=false:=c44
  try simp only [nrm] at c44
  refine ⟨(neg,m,(zOf neg m)),by
   rfl,by
   show nl m<=60/\zOf neg m=(zOf neg m)
   exact ⟨by omega,by omega⟩,?_⟩
  refine ao (a:=([]:List (List Dat)).length+(L d).length<=1073741824) (by simp only [List.length_nil];omega) λ o51=>?_
  refine ⟨?_,?_,?_⟩
  ·rw [(low_fit hpre.2.2 hd eM eD (by omega) (by omega)).1];done
  ·rw [(low_fit hpre.2.2 hd eM eD (by omega) (by omega)).1];done
  rw [(low_fit hpre.2.2 hd eM eD (by omega) (by omega)).2];exact List.nil_append _
 try simp only [nrm] at c21
 have eM:m/m.gcd d=m/m.gcd d:=rfl
 have eD:d/m.gcd d=d/m.gcd d:=rfl
 have lm:=L_len (m/m.gcd d)
 have ld:=L_len (d/m.gcd d)
 refine ⟨(m,(m.gcd d)),by
  rfl,by
  show (m.gcd d)≠0/\nl m<=131072/\nl (m.gcd d)<=131072
  exact ⟨by omega,by omega⟩,?_⟩
 refine ⟨(d,(m.gcd d)),by
  rfl,by
  show (m.gcd d)≠0/\nl d<=131072/\nl (m.gcd d)<=131072
  exact ⟨by omega,by omega⟩,?_⟩
 refine And.symm ⟨λ c28=>?_,λ c28=>?_⟩
 ·replace c28:(!(decide ((((L (m/(m.gcd d))).length:Nat):Int)>(24:Int))))=false:=c28
  try simp only [nrm] at c28
  refine eqN_of ?_
  rw [low_unfit hpre.2.2 hd eM eD (by omega)];done
 replace c28:(!(decide ((((L (m/(m.gcd d))).length:Nat):Int)>(24:Int))))=true:=c28
 try simp only [nrm] at c28
 refine ⟨λ c29=>?_,λ c29=>?_⟩
 ·replace c29:(decide ((((L (d/(m.gcd d))).length:Nat):Int)>(24:Int)))=true:=c29
  try simp only [nrm] at c29
  refine eqN_of ?_
  rw [low_unfit hpre.2.2 hd eM eD (by omega)];done
 replace c29:(decide ((((L (d/(m.gcd d))).length:Nat):Int)>(24:Int)))=false:=c29
 try simp only [nrm] at c29
 refine ⟨(neg,(m/(m.gcd d)),(zOf neg (m/(m.gcd d)))),by
  rfl,by
  show nl (m/(m.gcd d))<=60/\zOf neg (m/(m.gcd d))=(zOf neg (m/(m.gcd d)))
  exact ⟨by omega,by omega⟩,?_⟩
 refine ao (a:=([]:List (List Dat)).length+(L (d/(m.gcd d))).length<=1073741824) (by simp only [List.length_nil];omega) λ o36=>?_
 refine ⟨?_,?_,?_⟩
 ·rw [(low_fit hpre.2.2 hd eM eD (by omega) (by omega)).1];done
 ·rw [(low_fit hpre.2.2 hd eM eD (by omega) (by omega)).1];done
 rw [(low_fit hpre.2.2 hd eM eD (by omega) (by omega)).2];exact List.nil_append _
def sRatOk_con:Con:={ ι:=Bool×(List (List Dat))×(List (List Dat))×Bool,pre:=λ i=>Dat.has (.sl 3 [.int]) (.sl i.2.1)/\Dat.has (.sl 3 [.int]) (.sl i.2.2.1)/\i.2.1.length<=9223372036854775807/\i.2.2.1.length<=9223372036854775807/\ratOkR i.1 i.2.1 i.2.2.1=i.2.2.2,args:=λ i=>[.agg [.im (.bool i.1),.sl 3 [.int] i.2.1,.sl 3 [.int] i.2.2.1]],res:=λ i=>⟨false,[none],[.im (Value.bool i.2.2.2)]⟩ }
theorem sRatOk_ok:sRatOk_con.Ok Tryz.prog 78:=by
 refine fok (X:=⟨tt,[(98,sBigIntOk_con),(99,sNatOk_con),(101,l02Gcd_con),(100,l04One_con)],[],39,[]⟩) mixed tt_ok (CTok.cons sBigIntOk_ok (CTok.cons sNatOk_ok (CTok.cons l02Gcd_ok (CTok.cons l04One_ok (CTok.nil _))))) Tryz.func78 (λ _=>[]) ?_
 rintro ⟨neg,m,d,b⟩ hpre
 have hpre:Dat.has (.sl 3 [.int]) (.sl m)/\Dat.has (.sl 3 [.int]) (.sl d)/\m.length<=9223372036854775807/\d.length<=9223372036854775807/\ratOkR neg m d=b:=hpre
 refine by_nf (q:=∃ i1:Bool×(List (List Dat)),[DA.agg [cB neg,cS m]]=sBigIntOk_con.args i1/\sBigIntOk_con.pre i1/\(((!(!(bigOkR i1.1 i1.2)))=true->(∃ i2:(List (List Dat)),[DA.one (cS d)]=sNatOk_con.args i2/\sNatOk_con.pre i2/\(((!(!(natOkR i2)))=true->(((!((nI d.length) == (0:Int)))=true->(((!(decide ((nI d.length)>(24:Int))))=true->(((decide ((nI m.length)>(24:Int)))=true->((Value.bool false=Value.bool b)))/\((decide ((nI m.length)>(24:Int)))=false->(∃ i3:Nat×Nat,[DA.one (cS m),DA.one (cS d)]=l02Gcd_con.args i3/\l02Gcd_con.pre i3/\(∃ i4:Nat,[DA.one (cS (L (i3.1.gcd i3.2)))]=l04One_con.args i4/\l04One_con.pre i4/\((Value.bool (decide (i4=1))=Value.bool b)))))))/\((!(decide ((nI d.length)>(24:Int))))=false->((Value.bool false=Value.bool b)))))/\((!((nI d.length) == (0:Int)))=false->((Value.bool false=Value.bool b)))))/\((!(!(natOkR i2)))=false->((Value.bool false=Value.bool b))))))/\((!(!(bigOkR i1.1 i1.2)))=false->((Value.bool false=Value.bool b))))) (by kernel_rfl) ?_
 delta nI
 refine ⟨(neg,m),by
  rfl,by
  show m.length<=9223372036854775807
  omega,?_⟩
 refine And.symm ⟨λ c4=>?_,λ c4=>?_⟩
 ·replace c4:(!(!(bigOkR neg m)))=false:=c4
  try simp only [nrm] at c4
  have hE:false=b:=by rw [← hpre.2.2.2.2];exact (ratOkR_no (.inl c4)).symm
  rw [hE]
 replace c4:(!(!(bigOkR neg m)))=true:=c4
 try simp only [nrm] at c4
 refine ⟨d,by
  rfl,by
  show d.length<=9223372036854775807
  omega,?_⟩
 refine And.symm ⟨λ c8=>?_,λ c8=>?_⟩
 ·try simp only [nrm] at c8
  have hE:false=b:=by rw [← hpre.2.2.2.2];exact (ratOkR_no (.inr (.inl c8))).symm
  rw [hE]
 try simp only [nrm] at c8
 refine And.symm ⟨λ c9=>?_,λ c9=>?_⟩
 ·try simp only [nrm] at c9
  have hE:false=b:=by rw [← hpre.2.2.2.2];exact (ratOkR_no (.inr (.inr (.inl (by omega))))).symm
  rw [hE]
 try simp only [nrm] at c9
 refine And.symm ⟨λ c10=>?_,λ c10=>?_⟩
 ·try simp only [nrm] at c10
  have hE:false=b:=by rw [← hpre.2.2.2.2];exact (ratOkR_no (.inr (.inr (.inr (.inr (by omega)))))).symm
  rw [hE]
 try simp only [nrm] at c10
 refine ⟨λ c11=>?_,λ c11=>?_⟩
 ·try simp only [nrm] at c11
  have hE:false=b:=by rw [← hpre.2.2.2.2];exact (ratOkR_no (.inr (.inr (.inr (.inl (by omega)))))).symm
  rw [hE]
 try simp only [nrm] at c11
 obtain ⟨x,ea,na⟩:=natOkR_inv hpre.1 (bigOkR_nat c4)
 obtain ⟨y,eb,nb⟩:=natOkR_inv hpre.2.1 c8
 have hR:=ratOkR_yes c4 c8 (by omega) (by omega) (by omega)
 refine ⟨(x,y),by
  rw [ea,eb];rfl,by
  show nl x<=131072/\nl y<=131072
  exact ⟨by omega,by omega⟩,?_⟩
 refine ⟨(x.gcd y),by
  rfl,by
  trivial,?_⟩
 rw [← hpre.2.2.2.2,hR,ea,eb,valR_L,valR_L]
def sRatFromInt_con:Con:={ ι:=Int,pre:=λ i=>-9223372036854775808<=i/\i<=9223372036854775807,args:=λ i=>[.one (.im (.int .i64 i))],res:=λ i=>⟨false,[some 3],[.im (Value.bool (decide ((Fr.ofInt i).z<0))),.own 3 [.int] (L (Fr.ofInt i).z.natAbs),.own 3 [.int] (L (Fr.ofInt i).d)]⟩ }
theorem sRatFromInt_ok:sRatFromInt_con.Ok Tryz.prog 81:=by
 refine fok (X:=⟨tt,[(107,sBigIntOf_con)],[],7,[]⟩) mixed tt_ok (CTok.cons sBigIntOf_ok (CTok.nil _)) Tryz.func81 (λ _=>[]) ?_
 intro (n:Int) hpre
 have hpre:-9223372036854775808<=n/\n<=9223372036854775807:=hpre
 refine by_nf (q:=∃ i1:Int,[DA.one (cI n)]=sBigIntOf_con.args i1/\sBigIntOf_con.pre i1/\((Value.bool (decide (i1<0))=Value.bool (decide ((Fr.ofInt n).z<0)))/\(L i1.natAbs=L (Fr.ofInt n).z.natAbs)/\(([[Dat.int (1:Int)]]:List (List Dat))=L (Fr.ofInt n).d))) (by kernel_rfl) ?_
 refine ⟨n,by
  rfl,by
  exact hpre,?_⟩
 refine ⟨?_,?_,?_⟩
 ·rw [(ofInt_zd (int_nl hpre)).1];done
 ·rw [(ofInt_zd (int_nl hpre)).1];done
 rw [(ofInt_zd (int_nl hpre)).2];exact one_L
def l04Neg_con:Con:={ ι:=Fr,pre:=λ i=>True,args:=λ i=>[.agg [.im (.bool (decide (i.z<0))),.sl 3 [.int] (L i.z.natAbs),.sl 3 [.int] (L i.d)]],res:=λ i=>⟨false,[some 3],[.im (Value.bool (decide (i.opp.z<0))),.own 3 [.int] (L i.opp.z.natAbs),.own 3 [.int] (L i.opp.d)]⟩ }
theorem l04Neg_ok:l04Neg_con.Ok Tryz.prog 137:=by
 refine fok (X:=⟨tt,[(139,l03Make_con)],[],16,[]⟩) mixed tt_ok (CTok.cons l03Make_ok (CTok.nil _)) Tryz.func137 (λ _=>[]) ?_
 intro (r:Fr) hpre
 have hpre:True:=hpre
 refine by_nf (q:=∃ i1:Bool×Nat×Int,[DA.one (cB (!(decide (r.z<0)))),DA.one (cS (L r.z.natAbs))]=l03Make_con.args i1/\l03Make_con.pre i1/\((([]:List (List Dat)).length+(L r.d).length<=1073741824)/\((Value.bool (decide (i1.2.2<0))=Value.bool (decide (r.opp.z<0)))/\(L i1.2.2.natAbs=L r.opp.z.natAbs)/\((([]:List (List Dat))++(L r.d))=L r.opp.d)))) (by kernel_rfl) ?_
 have h1:=r.nlz
 have h2:=r.nld
 have lr:=L_len r.d
 have lz:=L_len r.z.natAbs
 refine ⟨(!(decide (r.z<0)),r.z.natAbs,-r.z),by
  rfl,by
  show nl r.z.natAbs<=60/\zOf (!(decide (r.z<0))) r.z.natAbs=(-r.z)
  exact ⟨by omega,zOf_opp _⟩,?_⟩
 refine ao (by simp only [List.length_nil];omega) λ o4=>?_
 refine ⟨?_,?_,?_⟩
 ·rw [Fr.opp_z];done
 ·rw [Fr.opp_z];done
 rw [Fr.opp_d];exact List.nil_append _
def l04Copy_con:Con:={ ι:=Bool×(List (List Dat))×(List (List Dat)),pre:=λ i=>i.2.1.length<=1073741824/\i.2.2.length<=1073741824,args:=λ i=>[.agg [.im (.bool i.1),.sl 3 [.int] i.2.1,.sl 3 [.int] i.2.2]],res:=λ i=>⟨false,[some 3],[.im (Value.bool i.1),.own 3 [.int] i.2.1,.own 3 [.int] i.2.2]⟩ }
theorem l04Copy_ok:l04Copy_con.Ok Tryz.prog 138:=by
 refine fok (X:=⟨tt,[],[],17,[]⟩) mixed tt_ok (CTok.nil _) Tryz.func138 (λ _=>[]) ?_
 rintro ⟨neg,m,d⟩ hpre
 have hpre:m.length<=1073741824/\d.length<=1073741824:=hpre
 refine by_nf (q:=(([]:List (List Dat)).length+m.length<=1073741824)/\((([]:List (List Dat)).length+d.length<=1073741824)/\((Value.bool neg=Value.bool neg)/\((([]:List (List Dat))++m)=m)/\((([]:List (List Dat))++d)=d)))) (by kernel_rfl) ?_
 refine ao (by simp only [List.length_nil];omega) λ o1=>?_
 refine ao (by simp only [List.length_nil];omega) λ o2=>?_
 refine ⟨rfl,?_,?_⟩
 ·rfl
 rfl
def l04Add_con:Con:={ ι:=Fr×Fr,pre:=λ i=>i.1.d≠0/\i.2.d≠0,args:=λ i=>[.agg [.im (.bool (decide (i.1.z<0))),.sl 3 [.int] (L i.1.z.natAbs),.sl 3 [.int] (L i.1.d)],.agg [.im (.bool (decide (i.2.z<0))),.sl 3 [.int] (L i.2.z.natAbs),.sl 3 [.int] (L i.2.d)]],res:=λ i=>⟨false,[some 3],[.im (Value.bool (decide ((Fr.add i.1 i.2).z<0))),.own 3 [.int] (L (Fr.add i.1 i.2).z.natAbs),.own 3 [.int] (L (Fr.add i.1 i.2).d)]⟩ }
set_option maxHeartbeats 4000000 in
theorem l04Add_ok:l04Add_con.Ok Tryz.prog 136:=by
 refine fok (X:=⟨tt,[(100,l04One_con),(174,l03Add_con),(173,l04Low_con),(142,l02Mul_con),(139,l03Make_con)],[],61,[]⟩) mixed tt_ok (CTok.cons l04One_ok (CTok.cons l03Add_ok (CTok.cons l04Low_ok (CTok.cons l02Mul_ok (CTok.cons l03Make_ok (CTok.nil _)))))) Tryz.func136 (λ _=>[]) ?_
 rintro ⟨r,s⟩ hpre
 have hpre:r.d≠0/\s.d≠0:=hpre
 refine by_nf (q:=∃ i1:Nat,[DA.one (cS (L r.d))]=l04One_con.args i1/\l04One_con.pre i1/\(((decide (i1=1))=true->(∃ i2:Nat,[DA.one (cS (L s.d))]=l04One_con.args i2/\l04One_con.pre i2/\(((decide (i2=1))=true->(∃ i3:Int×Int,[dB r.z,dB s.z]=l03Add_con.args i3/\l03Add_con.pre i3/\(∃ i4:Bool×Nat×Nat×Int,[DA.one (cB (decide ((i3.1+i3.2)<0))),DA.one (cS (L (i3.1+i3.2).natAbs)),DA.one (cS ([[Dat.int (1:Int)]]:List (List Dat)))]=l04Low_con.args i4/\l04Low_con.pre i4/\((eqC (lowR i4.2.2.2 i4.2.2.1) (Fr.add r s))))))/\((decide (i2=1))=false->(∃ i5:Nat×Nat,[DA.one (cS (L r.z.natAbs)),DA.one (cS (L s.d))]=l02Mul_con.args i5/\l02Mul_con.pre i5/\(∃ i6:Bool×Nat×Int,[DA.one (cB (decide (r.z<0))),DA.one (cS (L (i5.1*i5.2)))]=l03Make_con.args i6/\l03Make_con.pre i6/\(∃ i7:Nat×Nat,[DA.one (cS (L s.z.natAbs)),DA.one (cS (L r.d))]=l02Mul_con.args i7/\l02Mul_con.pre i7/\(∃ i8:Bool×Nat×Int,[DA.one (cB (decide (s.z<0))),DA.one (cS (L (i7.1*i7.2)))]=l03Make_con.args i8/\l03Make_con.pre i8/\(∃ i9:Int×Int,[dB i6.2.2,dB i8.2.2]=l03Add_con.args i9/\l03Add_con.pre i9/\(∃ i10:Nat×Nat,[DA.one (cS (L r.d)),DA.one (cS (L s.d))]=l02Mul_con.args i10/\l02Mul_con.pre i10/\(∃ i11:Bool×Nat×Nat×Int,[DA.one (cB (decide ((i9.1+i9.2)<0))),DA.one (cS (L (i9.1+i9.2).natAbs)),DA.one (cS (L (i10.1*i10.2)))]=l04Low_con.args i11/\l04Low_con.pre i11/\((eqC (lowR i11.2.2.2 i11.2.2.1) (Fr.add r s))))))))))))))/\((decide (i1=1))=false->(∃ i12:Nat×Nat,[DA.one (cS (L r.z.natAbs)),DA.one (cS (L s.d))]=l02Mul_con.args i12/\l02Mul_con.pre i12/\(∃ i13:Bool×Nat×Int,[DA.one (cB (decide (r.z<0))),DA.one (cS (L (i12.1*i12.2)))]=l03Make_con.args i13/\l03Make_con.pre i13/\(∃ i14:Nat×Nat,[DA.one (cS (L s.z.natAbs)),DA.one (cS (L r.d))]=l02Mul_con.args i14/\l02Mul_con.pre i14/\(∃ i15:Bool×Nat×Int,[DA.one (cB (decide (s.z<0))),DA.one (cS (L (i14.1*i14.2)))]=l03Make_con.args i15/\l03Make_con.pre i15/\(∃ i16:Int×Int,[dB i13.2.2,dB i15.2.2]=l03Add_con.args i16/\l03Add_con.pre i16/\(∃ i17:Nat×Nat,[DA.one (cS (L r.d)),DA.one (cS (L s.d))]=l02Mul_con.args i17/\l02Mul_con.pre i17/\(∃ i18:Bool×Nat×Nat×Int,[DA.one (cB (decide ((i16.1+i16.2)<0))),DA.one (cS (L (i16.1+i16.2).natAbs)),DA.one (cS (L (i17.1*i17.2)))]=l04Low_con.args i18/\l04Low_con.pre i18/\((eqC (lowR i18.2.2.2 i18.2.2.1) (Fr.add r s))))))))))))) (by kernel_rfl) ?_
 have h1:=r.nlz
 have h2:=r.nld
 have lr:=L_len r.d
 have lz:=L_len r.z.natAbs
 have h3:=s.nlz
 have h4:=s.nld
 have ls:=L_len s.d
 have lw:=L_len s.z.natAbs
 have m0:=nl_mul_le r.z.natAbs s.d
 have m00:=nl_mul_le s.z.natAbs r.d
 have m1:=nl_abs_mul r.z ((s.d:Nat):Int)
 have m2:=nl_abs_mul s.z ((r.d:Nat):Int)
 rw [nl_cast] at m1 m2
 have m3:=nl_abs_add (r.z*((s.d:Nat):Int)) (s.z*((r.d:Nat):Int))
 have m4:=nl_mul_le r.d s.d
 have m6:=nl_mul_le r.d s.z.natAbs
 refine ⟨r.d,by
  rfl,by
  trivial,?_⟩
 refine And.symm ⟨λ c4=>?_,λ c4=>?_⟩
 ·try simp only [nrm] at c4
  have hE:=add_low hpre.1 hpre.2
  refine ⟨(r.z.natAbs,s.d),by
   rfl,by
   show nl r.z.natAbs<=524288/\nl s.d<=524288
   exact ⟨by omega,by omega⟩,?_⟩
  refine ⟨(decide (r.z<0),r.z.natAbs*s.d,r.z*((s.d:Nat):Int)),by
   rfl,by
   show nl (r.z.natAbs*s.d)<=60/\zOf (decide (r.z<0)) (r.z.natAbs*s.d)=(r.z*((s.d:Nat):Int))
   exact ⟨by omega,zOf_scale _ _⟩,?_⟩
  refine ⟨(s.z.natAbs,r.d),by
   rfl,by
   show nl s.z.natAbs<=524288/\nl r.d<=524288
   exact ⟨by omega,by omega⟩,?_⟩
  refine ⟨(decide (s.z<0),s.z.natAbs*r.d,s.z*((r.d:Nat):Int)),by
   rfl,by
   show nl (s.z.natAbs*r.d)<=60/\zOf (decide (s.z<0)) (s.z.natAbs*r.d)=(s.z*((r.d:Nat):Int))
   exact ⟨by omega,zOf_scale _ _⟩,?_⟩
  refine ⟨((r.z*((s.d:Nat):Int)),(s.z*((r.d:Nat):Int))),by
   rfl,by
   show nl (r.z*((s.d:Nat):Int)).natAbs<=59/\nl (s.z*((r.d:Nat):Int)).natAbs<=59
   exact ⟨by omega,by omega⟩,?_⟩
  refine ⟨(r.d,s.d),by
   rfl,by
   show nl r.d<=524288/\nl s.d<=524288
   exact ⟨by omega,by omega⟩,?_⟩
  refine ⟨(decide (r.z*((s.d:Nat):Int)+s.z*((r.d:Nat):Int)<0),(r.z*((s.d:Nat):Int)+s.z*((r.d:Nat):Int)).natAbs,r.d*s.d,r.z*((s.d:Nat):Int)+s.z*((r.d:Nat):Int)),by
   rfl,by
   try dsimp only [l04Low_con]
   exact ⟨by omega,by omega,zOf_self _⟩,?_⟩
  refine eqC_of ?_
  rw [hE]
 try simp only [nrm] at c4
 refine ⟨s.d,by
  rfl,by
  trivial,?_⟩
 refine ⟨λ c8=>?_,λ c8=>?_⟩
 ·try simp only [nrm] at c8
  have hE:=add_low1 c4 c8
  refine ⟨(r.z,s.z),by
   rfl,by
   show nl r.z.natAbs<=59/\nl s.z.natAbs<=59
   exact ⟨by omega,by omega⟩,?_⟩
  refine ⟨(decide (r.z+s.z<0),(r.z+s.z).natAbs,1,r.z+s.z),by
   rw [one_L];rfl,by
   show nl ((r.z+s.z).natAbs)<=1000/\nl 1<=1000/\zOf (decide (r.z+s.z<0)) ((r.z+s.z).natAbs)=(r.z+s.z)
   have:=nl_abs_add r.z s.z
   exact ⟨by omega,by rw [one_nl];decide,zOf_self _⟩,?_⟩
  refine eqC_of ?_
  rw [hE]
 try simp only [nrm] at c8
 have hE:=add_low hpre.1 hpre.2
 refine ⟨(r.z.natAbs,s.d),by
  rfl,by
  show nl r.z.natAbs<=524288/\nl s.d<=524288
  exact ⟨by omega,by omega⟩,?_⟩
 refine ⟨(decide (r.z<0),r.z.natAbs*s.d,r.z*((s.d:Nat):Int)),by
  rfl,by
  show nl (r.z.natAbs*s.d)<=60/\zOf (decide (r.z<0)) (r.z.natAbs*s.d)=(r.z*((s.d:Nat):Int))
  exact ⟨by omega,zOf_scale _ _⟩,?_⟩
 refine ⟨(s.z.natAbs,r.d),by
  rfl,by
  show nl s.z.natAbs<=524288/\nl r.d<=524288
  exact ⟨by omega,by omega⟩,?_⟩
 refine ⟨(decide (s.z<0),s.z.natAbs*r.d,s.z*((r.d:Nat):Int)),by
  rfl,by
  show nl (s.z.natAbs*r.d)<=60/\zOf (decide (s.z<0)) (s.z.natAbs*r.d)=(s.z*((r.d:Nat):Int))
  exact ⟨by omega,zOf_scale _ _⟩,?_⟩
 refine ⟨((r.z*((s.d:Nat):Int)),(s.z*((r.d:Nat):Int))),by
  rfl,by
  show nl (r.z*((s.d:Nat):Int)).natAbs<=59/\nl (s.z*((r.d:Nat):Int)).natAbs<=59
  exact ⟨by omega,by omega⟩,?_⟩
 refine ⟨(r.d,s.d),by
  rfl,by
  show nl r.d<=524288/\nl s.d<=524288
  exact ⟨by omega,by omega⟩,?_⟩
 refine ⟨(decide (r.z*((s.d:Nat):Int)+s.z*((r.d:Nat):Int)<0),(r.z*((s.d:Nat):Int)+s.z*((r.d:Nat):Int)).natAbs,r.d*s.d,r.z*((s.d:Nat):Int)+s.z*((r.d:Nat):Int)),by
  rfl,by
  try dsimp only [l04Low_con]
  exact ⟨by omega,by omega,zOf_self _⟩,?_⟩
 refine eqC_of ?_
 rw [hE]
def l04Mul_con:Con:={ ι:=Fr×Fr,pre:=λ i=>i.1.d≠0/\i.2.d≠0,args:=λ i=>[.agg [.im (.bool (decide (i.1.z<0))),.sl 3 [.int] (L i.1.z.natAbs),.sl 3 [.int] (L i.1.d)],.agg [.im (.bool (decide (i.2.z<0))),.sl 3 [.int] (L i.2.z.natAbs),.sl 3 [.int] (L i.2.d)]],res:=λ i=>⟨false,[some 3],[.im (Value.bool (decide ((Fr.mul i.1 i.2).z<0))),.own 3 [.int] (L (Fr.mul i.1 i.2).z.natAbs),.own 3 [.int] (L (Fr.mul i.1 i.2).d)]⟩ }
set_option maxHeartbeats 4000000 in
theorem l04Mul_ok:l04Mul_con.Ok Tryz.prog 135:=by
 refine fok (X:=⟨tt,[(142,l02Mul_con),(173,l04Low_con)],[],25,[]⟩) mixed tt_ok (CTok.cons l02Mul_ok (CTok.cons l04Low_ok (CTok.nil _))) Tryz.func135 (λ _=>[]) ?_
 rintro ⟨r,s⟩ hpre
 have hpre:r.d≠0/\s.d≠0:=hpre
 refine by_nf (q:=∃ i1:Nat×Nat,[DA.one (cS (L r.z.natAbs)),DA.one (cS (L s.z.natAbs))]=l02Mul_con.args i1/\l02Mul_con.pre i1/\(∃ i2:Nat×Nat,[DA.one (cS (L r.d)),DA.one (cS (L s.d))]=l02Mul_con.args i2/\l02Mul_con.pre i2/\(∃ i3:Bool×Nat×Nat×Int,[DA.one (cB ((decide (r.z<0)) != (decide (s.z<0)))),DA.one (cS (L (i1.1*i1.2))),DA.one (cS (L (i2.1*i2.2)))]=l04Low_con.args i3/\l04Low_con.pre i3/\((eqC (lowR i3.2.2.2 i3.2.2.1) (Fr.mul r s)))))) (by kernel_rfl) ?_
 have h1:=r.nlz
 have h2:=r.nld
 have lr:=L_len r.d
 have lz:=L_len r.z.natAbs
 have h3:=s.nlz
 have h4:=s.nld
 have ls:=L_len s.d
 have lw:=L_len s.z.natAbs
 have m4:=nl_mul_le r.d s.d
 have m5:=nl_mul_le r.z.natAbs s.z.natAbs
 have hE:=mul_low hpre.1 hpre.2
 refine ⟨(r.z.natAbs,s.z.natAbs),by
  rfl,by
  show nl r.z.natAbs<=524288/\nl s.z.natAbs<=524288
  exact ⟨by omega,by omega⟩,?_⟩
 refine ⟨(r.d,s.d),by
  rfl,by
  show nl r.d<=524288/\nl s.d<=524288
  exact ⟨by omega,by omega⟩,?_⟩
 refine ⟨((decide (r.z<0)) != (decide (s.z<0)),r.z.natAbs*s.z.natAbs,r.d*s.d,r.z*s.z),by
  rfl,by
  show nl (r.z.natAbs*s.z.natAbs)<=1000/\nl (r.d*s.d)<=1000/\zOf ((decide (r.z<0)) != (decide (s.z<0))) (r.z.natAbs*s.z.natAbs)=(r.z*s.z)
  exact ⟨by omega,by omega,zOf_mul _ _⟩,?_⟩
 refine eqC_of ?_
 rw [hE]
def l04Cmp_con:Con:={ ι:=Fr×Fr,pre:=λ i=>i.1.d≠0/\i.2.d≠0,args:=λ i=>[.agg [.im (.bool (decide (i.1.z<0))),.sl 3 [.int] (L i.1.z.natAbs),.sl 3 [.int] (L i.1.d)],.agg [.im (.bool (decide (i.2.z<0))),.sl 3 [.int] (L i.2.z.natAbs),.sl 3 [.int] (L i.2.d)]],res:=λ i=>⟨false,[none],[.im (Value.int .i64 (Fr.cmp i.1 i.2))]⟩ }
theorem l04Cmp_ok:l04Cmp_con.Ok Tryz.prog 108:=by
 refine fok (X:=⟨tt,[(142,l02Mul_con),(139,l03Make_con),(141,l03Cmp_con)],[],26,[]⟩) mixed tt_ok (CTok.cons l02Mul_ok (CTok.cons l03Make_ok (CTok.cons l03Cmp_ok (CTok.nil _)))) Tryz.func108 (λ _=>[]) ?_
 rintro ⟨r,s⟩ hpre
 have hpre:r.d≠0/\s.d≠0:=hpre
 refine by_nf (q:=∃ i1:Nat×Nat,[DA.one (cS (L r.z.natAbs)),DA.one (cS (L s.d))]=l02Mul_con.args i1/\l02Mul_con.pre i1/\(∃ i2:Bool×Nat×Int,[DA.one (cB (decide (r.z<0))),DA.one (cS (L (i1.1*i1.2)))]=l03Make_con.args i2/\l03Make_con.pre i2/\(∃ i3:Nat×Nat,[DA.one (cS (L s.z.natAbs)),DA.one (cS (L r.d))]=l02Mul_con.args i3/\l02Mul_con.pre i3/\(∃ i4:Bool×Nat×Int,[DA.one (cB (decide (s.z<0))),DA.one (cS (L (i3.1*i3.2)))]=l03Make_con.args i4/\l03Make_con.pre i4/\(∃ i5:Int×Int,[dB i2.2.2,dB i4.2.2]=l03Cmp_con.args i5/\l03Cmp_con.pre i5/\((vI (cmpI i5.1 i5.2)=vI (Fr.cmp r s)))))))) (by kernel_rfl) ?_
 delta vI
 have h1:=r.nlz
 have h2:=r.nld
 have lr:=L_len r.d
 have lz:=L_len r.z.natAbs
 have h3:=s.nlz
 have h4:=s.nld
 have ls:=L_len s.d
 have lw:=L_len s.z.natAbs
 have m0:=nl_mul_le r.z.natAbs s.d
 have m00:=nl_mul_le s.z.natAbs r.d
 have m1:=nl_abs_mul r.z ((s.d:Nat):Int)
 have m2:=nl_abs_mul s.z ((r.d:Nat):Int)
 rw [nl_cast] at m1 m2
 have m3:=nl_abs_add (r.z*((s.d:Nat):Int)) (s.z*((r.d:Nat):Int))
 have m4:=nl_mul_le r.d s.d
 have m6:=nl_mul_le r.d s.z.natAbs
 refine ⟨(r.z.natAbs,s.d),by
  rfl,by
  show nl r.z.natAbs<=524288/\nl s.d<=524288
  exact ⟨by omega,by omega⟩,?_⟩
 refine ⟨(decide (r.z<0),r.z.natAbs*s.d,r.z*((s.d:Nat):Int)),by
  rfl,by
  show nl (r.z.natAbs*s.d)<=60/\zOf (decide (r.z<0)) (r.z.natAbs*s.d)=(r.z*((s.d:Nat):Int))
  exact ⟨by omega,zOf_scale _ _⟩,?_⟩
 refine ⟨(s.z.natAbs,r.d),by
  rfl,by
  show nl s.z.natAbs<=524288/\nl r.d<=524288
  exact ⟨by omega,by omega⟩,?_⟩
 refine ⟨(decide (s.z<0),s.z.natAbs*r.d,s.z*((r.d:Nat):Int)),by
  rfl,by
  show nl (s.z.natAbs*r.d)<=60/\zOf (decide (s.z<0)) (s.z.natAbs*r.d)=(s.z*((r.d:Nat):Int))
  exact ⟨by omega,zOf_scale _ _⟩,?_⟩
 refine ⟨((r.z*((s.d:Nat):Int)),(s.z*((r.d:Nat):Int))),by
  rfl,by
  show nl (r.z*((s.d:Nat):Int)).natAbs<=59/\nl (s.z*((r.d:Nat):Int)).natAbs<=59
  exact ⟨by omega,by omega⟩,?_⟩
 rw [Fr.cmp_zd hpre.1 hpre.2]
def sRatSub_con:Con:={ ι:=Fr×Fr,pre:=λ i=>True,args:=λ i=>[.agg [.im (.bool (decide (i.1.z<0))),.sl 3 [.int] (L i.1.z.natAbs),.sl 3 [.int] (L i.1.d)],.agg [.im (.bool (decide (i.2.z<0))),.sl 3 [.int] (L i.2.z.natAbs),.sl 3 [.int] (L i.2.d)]],res:=λ i=>⟨false,[some 3],[.im (Value.bool (decide ((Fr.sub i.1 i.2).z<0))),.own 3 [.int] (L (Fr.sub i.1 i.2).z.natAbs),.own 3 [.int] (L (Fr.sub i.1 i.2).d)]⟩ }
theorem sRatSub_ok:sRatSub_con.Ok Tryz.prog 103:=by
 refine fok (X:=⟨tt,[(78,sRatOk_con),(137,l04Neg_con),(136,l04Add_con)],[],18,[]⟩) mixed tt_ok (CTok.cons sRatOk_ok (CTok.cons l04Neg_ok (CTok.cons l04Add_ok (CTok.nil _)))) Tryz.func103 (λ _=>[]) ?_
 rintro ⟨r,s⟩ hpre
 have hpre:True:=hpre
 refine by_nf (q:=∃ i1:Bool×(List (List Dat))×(List (List Dat))×Bool,[dF r]=sRatOk_con.args i1/\sRatOk_con.pre i1/\(((!(!i1.2.2.2))=true->(∃ i2:Bool×(List (List Dat))×(List (List Dat))×Bool,[dF s]=sRatOk_con.args i2/\sRatOk_con.pre i2/\(((!i2.2.2.2)=true->((eqN (Fr.sub r s))))/\((!i2.2.2.2)=false->(∃ i3:Fr,[dF s]=l04Neg_con.args i3/\l04Neg_con.pre i3/\(∃ i4:Fr×Fr,[dF r,dF i3.opp]=l04Add_con.args i4/\l04Add_con.pre i4/\((eqC (Fr.add i4.1 i4.2) (Fr.sub r s)))))))))/\((!(!i1.2.2.2))=false->((eqN (Fr.sub r s)))))) (by kernel_rfl) ?_
 have h1:=r.nlz
 have h2:=r.nld
 have lr:=L_len r.d
 have lz:=L_len r.z.natAbs
 have h3:=s.nlz
 have h4:=s.nld
 have ls:=L_len s.d
 have lw:=L_len s.z.natAbs
 refine ⟨(decide (r.z<0),(L r.z.natAbs),(L r.d),r.good),by
  rfl,by
  try dsimp only [sRatOk_con]
  exact ⟨L_has _ (by omega),L_has _ (by omega),by omega,by omega,ratOkR_zd _⟩,?_⟩
 refine And.symm ⟨λ c4=>?_,λ c4=>?_⟩
 ·replace c4:(!(!r.good))=false:=c4
  try simp only [nrm] at c4
  have hE:Fr.sub r s=Fr.none:=Fr.bin_bad _ (.inl (bad_d c4))
  refine eqN_of ?_
  rw [hE];done
 replace c4:(!(!r.good))=true:=c4
 try simp only [nrm] at c4
 refine ⟨(decide (s.z<0),(L s.z.natAbs),(L s.d),s.good),by
  rfl,by
  try dsimp only [sRatOk_con]
  exact ⟨L_has _ (by omega),L_has _ (by omega),by omega,by omega,ratOkR_zd _⟩,?_⟩
 refine ⟨λ c8=>?_,λ c8=>?_⟩
 ·replace c8:(!s.good)=true:=c8
  try simp only [nrm] at c8
  have hE:Fr.sub r s=Fr.none:=Fr.bin_bad _ (.inr (bad_d c8))
  refine eqN_of ?_
  rw [hE];done
 replace c8:(!s.good)=false:=c8
 try simp only [nrm] at c8
 have hE:=sub_opp' r s
 refine ⟨s,by
  rfl,by
  trivial,?_⟩
 refine ⟨(r,s.opp),by
  rfl,by
  exact ⟨good_d c4,by rw [Fr.opp_d];exact good_d c8⟩,?_⟩
 refine eqC_of ?_
 rw [hE];done
def sRatMul_con:Con:={ ι:=Fr×Fr,pre:=λ i=>True,args:=λ i=>[.agg [.im (.bool (decide (i.1.z<0))),.sl 3 [.int] (L i.1.z.natAbs),.sl 3 [.int] (L i.1.d)],.agg [.im (.bool (decide (i.2.z<0))),.sl 3 [.int] (L i.2.z.natAbs),.sl 3 [.int] (L i.2.d)]],res:=λ i=>⟨false,[some 3],[.im (Value.bool (decide ((Fr.mul i.1 i.2).z<0))),.own 3 [.int] (L (Fr.mul i.1 i.2).z.natAbs),.own 3 [.int] (L (Fr.mul i.1 i.2).d)]⟩ }
theorem sRatMul_ok:sRatMul_con.Ok Tryz.prog 102:=by
 refine fok (X:=⟨tt,[(78,sRatOk_con),(135,l04Mul_con)],[],17,[]⟩) mixed tt_ok (CTok.cons sRatOk_ok (CTok.cons l04Mul_ok (CTok.nil _))) Tryz.func102 (λ _=>[]) ?_
 rintro ⟨r,s⟩ hpre
 have hpre:True:=hpre
 refine by_nf (q:=∃ i1:Bool×(List (List Dat))×(List (List Dat))×Bool,[dF r]=sRatOk_con.args i1/\sRatOk_con.pre i1/\(((!(!i1.2.2.2))=true->(∃ i2:Bool×(List (List Dat))×(List (List Dat))×Bool,[dF s]=sRatOk_con.args i2/\sRatOk_con.pre i2/\(((!i2.2.2.2)=true->((eqN (Fr.mul r s))))/\((!i2.2.2.2)=false->(∃ i3:Fr×Fr,[dF r,dF s]=l04Mul_con.args i3/\l04Mul_con.pre i3/\((eqC (Fr.mul i3.1 i3.2) (Fr.mul r s))))))))/\((!(!i1.2.2.2))=false->((eqN (Fr.mul r s)))))) (by kernel_rfl) ?_
 have h1:=r.nlz
 have h2:=r.nld
 have lr:=L_len r.d
 have lz:=L_len r.z.natAbs
 have h3:=s.nlz
 have h4:=s.nld
 have ls:=L_len s.d
 have lw:=L_len s.z.natAbs
 refine ⟨(decide (r.z<0),(L r.z.natAbs),(L r.d),r.good),by
  rfl,by
  try dsimp only [sRatOk_con]
  exact ⟨L_has _ (by omega),L_has _ (by omega),by omega,by omega,ratOkR_zd _⟩,?_⟩
 refine And.symm ⟨λ c4=>?_,λ c4=>?_⟩
 ·replace c4:(!(!r.good))=false:=c4
  try simp only [nrm] at c4
  have hE:Fr.mul r s=Fr.none:=Fr.bin_bad _ (.inl (bad_d c4))
  refine eqN_of ?_
  rw [hE];done
 replace c4:(!(!r.good))=true:=c4
 try simp only [nrm] at c4
 refine ⟨(decide (s.z<0),(L s.z.natAbs),(L s.d),s.good),by
  rfl,by
  try dsimp only [sRatOk_con]
  exact ⟨L_has _ (by omega),L_has _ (by omega),by omega,by omega,ratOkR_zd _⟩,?_⟩
 refine ⟨λ c8=>?_,λ c8=>?_⟩
 ·replace c8:(!s.good)=true:=c8
  try simp only [nrm] at c8
  have hE:Fr.mul r s=Fr.none:=Fr.bin_bad _ (.inr (bad_d c8))
  refine eqN_of ?_
  rw [hE];done
 replace c8:(!s.good)=false:=c8
 try simp only [nrm] at c8
 refine ⟨(r,s),by
  rfl,by
  exact ⟨good_d c4,good_d c8⟩,?_⟩
 exact eqC_of rfl
def sRatCmp_con:Con:={ ι:=Fr×Fr,pre:=λ i=>True,args:=λ i=>[.agg [.im (.bool (decide (i.1.z<0))),.sl 3 [.int] (L i.1.z.natAbs),.sl 3 [.int] (L i.1.d)],.agg [.im (.bool (decide (i.2.z<0))),.sl 3 [.int] (L i.2.z.natAbs),.sl 3 [.int] (L i.2.d)]],res:=λ i=>⟨false,[none],[.im (Value.int .i64 (Fr.cmp i.1 i.2))]⟩ }
theorem sRatCmp_ok:sRatCmp_con.Ok Tryz.prog 82:=by
 refine fok (X:=⟨tt,[(78,sRatOk_con),(108,l04Cmp_con)],[],16,[]⟩) mixed tt_ok (CTok.cons sRatOk_ok (CTok.cons l04Cmp_ok (CTok.nil _))) Tryz.func82 (λ _=>[]) ?_
 rintro ⟨r,s⟩ hpre
 have hpre:True:=hpre
 refine by_nf (q:=∃ i1:Bool×(List (List Dat))×(List (List Dat))×Bool,[dF r]=sRatOk_con.args i1/\sRatOk_con.pre i1/\(((!(!i1.2.2.2))=true->(∃ i2:Bool×(List (List Dat))×(List (List Dat))×Bool,[dF s]=sRatOk_con.args i2/\sRatOk_con.pre i2/\(((!i2.2.2.2)=true->((vI (0:Int)=vI (Fr.cmp r s))))/\((!i2.2.2.2)=false->(∃ i3:Fr×Fr,[dF r,dF s]=l04Cmp_con.args i3/\l04Cmp_con.pre i3/\((vI (Fr.cmp i3.1 i3.2)=vI (Fr.cmp r s))))))))/\((!(!i1.2.2.2))=false->((vI (0:Int)=vI (Fr.cmp r s)))))) (by kernel_rfl) ?_
 delta vI
 have h1:=r.nlz
 have h2:=r.nld
 have lr:=L_len r.d
 have lz:=L_len r.z.natAbs
 have h3:=s.nlz
 have h4:=s.nld
 have ls:=L_len s.d
 have lw:=L_len s.z.natAbs
 refine ⟨(decide (r.z<0),(L r.z.natAbs),(L r.d),r.good),by
  rfl,by
  try dsimp only [sRatOk_con]
  exact ⟨L_has _ (by omega),L_has _ (by omega),by omega,by omega,ratOkR_zd _⟩,?_⟩
 refine And.symm ⟨λ c4=>?_,λ c4=>?_⟩
 ·replace c4:(!(!r.good))=false:=c4
  try simp only [nrm] at c4
  have hE:Fr.cmp r s=0:=Fr.cmp_bad (.inl (bad_d c4))
  rw [hE]
 replace c4:(!(!r.good))=true:=c4
 try simp only [nrm] at c4
 refine ⟨(decide (s.z<0),(L s.z.natAbs),(L s.d),s.good),by
  rfl,by
  try dsimp only [sRatOk_con]
  exact ⟨L_has _ (by omega),L_has _ (by omega),by omega,by omega,ratOkR_zd _⟩,?_⟩
 refine ⟨λ c8=>?_,λ c8=>?_⟩
 ·replace c8:(!s.good)=true:=c8
  try simp only [nrm] at c8
  have hE:Fr.cmp r s=0:=Fr.cmp_bad (.inr (bad_d c8))
  rw [hE]
 replace c8:(!s.good)=false:=c8
 try simp only [nrm] at c8
 refine ⟨(r,s),by
  rfl,by
  exact ⟨good_d c4,good_d c8⟩,?_⟩
 exact rfl
def sRatSign_con:Con:={ ι:=Fr,pre:=λ i=>True,args:=λ i=>[.agg [.im (.bool (decide (i.z<0))),.sl 3 [.int] (L i.z.natAbs),.sl 3 [.int] (L i.d)]],res:=λ i=>⟨false,[none],[.im (Value.int .i64 i.sgn)]⟩ }
theorem sRatSign_ok:sRatSign_con.Ok Tryz.prog 104:=by
 refine fok (X:=⟨tt,[(78,sRatOk_con)],[],18,[]⟩) mixed tt_ok (CTok.cons sRatOk_ok (CTok.nil _)) Tryz.func104 (λ _=>[]) ?_
 intro (r:Fr) hpre
 have hpre:True:=hpre
 refine by_nf (q:=∃ i1:Bool×(List (List Dat))×(List (List Dat))×Bool,[dF r]=sRatOk_con.args i1/\sRatOk_con.pre i1/\(((!(!i1.2.2.2))=true->((((nI ((L r.z.natAbs).length)) == (0:Int))=true->((vI (0:Int)=vI r.sgn)))/\(((nI ((L r.z.natAbs).length)) == (0:Int))=false->((decide (r.z<0)=true->((vI (-1:Int)=vI r.sgn)))/\(decide (r.z<0)=false->((vI (1:Int)=vI r.sgn)))))))/\((!(!i1.2.2.2))=false->((vI (0:Int)=vI r.sgn))))) (by kernel_rfl) ?_
 delta vI nI
 have h1:=r.nlz
 have h2:=r.nld
 have lr:=L_len r.d
 have lz:=L_len r.z.natAbs
 refine ⟨(decide (r.z<0),(L r.z.natAbs),(L r.d),r.good),by
  rfl,by
  try dsimp only [sRatOk_con]
  exact ⟨L_has _ (by omega),L_has _ (by omega),by omega,by omega,ratOkR_zd _⟩,?_⟩
 refine And.symm ⟨λ c4=>?_,λ c4=>?_⟩
 ·replace c4:(!(!r.good))=false:=c4
  try simp only [nrm] at c4
  have hz:r.z=0:=by rw [Fr.bad_z (bad_d c4)];rfl
  rw [Fr.sgn_z,hz];rfl
 replace c4:(!(!r.good))=true:=c4
 try simp only [nrm] at c4
 refine ⟨λ c5=>?_,λ c5=>?_⟩
 ·try simp only [nrm] at c5
  have hz:r.z=0:=zlen (by omega)
  rw [Fr.sgn_z,hz];rfl
 try simp only [nrm] at c5
 have hz:r.z≠0:=zlen' (by omega)
 refine ⟨λ c7=>?_,λ c7=>?_⟩
 ·try simp only [nrm] at c7
  rw [Fr.sgn_z];unfold cmpI;rw [if_pos (by omega)];done
 try simp only [nrm] at c7
 rw [Fr.sgn_z];unfold cmpI;rw [if_neg (by omega),if_neg (by omega)];done
def sRatMin_con:Con:={ ι:=Fr×Fr,pre:=λ i=>True,args:=λ i=>[.agg [.im (.bool (decide (i.1.z<0))),.sl 3 [.int] (L i.1.z.natAbs),.sl 3 [.int] (L i.1.d)],.agg [.im (.bool (decide (i.2.z<0))),.sl 3 [.int] (L i.2.z.natAbs),.sl 3 [.int] (L i.2.d)]],res:=λ i=>⟨false,[some 3],[.im (Value.bool (decide ((Fr.min i.1 i.2).z<0))),.own 3 [.int] (L (Fr.min i.1 i.2).z.natAbs),.own 3 [.int] (L (Fr.min i.1 i.2).d)]⟩ }
theorem sRatMin_ok:sRatMin_con.Ok Tryz.prog 105:=by
 refine fok (X:=⟨tt,[(78,sRatOk_con),(108,l04Cmp_con),(138,l04Copy_con)],[],22,[]⟩) mixed tt_ok (CTok.cons sRatOk_ok (CTok.cons l04Cmp_ok (CTok.cons l04Copy_ok (CTok.nil _)))) Tryz.func105 (λ _=>[]) ?_
 rintro ⟨r,s⟩ hpre
 have hpre:True:=hpre
 refine by_nf (q:=∃ i1:Bool×(List (List Dat))×(List (List Dat))×Bool,[dF r]=sRatOk_con.args i1/\sRatOk_con.pre i1/\(((!(!i1.2.2.2))=true->(∃ i2:Bool×(List (List Dat))×(List (List Dat))×Bool,[dF s]=sRatOk_con.args i2/\sRatOk_con.pre i2/\(((!i2.2.2.2)=true->((eqN (Fr.min r s))))/\((!i2.2.2.2)=false->(∃ i3:Fr×Fr,[dF r,dF s]=l04Cmp_con.args i3/\l04Cmp_con.pre i3/\(((decide ((Fr.cmp i3.1 i3.2)<=(0:Int)))=true->(∃ i4:Bool×(List (List Dat))×(List (List Dat)),[dF r]=l04Copy_con.args i4/\l04Copy_con.pre i4/\((Value.bool i4.1=Value.bool (decide ((Fr.min r s).z<0)))/\(i4.2.1=L (Fr.min r s).z.natAbs)/\(i4.2.2=L (Fr.min r s).d))))/\((decide ((Fr.cmp i3.1 i3.2)<=(0:Int)))=false->(∃ i5:Bool×(List (List Dat))×(List (List Dat)),[dF s]=l04Copy_con.args i5/\l04Copy_con.pre i5/\((Value.bool i5.1=Value.bool (decide ((Fr.min r s).z<0)))/\(i5.2.1=L (Fr.min r s).z.natAbs)/\(i5.2.2=L (Fr.min r s).d))))))))))/\((!(!i1.2.2.2))=false->((eqN (Fr.min r s)))))) (by kernel_rfl) ?_
 have h1:=r.nlz
 have h2:=r.nld
 have lr:=L_len r.d
 have lz:=L_len r.z.natAbs
 have h3:=s.nlz
 have h4:=s.nld
 have ls:=L_len s.d
 have lw:=L_len s.z.natAbs
 refine ⟨(decide (r.z<0),(L r.z.natAbs),(L r.d),r.good),by
  rfl,by
  try dsimp only [sRatOk_con]
  exact ⟨L_has _ (by omega),L_has _ (by omega),by omega,by omega,ratOkR_zd _⟩,?_⟩
 refine And.symm ⟨λ c4=>?_,λ c4=>?_⟩
 ·replace c4:(!(!r.good))=false:=c4
  try simp only [nrm] at c4
  have hE:Fr.min r s=Fr.none:=Fr.bin_bad _ (.inl (bad_d c4))
  refine eqN_of ?_
  rw [hE];done
 replace c4:(!(!r.good))=true:=c4
 try simp only [nrm] at c4
 refine ⟨(decide (s.z<0),(L s.z.natAbs),(L s.d),s.good),by
  rfl,by
  try dsimp only [sRatOk_con]
  exact ⟨L_has _ (by omega),L_has _ (by omega),by omega,by omega,ratOkR_zd _⟩,?_⟩
 refine ⟨λ c8=>?_,λ c8=>?_⟩
 ·replace c8:(!s.good)=true:=c8
  try simp only [nrm] at c8
  have hE:Fr.min r s=Fr.none:=Fr.bin_bad _ (.inr (bad_d c8))
  refine eqN_of ?_
  rw [hE];done
 replace c8:(!s.good)=false:=c8
 try simp only [nrm] at c8
 refine ⟨(r,s),by
  rfl,by
  exact ⟨good_d c4,good_d c8⟩,?_⟩
 refine ⟨λ c15=>?_,λ c15=>?_⟩
 ·replace c15:(decide ((Fr.cmp r s)<=(0:Int)))=true:=c15
  try simp only [nrm] at c15
  have hE:Fr.min r s=r:=by rw [Fr.min_pick,if_neg (λ h=>h.elim (good_d c4) (good_d c8)),if_pos (by omega)]
  refine ⟨(decide (r.z<0),(L r.z.natAbs),(L r.d)),by
   rfl,by
   show (L r.z.natAbs).length<=1073741824/\(L r.d).length<=1073741824
   exact ⟨by omega,by omega⟩,?_⟩
  refine ⟨?_,?_,?_⟩
  ·rw [hE];done
  ·rw [hE];done
  rw [hE];done
 replace c15:(decide ((Fr.cmp r s)<=(0:Int)))=false:=c15
 try simp only [nrm] at c15
 have hE:Fr.min r s=s:=by rw [Fr.min_pick,if_neg (λ h=>h.elim (good_d c4) (good_d c8)),if_neg (by omega)]
 refine ⟨(decide (s.z<0),(L s.z.natAbs),(L s.d)),by
  rfl,by
  show (L s.z.natAbs).length<=1073741824/\(L s.d).length<=1073741824
  exact ⟨by omega,by omega⟩,?_⟩
 refine ⟨?_,?_,?_⟩
 ·rw [hE];done
 ·rw [hE];done
 rw [hE];done
def sRatMax_con:Con:={ ι:=Fr×Fr,pre:=λ i=>True,args:=λ i=>[.agg [.im (.bool (decide (i.1.z<0))),.sl 3 [.int] (L i.1.z.natAbs),.sl 3 [.int] (L i.1.d)],.agg [.im (.bool (decide (i.2.z<0))),.sl 3 [.int] (L i.2.z.natAbs),.sl 3 [.int] (L i.2.d)]],res:=λ i=>⟨false,[some 3],[.im (Value.bool (decide ((Fr.max i.1 i.2).z<0))),.own 3 [.int] (L (Fr.max i.1 i.2).z.natAbs),.own 3 [.int] (L (Fr.max i.1 i.2).d)]⟩ }
theorem sRatMax_ok:sRatMax_con.Ok Tryz.prog 106:=by
 refine fok (X:=⟨tt,[(78,sRatOk_con),(108,l04Cmp_con),(138,l04Copy_con)],[],22,[]⟩) mixed tt_ok (CTok.cons sRatOk_ok (CTok.cons l04Cmp_ok (CTok.cons l04Copy_ok (CTok.nil _)))) Tryz.func106 (λ _=>[]) ?_
 rintro ⟨r,s⟩ hpre
 have hpre:True:=hpre
 refine by_nf (q:=∃ i1:Bool×(List (List Dat))×(List (List Dat))×Bool,[dF r]=sRatOk_con.args i1/\sRatOk_con.pre i1/\(((!(!i1.2.2.2))=true->(∃ i2:Bool×(List (List Dat))×(List (List Dat))×Bool,[dF s]=sRatOk_con.args i2/\sRatOk_con.pre i2/\(((!i2.2.2.2)=true->((eqN (Fr.max r s))))/\((!i2.2.2.2)=false->(∃ i3:Fr×Fr,[dF r,dF s]=l04Cmp_con.args i3/\l04Cmp_con.pre i3/\(((decide ((Fr.cmp i3.1 i3.2)≥(0:Int)))=true->(∃ i4:Bool×(List (List Dat))×(List (List Dat)),[dF r]=l04Copy_con.args i4/\l04Copy_con.pre i4/\((Value.bool i4.1=Value.bool (decide ((Fr.max r s).z<0)))/\(i4.2.1=L (Fr.max r s).z.natAbs)/\(i4.2.2=L (Fr.max r s).d))))/\((decide ((Fr.cmp i3.1 i3.2)≥(0:Int)))=false->(∃ i5:Bool×(List (List Dat))×(List (List Dat)),[dF s]=l04Copy_con.args i5/\l04Copy_con.pre i5/\((Value.bool i5.1=Value.bool (decide ((Fr.max r s).z<0)))/\(i5.2.1=L (Fr.max r s).z.natAbs)/\(i5.2.2=L (Fr.max r s).d))))))))))/\((!(!i1.2.2.2))=false->((eqN (Fr.max r s)))))) (by kernel_rfl) ?_
 have h1:=r.nlz
 have h2:=r.nld
 have lr:=L_len r.d
 have lz:=L_len r.z.natAbs
 have h3:=s.nlz
 have h4:=s.nld
 have ls:=L_len s.d
 have lw:=L_len s.z.natAbs
 refine ⟨(decide (r.z<0),(L r.z.natAbs),(L r.d),r.good),by
  rfl,by
  try dsimp only [sRatOk_con]
  exact ⟨L_has _ (by omega),L_has _ (by omega),by omega,by omega,ratOkR_zd _⟩,?_⟩
 refine And.symm ⟨λ c4=>?_,λ c4=>?_⟩
 ·replace c4:(!(!r.good))=false:=c4
  try simp only [nrm] at c4
  have hE:Fr.max r s=Fr.none:=Fr.bin_bad _ (.inl (bad_d c4))
  refine eqN_of ?_
  rw [hE];done
 replace c4:(!(!r.good))=true:=c4
 try simp only [nrm] at c4
 refine ⟨(decide (s.z<0),(L s.z.natAbs),(L s.d),s.good),by
  rfl,by
  try dsimp only [sRatOk_con]
  exact ⟨L_has _ (by omega),L_has _ (by omega),by omega,by omega,ratOkR_zd _⟩,?_⟩
 refine ⟨λ c8=>?_,λ c8=>?_⟩
 ·replace c8:(!s.good)=true:=c8
  try simp only [nrm] at c8
  have hE:Fr.max r s=Fr.none:=Fr.bin_bad _ (.inr (bad_d c8))
  refine eqN_of ?_
  rw [hE];done
 replace c8:(!s.good)=false:=c8
 try simp only [nrm] at c8
 refine ⟨(r,s),by
  rfl,by
  exact ⟨good_d c4,good_d c8⟩,?_⟩
 refine ⟨λ c15=>?_,λ c15=>?_⟩
 ·replace c15:(decide ((Fr.cmp r s)≥(0:Int)))=true:=c15
  try simp only [nrm] at c15
  have hE:Fr.max r s=r:=by rw [Fr.max_pick,if_neg (λ h=>h.elim (good_d c4) (good_d c8)),if_pos (by omega)]
  refine ⟨(decide (r.z<0),(L r.z.natAbs),(L r.d)),by
   rfl,by
   show (L r.z.natAbs).length<=1073741824/\(L r.d).length<=1073741824
   exact ⟨by omega,by omega⟩,?_⟩
  refine ⟨?_,?_,?_⟩
  ·rw [hE];done
  ·rw [hE];done
  rw [hE];done
 replace c15:(decide ((Fr.cmp r s)≥(0:Int)))=false:=c15
 try simp only [nrm] at c15
 have hE:Fr.max r s=s:=by rw [Fr.max_pick,if_neg (λ h=>h.elim (good_d c4) (good_d c8)),if_neg (by omega)]
 refine ⟨(decide (s.z<0),(L s.z.natAbs),(L s.d)),by
  rfl,by
  show (L s.z.natAbs).length<=1073741824/\(L s.d).length<=1073741824
  exact ⟨by omega,by omega⟩,?_⟩
 refine ⟨?_,?_,?_⟩
 ·rw [hE];done
 ·rw [hE];done
 rw [hE];done
end Go.Proofs.YtlejeadlmpkffaaGreat
