import Derived.Test.YtlejeadlmpkffaaGreatMaRkN
import Derived.Test.YtlejeadlmpkffaaGreatMaNum2
namespace Go.Proofs.YtlejeadlmpkffaaGreat
set_option maxRecDepth 100000
set_option linter.unusedVariables false
set_option linter.unusedSimpArgs false
open Go.RowKit
theorem limb_step {r d:Nat} (hr:r<BB) (hd:d<BB):IntKind.i64.wrap (IntKind.i64.wrap (((r:Nat):Int)*(1000000000:Int))+((d:Nat):Int))=((r*BB+d:Nat):Int):=by
 unfold BB at *
 rw [wrap64 (x:=(r:Int)*1000000000) (by omega) (by omega),wrap64 (by omega) (by omega)]
 omega
theorem set_hi' {N q j x:Nat} (hj:0<j) (hN:j-1<N) (hx:x=dgt q (j-1)):(rowsN (digN N (hi q j))).set (j-1) (((rowsN (digN N (hi q j))).getD (j-1) []).set 0 (Dat.int ((x:Nat):Int)))=rowsN (digN N (hi q (j-1))):=by
 obtain ⟨m,rfl⟩:∃ m,j=m+1:=⟨j-1,by omega⟩
 exact set_hi hN hx
theorem mid_step {lo hi:Nat} (h1:lo<=999999999) (h2:hi<=999999999):IntKind.i64.wrap (Int.tdiv (IntKind.i64.wrap (IntKind.i64.wrap (((lo:Nat):Int)+((hi:Nat):Int))+(1:Int))) (2:Int))=(((lo+hi+1)/2:Nat):Int):=by
 rw [wrap64 (x:=(lo:Int)+hi) (by omega) (by omega),wrap64 (x:=(lo:Int)+hi+1) (by omega) (by omega),show (lo:Int)+hi+1=((lo+hi+1:Nat):Int) by omega,show (2:Int)=((2:Nat):Int) from rfl,tdivN,wrapN (by omega)]
theorem wrap_pred {j:Nat} (h:j<=2147483648) (h0:0<j):IntKind.i64.wrap (((j:Nat):Int)-1-(1:Int))=(((j-1:Nat):Int)-1):=by rw [wrap64 (by omega) (by omega)];omega
theorem nl_lt_BB {n:Nat} (h:n<BB):nl n<=1:=(nl_le' _ _).2 (by rw [Nat.pow_one];exact h)
theorem digit_nl {a b:Nat} (h:a<b*BB):nl a<=nl b+1:=(nl_le' _ _).2 (Nat.lt_of_lt_of_le h (by rw [Nat.pow_succ];exact Nat.mul_le_mul_right _ (Nat.le_of_lt (lt_nl b))))
theorem gcd_swap (x y:Nat):y.gcd (x%y)=x.gcd y:=by rw [Nat.gcd_comm,← Nat.gcd_rec,Nat.gcd_comm]
def natCmp_con:Con:={ ι:=Nat×Nat,pre:=λ i=>nl i.1<=1048576/\nl i.2<=1048576,args:=λ i=>[.one (.sl 3 [.int] (L i.1)),.one (.sl 3 [.int] (L i.2))],res:=λ i=>⟨false,[none],[.im (Value.int .i64 (cmpN i.1 i.2))]⟩ }
theorem natCmp_ok:natCmp_con.Ok Tryz.prog 144:=by
 refine fok (X:=⟨tt,[(176,cmpInt_con)],[],41,[]⟩) mixed tt_ok (CTok.cons cmpInt_ok (CTok.nil _)) Tryz.func144 (λ (i:Nat×Nat)=>[(4,.mk 3 (Nat) (λ x1=>{ tm:=[(0,.one (.one (.ext 1))),(1,.one (.one (.ext 2))),(5,.one (.one (.im (Value.int .i64 (((x1:Nat):Int)-1)))))],en:=[(1,.view 3 [.int] (L i.1) []),(2,.view 3 [.int] (L i.2) [])] }) (λ x1=>x1<=nl i.1/\nl i.1=nl i.2/\i.1/BB^x1=i.2/BB^x1) (λ x1=>x1) (λ _=>[]))]) ?_
 rintro ⟨a,b⟩ hpre
 have hpre:nl a<=1048576/\nl b<=1048576:=hpre
 refine by_nf (q:=(((nI ((L a).length)) != (nI ((L b).length)))=true->(∃ i1:Int×Int,[DA.one (cI (nI ((L a).length))),DA.one (cI (nI ((L b).length)))]=cmpInt_con.args i1/\cmpInt_con.pre i1/\((vI (cmpI i1.1 i1.2)=vI (cmpN a b)))))/\(((nI ((L a).length)) != (nI ((L b).length)))=false->((∃ x1:Nat,(x1<=nl a/\nl a=nl b/\a/BB^x1=b/BB^x1)/\((vI (wR ((nI ((L a).length))-(1:Int)))=vI ((nI x1)-1))/\(rf (L a))/\(rf (L b))))/\∀ x1:Nat,(x1<=nl a/\nl a=nl b/\a/BB^x1=b/BB^x1)->(((decide (((nI x1)-1)≥(0:Int)))=true->((0<=((nI x1)-1)/\((nI x1)-1)<((L a).length:Int))/\((((nI x1)-1).toNat<(L a).length)/\((0<=((nI x1)-1)/\((nI x1)-1)<((L b).length:Int))/\((((nI x1)-1).toNat<(L b).length)/\(((((((L a).getD (((nI x1)-1).toNat) []).getD 0 (.int 0))).n != ((((L b).getD (((nI x1)-1).toNat) []).getD 0 (.int 0))).n)=true->((0<=((nI x1)-1)/\((nI x1)-1)<((L a).length:Int))/\((((nI x1)-1).toNat<(L a).length)/\((0<=((nI x1)-1)/\((nI x1)-1)<((L b).length:Int))/\((((nI x1)-1).toNat<(L b).length)/\(∃ i2:Int×Int,[DA.one (cI (((((L a).getD (((nI x1)-1).toNat) []).getD 0 (.int 0))).n)),DA.one (cI (((((L b).getD (((nI x1)-1).toNat) []).getD 0 (.int 0))).n))]=cmpInt_con.args i2/\cmpInt_con.pre i2/\((vI (cmpI i2.1 i2.2)=vI (cmpN a b)))))))))/\((((((L a).getD (((nI x1)-1).toNat) []).getD 0 (.int 0))).n != ((((L b).getD (((nI x1)-1).toNat) []).getD 0 (.int 0))).n)=false->(∃ y2:Nat,(y2<=nl a/\nl a=nl b/\a/BB^y2=b/BB^y2)/\(y2<x1)/\((vI (wR (((nI x1)-1)-(1:Int)))=vI ((nI y2)-1))/\(rf (L a))/\(rf (L b)))))))))))/\((decide (((nI x1)-1)≥(0:Int)))=false->((vI (0:Int)=vI (cmpN a b)))))))) (by kernel_rfl) ?_
 delta vI wR nI
 have ha:=L_len a
 have hb:=L_len b
 refine ⟨λ c1=>?_,λ c1=>?_⟩
 ·try simp only [nrm] at c1
  refine ⟨((((L a).length:Nat):Int),(((L b).length:Nat):Int)),by
   rfl,by
   trivial,?_⟩
  rw [ha,hb,cmpN_nl (by omega)]
 try simp only [nrm] at c1
 refine ⟨⟨nl a,by
  exact ⟨Nat.le_refl _,by omega,by rw [Nat.div_eq_of_lt (lt_nl a),show nl a=nl b by omega,Nat.div_eq_of_lt (lt_nl b)]⟩,?_⟩,?_⟩
 ·refine ⟨?_,rfl,rfl⟩
  rw [ha,wrap64 (by omega) (by omega)]
 intro (j:Nat) hki6
 have hki6:j<=nl a/\nl a=nl b/\a/BB^j=b/BB^j:=hki6
 have hj:0<j->((((j:Nat):Int)-1).toNat)=j-1:=λ h=>by omega
 refine And.symm ⟨λ c11=>?_,λ c11=>?_⟩
 ·try simp only [nrm] at c11
  have hj0:j=0:=by omega
  subst hj0
  have e:=hki6.2.2
  rw [Nat.pow_zero,Nat.div_one,Nat.div_one] at e
  rw [e,cmpN_eq]
 try simp only [nrm] at c11
 refine ao (by omega) λ o12=>?_
 refine ao (by omega) λ o13=>?_
 refine ao (by omega) λ o14=>?_
 refine ao (by omega) λ o15=>?_
 refine And.symm ⟨λ c16=>?_,λ c16=>?_⟩
 ·try simp only [nrm] at c16
  rw [hj (by omega),L_n,L_n] at c16
  refine ⟨j-1,by
   exact ⟨by omega,hki6.2.1,div_inj (k:=j-1) (by rw [Nat.sub_add_cancel (by omega)];exact hki6.2.2) (by omega)⟩,by
   omega,?_⟩
  refine ⟨?_,rfl,rfl⟩
  rw [wrap_pred (by omega) (by omega)]
 try simp only [nrm] at c16
 rw [hj (by omega),L_n,L_n] at c16
 refine ao (by omega) λ o17=>?_
 refine ao (by omega) λ o18=>?_
 refine ao (by omega) λ o19=>?_
 refine ao (by omega) λ o20=>?_
 refine ⟨(((((L a).getD ((((j:Nat):Int)-1).toNat) []).getD 0 (.int 0))).n,((((L b).getD ((((j:Nat):Int)-1).toNat) []).getD 0 (.int 0))).n),by
  rfl,by
  trivial,?_⟩
 rw [hj (by omega),L_n,L_n,cmpN_dgt (k:=j-1) (by rw [Nat.sub_add_cancel (by omega)];exact hki6.2.2) (by omega)]
def natAdd_con:Con:={ ι:=Nat×Nat,pre:=λ i=>nl i.1<=1048576/\nl i.2<=1048576,args:=λ i=>[.one (.sl 3 [.int] (L i.1)),.one (.sl 3 [.int] (L i.2))],res:=λ i=>⟨false,[none],[.own 3 [.int] (L (i.1+i.2))]⟩ }
theorem natAdd_ok:natAdd_con.Ok Tryz.prog 162:=by
 refine fok (X:=⟨tt,[(177,limb_con)],[],49,[]⟩) mixed tt_ok (CTok.cons limb_ok (CTok.nil _)) Tryz.func162 (λ (i:Nat×Nat)=>[(4,.mk 4 (Nat) (λ x1=>{ tm:=[(0,.one (.one (.ext 1))),(1,.one (.one (.ext 2))),(5,.one (.one (.ext 3))),(6,.one (.one (.im (Value.int .i64 ((carA i.1 i.2 x1:Nat):Int))))),(7,.one (.one (.im (Value.int .i64 ((x1:Nat):Int)))))],en:=[(1,.view 3 [.int] (L i.1) []),(2,.view 3 [.int] (L i.2) []),(3,.own 3 [.int] (rowsN (digN x1 (i.1+i.2))))] }) (λ x1=>x1<=max (nl i.1) (nl i.2)+1/\(x1=0∨BB^(x1-1)<=i.1+i.2)) (λ x1=>max (nl i.1) (nl i.2)+2-x1) (λ _=>[]))]) ?_
 rintro ⟨a,b⟩ hpre
 have hpre:nl a<=1048576/\nl b<=1048576:=hpre
 refine by_nf (q:=(0<=(0:Int))/\(((0:Int)<=(wR ((max (nI ((L a).length)) (nI ((L b).length)))+(1:Int))))/\(((wR ((max (nI ((L a).length)) (nI ((L b).length)))+(1:Int)))<=1073741824)/\((∃ x1:Nat,(x1<=max (nl a) (nl b)+1/\(x1=0∨BB^(x1-1)<=a+b))/\((vI (0:Int)=vI (nI (carA a b x1)))/\(vI (0:Int)=vI (nI x1))/\(rf (L a))/\(rf (L b))/\((List.replicate 0 [Dat.int (0:Int)])=(rowsN (digN x1 (a+b))))))/\∀ x1:Nat,(x1<=max (nl a) (nl b)+1/\(x1=0∨BB^(x1-1)<=a+b))->(((!(decide ((nI x1)<(nI ((L a).length)))))=true->(((!(decide ((nI x1)<(nI ((L b).length)))))=true->(((decide ((nI (carA a b x1))>(0:Int)))=true->(∃ i1:Nat×Nat,[DA.one (cS (L a)),DA.one (cI (nI x1))]=limb_con.args i1/\limb_con.pre i1/\(∃ i2:Nat×Nat,[DA.one (cS (L b)),DA.one (cI (nI x1))]=limb_con.args i2/\limb_con.pre i2/\(((1000000000:Int)≠0)/\(((rowsN (digN x1 (a+b))).length+([[Dat.int (Int.tmod (wR ((wR ((nI (dgt i1.1 i1.2))+(nI (dgt i2.1 i2.2))))+(nI (carA a b x1)))) (1000000000:Int))]]:List (List Dat)).length<=1073741824)/\(((1000000000:Int)≠0)/\(∃ y2:Nat,(y2<=max (nl a) (nl b)+1/\(y2=0∨BB^(y2-1)<=a+b))/\(max (nl a) (nl b)+2-y2<max (nl a) (nl b)+2-x1)/\((vI (wR (Int.tdiv (wR ((wR ((nI (dgt i1.1 i1.2))+(nI (dgt i2.1 i2.2))))+(nI (carA a b x1)))) (1000000000:Int)))=vI (nI (carA a b y2)))/\(vI (wR ((nI x1)+(1:Int)))=vI (nI y2))/\(rf (L a))/\(rf (L b))/\(((rowsN (digN x1 (a+b)))++([[Dat.int (Int.tmod (wR ((wR ((nI (dgt i1.1 i1.2))+(nI (dgt i2.1 i2.2))))+(nI (carA a b x1)))) (1000000000:Int))]]:List (List Dat)))=(rowsN (digN y2 (a+b))))))))))))/\((decide ((nI (carA a b x1))>(0:Int)))=false->(((rowsN (digN x1 (a+b)))=L (a+b))))))/\((!(decide ((nI x1)<(nI ((L b).length)))))=false->(∃ i3:Nat×Nat,[DA.one (cS (L a)),DA.one (cI (nI x1))]=limb_con.args i3/\limb_con.pre i3/\(∃ i4:Nat×Nat,[DA.one (cS (L b)),DA.one (cI (nI x1))]=limb_con.args i4/\limb_con.pre i4/\(((1000000000:Int)≠0)/\(((rowsN (digN x1 (a+b))).length+([[Dat.int (Int.tmod (wR ((wR ((nI (dgt i3.1 i3.2))+(nI (dgt i4.1 i4.2))))+(nI (carA a b x1)))) (1000000000:Int))]]:List (List Dat)).length<=1073741824)/\(((1000000000:Int)≠0)/\(∃ y3:Nat,(y3<=max (nl a) (nl b)+1/\(y3=0∨BB^(y3-1)<=a+b))/\(max (nl a) (nl b)+2-y3<max (nl a) (nl b)+2-x1)/\((vI (wR (Int.tdiv (wR ((wR ((nI (dgt i3.1 i3.2))+(nI (dgt i4.1 i4.2))))+(nI (carA a b x1)))) (1000000000:Int)))=vI (nI (carA a b y3)))/\(vI (wR ((nI x1)+(1:Int)))=vI (nI y3))/\(rf (L a))/\(rf (L b))/\(((rowsN (digN x1 (a+b)))++([[Dat.int (Int.tmod (wR ((wR ((nI (dgt i3.1 i3.2))+(nI (dgt i4.1 i4.2))))+(nI (carA a b x1)))) (1000000000:Int))]]:List (List Dat)))=(rowsN (digN y3 (a+b))))))))))))))/\((!(decide ((nI x1)<(nI ((L a).length)))))=false->(∃ i5:Nat×Nat,[DA.one (cS (L a)),DA.one (cI (nI x1))]=limb_con.args i5/\limb_con.pre i5/\(∃ i6:Nat×Nat,[DA.one (cS (L b)),DA.one (cI (nI x1))]=limb_con.args i6/\limb_con.pre i6/\(((1000000000:Int)≠0)/\(((rowsN (digN x1 (a+b))).length+([[Dat.int (Int.tmod (wR ((wR ((nI (dgt i5.1 i5.2))+(nI (dgt i6.1 i6.2))))+(nI (carA a b x1)))) (1000000000:Int))]]:List (List Dat)).length<=1073741824)/\(((1000000000:Int)≠0)/\(∃ y4:Nat,(y4<=max (nl a) (nl b)+1/\(y4=0∨BB^(y4-1)<=a+b))/\(max (nl a) (nl b)+2-y4<max (nl a) (nl b)+2-x1)/\((vI (wR (Int.tdiv (wR ((wR ((nI (dgt i5.1 i5.2))+(nI (dgt i6.1 i6.2))))+(nI (carA a b x1)))) (1000000000:Int)))=vI (nI (carA a b y4)))/\(vI (wR ((nI x1)+(1:Int)))=vI (nI y4))/\(rf (L a))/\(rf (L b))/\(((rowsN (digN x1 (a+b)))++([[Dat.int (Int.tmod (wR ((wR ((nI (dgt i5.1 i5.2))+(nI (dgt i6.1 i6.2))))+(nI (carA a b x1)))) (1000000000:Int))]]:List (List Dat)))=(rowsN (digN y4 (a+b))))))))))))))))) (by kernel_rfl) ?_
 delta vI wR nI
 have ha:=L_len a
 have hb:=L_len b
 have hw0:IntKind.i64.wrap ((max (((L a).length:Nat):Int) (((L b).length:Nat):Int))+(1:Int))=((max (nl a) (nl b)+1:Nat):Int):=by rw [ha,hb,wrap64 (by omega) (by omega)];omega
 refine ao (by omega) λ o1=>?_
 refine ao (by omega) λ o2=>?_
 refine ao (by omega) λ o3=>?_
 refine ⟨⟨0,by
  exact ⟨Nat.zero_le _,.inl rfl⟩,?_⟩,?_⟩
 ·refine ⟨?_,?_,rfl,rfl,?_⟩
  ·rw [carA_zero];rfl
  ·rfl
  rfl
 intro (i:Nat) hki4
 have hki4:i<=max (nl a) (nl b)+1/\(i=0∨BB^(i-1)<=a+b):=hki4
 have da:=dgt_i a i
 have db:=dgt_i b i
 have hc:=carA_le a b i
 have hn:IntKind.i64.wrap (IntKind.i64.wrap (((dgt a i:Nat):Int)+((dgt b i:Nat):Int))+((carA a b i:Nat):Int))=((dgt a i+dgt b i+carA a b i:Nat):Int):=by rw [wrap64 (x:=(dgt a i:Int)+_) (by omega) (by omega),wrap64 (by omega) (by omega)];omega
 have h1:=addStep a b i
 have hl:(rowsN (digN i (a+b))).length=i:=by rw [rowsN_len,digN_len]
 refine And.symm ⟨λ c11=>?_,λ c11=>?_⟩
 ·try simp only [nrm] at c11
  refine ⟨(a,i),by
   rfl,by
   show nl a<=1048576/\i<=4194304
   exact ⟨by omega,by omega⟩,?_⟩
  refine ⟨(b,i),by
   rfl,by
   show nl b<=1048576/\i<=4194304
   exact ⟨by omega,by omega⟩,?_⟩
  refine ao (by omega) λ o55=>?_
  refine ao (a:=(rowsN (digN i (a+b))).length+([[Dat.int (Int.tmod (IntKind.i64.wrap ((IntKind.i64.wrap (((dgt a i:Nat):Int)+((dgt b i:Nat):Int)))+((carA a b i:Nat):Int))) (1000000000:Int))]]:List (List Dat)).length<=1073741824) (by simp only [hl,List.length_cons,List.length_nil];omega) λ o56=>?_
  refine ao (by omega) λ o57=>?_
  refine ⟨i+1,by
   have hz:i<nl a∨i<nl b∨0<carA a b i:=by omega
   exact ⟨by (rcases hz with h|h|h) <;> first|omega|(have:=carA_idx h;omega),.inr (add_step_le hz)⟩,by
   omega,?_⟩
  refine ⟨?_,?_,rfl,rfl,?_⟩
  ·rw [hn,tdivB,h1.2,wrapN (by have:=carA_le a b (i+1);omega)]
  ·exact vint (wrap64 (by omega) (by omega))
  rw [hn,tmodB,h1.1,rowsN_snoc,← digN_succ]
 try simp only [nrm] at c11
 refine And.symm ⟨λ c12=>?_,λ c12=>?_⟩
 ·try simp only [nrm] at c12
  refine ⟨(a,i),by
   rfl,by
   show nl a<=1048576/\i<=4194304
   exact ⟨by omega,by omega⟩,?_⟩
  refine ⟨(b,i),by
   rfl,by
   show nl b<=1048576/\i<=4194304
   exact ⟨by omega,by omega⟩,?_⟩
  refine ao (by omega) λ o38=>?_
  refine ao (a:=(rowsN (digN i (a+b))).length+([[Dat.int (Int.tmod (IntKind.i64.wrap ((IntKind.i64.wrap (((dgt a i:Nat):Int)+((dgt b i:Nat):Int)))+((carA a b i:Nat):Int))) (1000000000:Int))]]:List (List Dat)).length<=1073741824) (by simp only [hl,List.length_cons,List.length_nil];omega) λ o39=>?_
  refine ao (by omega) λ o40=>?_
  refine ⟨i+1,by
   have hz:i<nl a∨i<nl b∨0<carA a b i:=by omega
   exact ⟨by (rcases hz with h|h|h) <;> first|omega|(have:=carA_idx h;omega),.inr (add_step_le hz)⟩,by
   omega,?_⟩
  refine ⟨?_,?_,rfl,rfl,?_⟩
  ·rw [hn,tdivB,h1.2,wrapN (by have:=carA_le a b (i+1);omega)]
  ·exact vint (wrap64 (by omega) (by omega))
  rw [hn,tmodB,h1.1,rowsN_snoc,← digN_succ]
 try simp only [nrm] at c12
 refine And.symm ⟨λ c13=>?_,λ c13=>?_⟩
 ·try simp only [nrm] at c13
  exact add_end (by omega) (by omega) (by omega) hki4.2
 try simp only [nrm] at c13
 refine ⟨(a,i),by
  rfl,by
  show nl a<=1048576/\i<=4194304
  exact ⟨by omega,by omega⟩,?_⟩
 refine ⟨(b,i),by
  rfl,by
  show nl b<=1048576/\i<=4194304
  exact ⟨by omega,by omega⟩,?_⟩
 refine ao (by omega) λ o20=>?_
 refine ao (a:=(rowsN (digN i (a+b))).length+([[Dat.int (Int.tmod (IntKind.i64.wrap ((IntKind.i64.wrap (((dgt a i:Nat):Int)+((dgt b i:Nat):Int)))+((carA a b i:Nat):Int))) (1000000000:Int))]]:List (List Dat)).length<=1073741824) (by simp only [hl,List.length_cons,List.length_nil];omega) λ o21=>?_
 refine ao (by omega) λ o22=>?_
 refine ⟨i+1,by
  have hz:i<nl a∨i<nl b∨0<carA a b i:=by omega
  exact ⟨by (rcases hz with h|h|h) <;> first|omega|(have:=carA_idx h;omega),.inr (add_step_le hz)⟩,by
  omega,?_⟩
 refine ⟨?_,?_,rfl,rfl,?_⟩
 ·rw [hn,tdivB,h1.2,wrapN (by have:=carA_le a b (i+1);omega)]
 ·exact vint (wrap64 (by omega) (by omega))
 rw [hn,tmodB,h1.1,rowsN_snoc,← digN_succ]
def natSub_con:Con:={ ι:=Nat×Nat,pre:=λ i=>nl i.1<=1048576/\nl i.2<=1048576/\i.2<=i.1,args:=λ i=>[.one (.sl 3 [.int] (L i.1)),.one (.sl 3 [.int] (L i.2))],res:=λ i=>⟨false,[none],[.view 3 [.int] (L (i.1-i.2))]⟩ }
theorem natSub_ok:natSub_con.Ok Tryz.prog 148:=by
 refine fok (X:=⟨tt,[(177,limb_con),(146,trimmed_con)],[],38,[]⟩) mixed tt_ok (CTok.cons limb_ok (CTok.cons trimmed_ok (CTok.nil _))) Tryz.func148 (λ (i:Nat×Nat)=>[(4,.mk 4 (Nat) (λ x1=>{ tm:=[(0,.one (.one (.ext 1))),(1,.one (.one (.ext 2))),(13,.one (.one (.im (Value.int .i64 (((L i.1).length:Nat):Int))))),(14,.one (.one (.im (Value.int .i64 ((x1:Nat):Int))))),(5,.one (.one (.ext 3))),(6,.one (.one (.im (Value.int .i64 ((brw i.1 i.2 x1:Nat):Int)))))],en:=[(1,.view 3 [.int] (L i.1) []),(2,.view 3 [.int] (L i.2) []),(3,.own 3 [.int] (rowsN (digN x1 (i.1-i.2))))] }) (λ x1=>x1<=nl i.1) (λ x1=>nl i.1-x1) (λ _=>[]))]) ?_
 rintro ⟨a,b⟩ hpre
 have hpre:nl a<=1048576/\nl b<=1048576/\b<=a:=hpre
 refine by_nf (q:=(0<=(0:Int))/\(((0:Int)<=(nI ((L a).length)))/\(((nI ((L a).length))<=1073741824)/\((∃ x1:Nat,(x1<=nl a)/\((rf (vI (nI ((L a).length))))/\(vI (0:Int)=vI (nI x1))/\(vI (0:Int)=vI (nI (brw a b x1)))/\(rf (L a))/\(rf (L b))/\((List.replicate 0 [Dat.int (0:Int)])=(rowsN (digN x1 (a-b))))))/\∀ x1:Nat,(x1<=nl a)->(((decide ((nI x1)<(nI ((L a).length))))=true->((0<=(nI x1)/\(nI x1)<((L a).length:Int))/\((x1<(L a).length)/\(∃ i1:Nat×Nat,[DA.one (cS (L b)),DA.one (cI (nI x1))]=limb_con.args i1/\limb_con.pre i1/\(((decide ((wR ((wR (((((L a).getD x1 []).getD 0 (.int 0))).n-(nI (dgt i1.1 i1.2))))-(nI (brw a b x1))))<(0:Int)))=true->(((rowsN (digN x1 (a-b))).length+([[Dat.int (wR ((wR ((wR (((((L a).getD x1 []).getD 0 (.int 0))).n-(nI (dgt i1.1 i1.2))))-(nI (brw a b x1))))+(1000000000:Int)))]]:List (List Dat)).length<=1073741824)/\(∃ y2:Nat,(y2<=nl a)/\(nl a-y2<nl a-x1)/\((rf (vI (nI ((L a).length))))/\(vI (wR ((nI x1)+(1:Int)))=vI (nI y2))/\(vI (1:Int)=vI (nI (brw a b y2)))/\(rf (L a))/\(rf (L b))/\(((rowsN (digN x1 (a-b)))++([[Dat.int (wR ((wR ((wR (((((L a).getD x1 []).getD 0 (.int 0))).n-(nI (dgt i1.1 i1.2))))-(nI (brw a b x1))))+(1000000000:Int)))]]:List (List Dat)))=(rowsN (digN y2 (a-b))))))))/\((decide ((wR ((wR (((((L a).getD x1 []).getD 0 (.int 0))).n-(nI (dgt i1.1 i1.2))))-(nI (brw a b x1))))<(0:Int)))=false->(((rowsN (digN x1 (a-b))).length+([[Dat.int (wR ((wR (((((L a).getD x1 []).getD 0 (.int 0))).n-(nI (dgt i1.1 i1.2))))-(nI (brw a b x1))))]]:List (List Dat)).length<=1073741824)/\(∃ y3:Nat,(y3<=nl a)/\(nl a-y3<nl a-x1)/\((rf (vI (nI ((L a).length))))/\(vI (wR ((nI x1)+(1:Int)))=vI (nI y3))/\(vI (0:Int)=vI (nI (brw a b y3)))/\(rf (L a))/\(rf (L b))/\(((rowsN (digN x1 (a-b)))++([[Dat.int (wR ((wR (((((L a).getD x1 []).getD 0 (.int 0))).n-(nI (dgt i1.1 i1.2))))-(nI (brw a b x1))))]]:List (List Dat)))=(rowsN (digN y3 (a-b)))))))))))))/\((decide ((nI x1)<(nI ((L a).length))))=false->(∃ i2:(List Nat),[DA.one (cS (rowsN (digN x1 (a-b))))]=trimmed_con.args i2/\trimmed_con.pre i2/\((L (limbs i2)=L (a-b)))))))))) (by kernel_rfl) ?_
 delta vI wR nI
 have ha:=L_len a
 have hb:=L_len b
 refine ao (by omega) λ o1=>?_
 refine ao (by omega) λ o2=>?_
 refine ao (by omega) λ o3=>?_
 refine ⟨⟨0,by
  omega,?_⟩,?_⟩
 ·refine ⟨rfl,?_,?_,rfl,rfl,?_⟩
  ·rfl
  ·rw [brw_zero];rfl
  rfl
 intro (i:Nat) hki4
 have hki4:i<=nl a:=hki4
 have da:=dgt_i a i
 have db:=dgt_i b i
 have hc:=brw_le a b i
 have h1:=subStep hpre.2.2 i
 have hn:IntKind.i64.wrap (IntKind.i64.wrap (((((L a).getD i []).getD 0 (.int 0))).n-((dgt b i:Nat):Int))-((brw a b i:Nat):Int))=(dgt a i:Int)-dgt b i-brw a b i:=by rw [L_n,wrap64 (x:=(dgt a i:Int)-_) (by omega) (by omega),wrap64 (by omega) (by omega)]
 have hl:(rowsN (digN i (a-b))).length=i:=by rw [rowsN_len,digN_len]
 refine And.symm ⟨λ c12=>?_,λ c12=>?_⟩
 ·try simp only [nrm] at c12
  refine ⟨(digN i (a-b)),by
   rfl,by
   exact ⟨by rw [digN_len];omega,digN_lt _ _⟩,?_⟩
  rw [trim_digN (by have:=nl_mono (Nat.sub_le a b);omega)]
 try simp only [nrm] at c12
 refine ao (by omega) λ o13=>?_
 refine ao (by omega) λ o14=>?_
 refine ⟨(b,i),by
  rfl,by
  show nl b<=1048576/\i<=4194304
  exact ⟨by omega,by omega⟩,?_⟩
 refine And.symm ⟨λ c18=>?_,λ c18=>?_⟩
 ·replace c18:(decide ((IntKind.i64.wrap ((IntKind.i64.wrap (((((L a).getD i []).getD 0 (.int 0))).n-((dgt b i:Nat):Int)))-((brw a b i:Nat):Int)))<(0:Int)))=false:=c18
  try simp only [nrm] at c18
  rw [hn] at c18
  have hq:=h1.2 c18
  refine ao (a:=(rowsN (digN i (a-b))).length+([[Dat.int (IntKind.i64.wrap ((IntKind.i64.wrap (((((L a).getD i []).getD 0 (.int 0))).n-((dgt b i:Nat):Int)))-((brw a b i:Nat):Int)))]]:List (List Dat)).length<=1073741824) (by simp only [hl,List.length_cons,List.length_nil];omega) λ o29=>?_
  refine ⟨i+1,by
   omega,by
   omega,?_⟩
  refine ⟨rfl,?_,?_,rfl,rfl,?_⟩
  ·exact vint (wrap64 (by omega) (by omega))
  ·rw [hq.2];rfl
  rw [hn,hq.1,rowsN_snoc,← digN_succ]
 replace c18:(decide ((IntKind.i64.wrap ((IntKind.i64.wrap (((((L a).getD i []).getD 0 (.int 0))).n-((dgt b i:Nat):Int)))-((brw a b i:Nat):Int)))<(0:Int)))=true:=c18
 try simp only [nrm] at c18
 rw [hn] at c18
 have hq:=h1.1 c18
 have hw:IntKind.i64.wrap ((dgt a i:Int)-dgt b i-brw a b i+(1000000000:Int))=(dgt a i:Int)-dgt b i-brw a b i+1000000000:=by rw [wrap64 (by omega) (by omega)]
 refine ao (a:=(rowsN (digN i (a-b))).length+([[Dat.int (IntKind.i64.wrap ((IntKind.i64.wrap ((IntKind.i64.wrap (((((L a).getD i []).getD 0 (.int 0))).n-((dgt b i:Nat):Int)))-((brw a b i:Nat):Int)))+(1000000000:Int)))]]:List (List Dat)).length<=1073741824) (by simp only [hl,List.length_cons,List.length_nil];omega) λ o19=>?_
 refine ⟨i+1,by
  omega,by
  omega,?_⟩
 refine ⟨rfl,?_,?_,rfl,rfl,?_⟩
 ·exact vint (wrap64 (by omega) (by omega))
 ·rw [hq.2];rfl
 rw [hn,hw,hq.1,rowsN_snoc,← digN_succ]
def natMul_con:Con:={ ι:=Nat×Nat,pre:=λ i=>nl i.1<=524288/\nl i.2<=524288,args:=λ i=>[.one (.sl 3 [.int] (L i.1)),.one (.sl 3 [.int] (L i.2))],res:=λ i=>⟨false,[none],[.view 3 [.int] (L (i.1*i.2))]⟩ }
theorem natMul_ok:natMul_con.Ok Tryz.prog 149:=by
 refine fok (X:=⟨tt,[(177,limb_con),(146,trimmed_con)],[],60,[]⟩) mixed tt_ok (CTok.cons limb_ok (CTok.cons trimmed_ok (CTok.nil _))) Tryz.func149 (λ (i:Nat×Nat)=>[(3,.mk 4 (Nat) (λ x1=>{ tm:=[(0,.one (.one (.ext 1))),(1,.one (.one (.ext 2))),(17,.one (.one (.ext 1))),(18,.one (.one (.im (Value.int .i64 (((L i.1).length:Nat):Int))))),(19,.one (.one (.im (Value.int .i64 ((x1:Nat):Int))))),(5,.one (.one (.ext 3)))],en:=[(1,.view 3 [.int] (L i.1) []),(2,.view 3 [.int] (L i.2) []),(3,.own 3 [.int] (rowsN (digN (nl i.1+nl i.2) (i.1%BB^x1*i.2))))] }) (λ x1=>x1<=nl i.1) (λ x1=>nl i.1-x1) (λ x1=>[(7,.mk 4 (Nat×Nat×Nat) (λ x2=>{ tm:=[(0,.one (.one (.ext 1))),(1,.one (.one (.ext 2))),(17,.one (.one (.ext 1))),(18,.one (.one (.im (Value.int .i64 (((L i.1).length:Nat):Int))))),(19,.one (.one (.im (Value.int .i64 ((x1:Nat):Int))))),(6,.one (.one (.im (Value.int .i64 ((x1:Nat):Int))))),(7,.one (.one (.im (Value.int .i64 ((((L i.1).getD x1 []).getD 0 (.int 0))).n)))),(5,.one (.one (.ext 3))),(8,.one (.one (.im (Value.int .i64 ((x2.2.2:Nat):Int))))),(9,.one (.one (.im (Value.int .i64 ((x2.1:Nat):Int)))))],en:=[(1,.view 3 [.int] (L i.1) []),(2,.view 3 [.int] (L i.2) []),(3,.own 3 [.int] (rowsN (digN (nl i.1+nl i.2) x2.2.1)))] }) (λ x2=>x2.2.1+x2.2.2*BB^(x1+x2.1)=i.1%BB^x1*i.2+dgt i.1 x1*BB^x1*(i.2%BB^x2.1)/\x2.2.2<BB/\(x2.1<=nl i.2∨x2.2.2=0)/\x2.1<=nl i.2+1) (λ x2=>nl i.2+2-x2.1) (λ _=>[]))]))]) ?_
 rintro ⟨a,b⟩ hpre
 have hpre:nl a<=524288/\nl b<=524288:=hpre
 refine by_nf (q:=(0<=(wR ((nI ((L a).length))+(nI ((L b).length)))))/\(((wR ((nI ((L a).length))+(nI ((L b).length))))<=(wR ((nI ((L a).length))+(nI ((L b).length)))))/\(((wR ((nI ((L a).length))+(nI ((L b).length))))<=1073741824)/\((∃ x1:Nat,(x1<=nl a)/\((rf (vI (nI ((L a).length))))/\(vI (0:Int)=vI (nI x1))/\(rf (L a))/\(rf (L b))/\((List.replicate ((wR ((nI ((L a).length))+(nI ((L b).length)))).toNat) [Dat.int (0:Int)])=(rowsN (digN (nl a+nl b) (a%BB^x1*b))))))/\∀ x1:Nat,(x1<=nl a)->(((decide ((nI x1)<(nI ((L a).length))))=true->((0<=(nI x1)/\(nI x1)<((L a).length:Int))/\((x1<(L a).length)/\((∃ x2:Nat×Nat×Nat,(x2.2.1+x2.2.2*BB^(x1+x2.1)=a%BB^x1*b+dgt a x1*BB^x1*(b%BB^x2.1)/\x2.2.2<BB/\(x2.1<=nl b∨x2.2.2=0)/\x2.1<=nl b+1)/\((rf (vI (nI ((L a).length))))/\(rf (vI (nI x1)))/\(rf (vI (nI x1)))/\(rf (vI ((((L a).getD x1 []).getD 0 (.int 0))).n))/\(vI (0:Int)=vI (nI x2.2.2))/\(vI (0:Int)=vI (nI x2.1))/\(rf (L a))/\(rf (L b))/\((rowsN (digN (nl a+nl b) (a%BB^x1*b)))=(rowsN (digN (nl a+nl b) x2.2.1)))))/\∀ x2:Nat×Nat×Nat,(x2.2.1+x2.2.2*BB^(x1+x2.1)=a%BB^x1*b+dgt a x1*BB^x1*(b%BB^x2.1)/\x2.2.2<BB/\(x2.1<=nl b∨x2.2.2=0)/\x2.1<=nl b+1)->(((!(decide ((nI x2.1)<(nI ((L b).length)))))=true->(((decide ((nI x2.2.2)>(0:Int)))=true->((0<=(wR ((nI x1)+(nI x2.1)))/\(wR ((nI x1)+(nI x2.1)))<((rowsN (digN (nl a+nl b) x2.2.1)).length:Int))/\(((wR ((nI x1)+(nI x2.1))).toNat<(rowsN (digN (nl a+nl b) x2.2.1)).length)/\(∃ i1:Nat×Nat,[DA.one (cS (L b)),DA.one (cI (nI x2.1))]=limb_con.args i1/\limb_con.pre i1/\(((1000000000:Int)≠0)/\((0<=(wR ((nI x1)+(nI x2.1)))/\(wR ((nI x1)+(nI x2.1)))<((rowsN (digN (nl a+nl b) x2.2.1)).length:Int))/\(((wR ((nI x1)+(nI x2.1))).toNat<(rowsN (digN (nl a+nl b) x2.2.1)).length)/\(((1000000000:Int)≠0)/\(∃ y3:Nat×Nat×Nat,(y3.2.1+y3.2.2*BB^(x1+y3.1)=a%BB^x1*b+dgt a x1*BB^x1*(b%BB^y3.1)/\y3.2.2<BB/\(y3.1<=nl b∨y3.2.2=0)/\y3.1<=nl b+1)/\(nl b+2-y3.1<nl b+2-x2.1)/\((rf (vI (nI ((L a).length))))/\(rf (vI (nI x1)))/\(rf (vI (nI x1)))/\(rf (vI ((((L a).getD x1 []).getD 0 (.int 0))).n))/\(vI (wR (Int.tdiv (wR ((wR (((((rowsN (digN (nl a+nl b) x2.2.1)).getD ((wR ((nI x1)+(nI x2.1))).toNat) []).getD 0 (.int 0))).n+(wR (((((L a).getD x1 []).getD 0 (.int 0))).n*(nI (dgt i1.1 i1.2))))))+(nI x2.2.2))) (1000000000:Int)))=vI (nI y3.2.2))/\(vI (wR ((nI x2.1)+(1:Int)))=vI (nI y3.1))/\(rf (L a))/\(rf (L b))/\(((rowsN (digN (nl a+nl b) x2.2.1)).set ((wR ((nI x1)+(nI x2.1))).toNat) (((rowsN (digN (nl a+nl b) x2.2.1)).getD ((wR ((nI x1)+(nI x2.1))).toNat) []).set 0 (Dat.int (Int.tmod (wR ((wR (((((rowsN (digN (nl a+nl b) x2.2.1)).getD ((wR ((nI x1)+(nI x2.1))).toNat) []).getD 0 (.int 0))).n+(wR (((((L a).getD x1 []).getD 0 (.int 0))).n*(nI (dgt i1.1 i1.2))))))+(nI x2.2.2))) (1000000000:Int)))))=(rowsN (digN (nl a+nl b) y3.2.1)))))))))))))/\((decide ((nI x2.2.2)>(0:Int)))=false->(∃ y4:Nat,(y4<=nl a)/\(nl a-y4<nl a-x1)/\((rf (vI (nI ((L a).length))))/\(vI (wR ((nI x1)+(1:Int)))=vI (nI y4))/\(rf (L a))/\(rf (L b))/\((rowsN (digN (nl a+nl b) x2.2.1))=(rowsN (digN (nl a+nl b) (a%BB^y4*b)))))))))/\((!(decide ((nI x2.1)<(nI ((L b).length)))))=false->((0<=(wR ((nI x1)+(nI x2.1)))/\(wR ((nI x1)+(nI x2.1)))<((rowsN (digN (nl a+nl b) x2.2.1)).length:Int))/\(((wR ((nI x1)+(nI x2.1))).toNat<(rowsN (digN (nl a+nl b) x2.2.1)).length)/\(∃ i2:Nat×Nat,[DA.one (cS (L b)),DA.one (cI (nI x2.1))]=limb_con.args i2/\limb_con.pre i2/\(((1000000000:Int)≠0)/\((0<=(wR ((nI x1)+(nI x2.1)))/\(wR ((nI x1)+(nI x2.1)))<((rowsN (digN (nl a+nl b) x2.2.1)).length:Int))/\(((wR ((nI x1)+(nI x2.1))).toNat<(rowsN (digN (nl a+nl b) x2.2.1)).length)/\(((1000000000:Int)≠0)/\(∃ y5:Nat×Nat×Nat,(y5.2.1+y5.2.2*BB^(x1+y5.1)=a%BB^x1*b+dgt a x1*BB^x1*(b%BB^y5.1)/\y5.2.2<BB/\(y5.1<=nl b∨y5.2.2=0)/\y5.1<=nl b+1)/\(nl b+2-y5.1<nl b+2-x2.1)/\((rf (vI (nI ((L a).length))))/\(rf (vI (nI x1)))/\(rf (vI (nI x1)))/\(rf (vI ((((L a).getD x1 []).getD 0 (.int 0))).n))/\(vI (wR (Int.tdiv (wR ((wR (((((rowsN (digN (nl a+nl b) x2.2.1)).getD ((wR ((nI x1)+(nI x2.1))).toNat) []).getD 0 (.int 0))).n+(wR (((((L a).getD x1 []).getD 0 (.int 0))).n*(nI (dgt i2.1 i2.2))))))+(nI x2.2.2))) (1000000000:Int)))=vI (nI y5.2.2))/\(vI (wR ((nI x2.1)+(1:Int)))=vI (nI y5.1))/\(rf (L a))/\(rf (L b))/\(((rowsN (digN (nl a+nl b) x2.2.1)).set ((wR ((nI x1)+(nI x2.1))).toNat) (((rowsN (digN (nl a+nl b) x2.2.1)).getD ((wR ((nI x1)+(nI x2.1))).toNat) []).set 0 (Dat.int (Int.tmod (wR ((wR (((((rowsN (digN (nl a+nl b) x2.2.1)).getD ((wR ((nI x1)+(nI x2.1))).toNat) []).getD 0 (.int 0))).n+(wR (((((L a).getD x1 []).getD 0 (.int 0))).n*(nI (dgt i2.1 i2.2))))))+(nI x2.2.2))) (1000000000:Int)))))=(rowsN (digN (nl a+nl b) y5.2.1))))))))))))))))))/\((decide ((nI x1)<(nI ((L a).length))))=false->(∃ i3:(List Nat),[DA.one (cS (rowsN (digN (nl a+nl b) (a%BB^x1*b))))]=trimmed_con.args i3/\trimmed_con.pre i3/\((L (limbs i3)=L (a*b)))))))))) (by kernel_rfl) ?_
 delta vI wR nI
 have ha:=L_len a
 have hb:=L_len b
 have hw0:IntKind.i64.wrap ((((L a).length:Nat):Int)+(((L b).length:Nat):Int))=((nl a+nl b:Nat):Int):=by rw [ha,hb,wrap64 (by omega) (by omega)];omega
 refine ao (by omega) λ o1=>?_
 refine ao (by omega) λ o2=>?_
 refine ao (by omega) λ o3=>?_
 refine ⟨⟨0,by
  omega,?_⟩,?_⟩
 ·refine ⟨rfl,?_,rfl,rfl,?_⟩
  ·rfl
  rw [hw0,Int.toNat_natCast,Nat.pow_zero,Nat.mod_one,Nat.zero_mul,digN_zero,← rowsN_replicate]
 intro (i:Nat) hki4
 have hki4:i<=nl a:=hki4
 refine And.symm ⟨λ c11=>?_,λ c11=>?_⟩
 ·try simp only [nrm] at c11
  refine ⟨(digN (nl a+nl b) (a%BB^i*b)),by
   rfl,by
   exact ⟨by rw [digN_len];omega,digN_lt _ _⟩,?_⟩
  rw [mod_nl (by omega),trim_digN (nl_mul_le _ _)]
 try simp only [nrm] at c11
 refine ao (by omega) λ o12=>?_
 refine ao (by omega) λ o13=>?_
 refine ⟨⟨(0,a%BB^i*b,0),by
  exact ⟨by simp [Nat.mod_one],BB_pos,.inl (Nat.zero_le _),Nat.zero_le _⟩,?_⟩,?_⟩
 ·refine ⟨rfl,rfl,rfl,rfl,?_,?_,rfl,rfl,rfl⟩
  ·rfl
  rfl
 rintro ⟨k,V,c⟩ hki14
 have hki14:V+c*BB^(i+k)=a%BB^i*b+dgt a i*BB^i*(b%BB^k)/\c<BB/\(k<=nl b∨c=0)/\k<=nl b+1:=hki14
 have hlv:(rowsN (digN (nl a+nl b) V)).length=nl a+nl b:=by rw [rowsN_len,digN_len]
 refine And.symm ⟨λ c25=>?_,λ c25=>?_⟩
 ·replace c25:(!(decide (((k:Nat):Int)<(((L b).length:Nat):Int))))=false:=c25
  try simp only [nrm] at c25
  have hik:i+k<nl a+nl b:=by omega
  have hw:IntKind.i64.wrap (((i:Nat):Int)+((k:Nat):Int))=((i+k:Nat):Int):=by rw [wrap64 (by omega) (by omega)];omega
  have hm:=mul_carry (dgt_lt a i) (dgt_lt b k) (dgt_lt V (i+k)) hki14.2.1
  have hn:IntKind.i64.wrap (IntKind.i64.wrap (((((rowsN (digN (nl a+nl b) V)).getD ((IntKind.i64.wrap (((i:Nat):Int)+((k:Nat):Int))).toNat) []).getD 0 (.int 0))).n+(IntKind.i64.wrap (((((L a).getD i []).getD 0 (.int 0))).n*((dgt b k:Nat):Int))))+((c:Nat):Int))=((dgt V (i+k)+dgt a i*dgt b k+c:Nat):Int):=by
   rw [hw,Int.toNat_natCast,digN_n hik,L_n,← Int.natCast_mul,wrapN (by omega),← Int.natCast_add,wrapN (by omega),← Int.natCast_add,wrapN (by omega)]
  have hst:=mulStep hki14.1
  refine ao (a:=0<=(IntKind.i64.wrap (((i:Nat):Int)+((k:Nat):Int)))/\(IntKind.i64.wrap (((i:Nat):Int)+((k:Nat):Int)))<((rowsN (digN (nl a+nl b) V)).length:Int)) (by omega) λ o56=>?_
  refine ao (a:=(IntKind.i64.wrap (((i:Nat):Int)+((k:Nat):Int))).toNat<(rowsN (digN (nl a+nl b) V)).length) (by omega) λ o57=>?_
  refine ⟨(b,k),by
   rfl,by
   show nl b<=1048576/\k<=4194304
   exact ⟨by omega,by omega⟩,?_⟩
  refine ao (by omega) λ o61=>?_
  refine ao (a:=0<=(IntKind.i64.wrap (((i:Nat):Int)+((k:Nat):Int)))/\(IntKind.i64.wrap (((i:Nat):Int)+((k:Nat):Int)))<((rowsN (digN (nl a+nl b) V)).length:Int)) (by omega) λ o62=>?_
  refine ao (a:=(IntKind.i64.wrap (((i:Nat):Int)+((k:Nat):Int))).toNat<(rowsN (digN (nl a+nl b) V)).length) (by omega) λ o63=>?_
  refine ao (by omega) λ o64=>?_
  refine ⟨(k+1,V-dgt V (i+k)*BB^(i+k)+(dgt V (i+k)+dgt a i*dgt b k+c)%BB*BB^(i+k),(dgt V (i+k)+dgt a i*dgt b k+c)/BB),by
   exact ⟨hst,hm.1,(Nat.eq_zero_or_pos _).elim .inr (λ h=>.inl (mul_bound (by omega) hst h)),by omega⟩,by
   omega,?_⟩
  refine ⟨rfl,rfl,rfl,rfl,?_,?_,rfl,rfl,?_⟩
  ·rw [hn,tdivB,wrapN (Nat.le_trans (Nat.le_of_lt hm.1) (by decide))]
  ·exact vint (wrap64 (by omega) (by omega))
  rw [hn,tmodB,hw,Int.toNat_natCast,set_limb hik]
 replace c25:(!(decide (((k:Nat):Int)<(((L b).length:Nat):Int))))=true:=c25
 try simp only [nrm] at c25
 refine And.symm ⟨λ c26=>?_,λ c26=>?_⟩
 ·replace c26:(decide (((c:Nat):Int)>(0:Int)))=false:=c26
  try simp only [nrm] at c26
  have hc0:c=0:=by omega
  have e:=hki14.1
  rw [hc0,Nat.zero_mul,Nat.add_zero,mod_nl (a:=b) (i:=k) (by omega),mulRow] at e
  refine ⟨i+1,by
   omega,by
   omega,?_⟩
  refine ⟨rfl,?_,rfl,rfl,?_⟩
  ·exact vint (wrap64 (by omega) (by omega))
  rw [e]
 replace c26:(decide (((c:Nat):Int)>(0:Int)))=true:=c26
 try simp only [nrm] at c26
 have hik:i+k<nl a+nl b:=by omega
 have hw:IntKind.i64.wrap (((i:Nat):Int)+((k:Nat):Int))=((i+k:Nat):Int):=by rw [wrap64 (by omega) (by omega)];omega
 have hm:=mul_carry (dgt_lt a i) (dgt_lt b k) (dgt_lt V (i+k)) hki14.2.1
 have hn:IntKind.i64.wrap (IntKind.i64.wrap (((((rowsN (digN (nl a+nl b) V)).getD ((IntKind.i64.wrap (((i:Nat):Int)+((k:Nat):Int))).toNat) []).getD 0 (.int 0))).n+(IntKind.i64.wrap (((((L a).getD i []).getD 0 (.int 0))).n*((dgt b k:Nat):Int))))+((c:Nat):Int))=((dgt V (i+k)+dgt a i*dgt b k+c:Nat):Int):=by
  rw [hw,Int.toNat_natCast,digN_n hik,L_n,← Int.natCast_mul,wrapN (by omega),← Int.natCast_add,wrapN (by omega),← Int.natCast_add,wrapN (by omega)]
 have hst:=mulStep hki14.1
 refine ao (a:=0<=(IntKind.i64.wrap (((i:Nat):Int)+((k:Nat):Int)))/\(IntKind.i64.wrap (((i:Nat):Int)+((k:Nat):Int)))<((rowsN (digN (nl a+nl b) V)).length:Int)) (by omega) λ o27=>?_
 refine ao (a:=(IntKind.i64.wrap (((i:Nat):Int)+((k:Nat):Int))).toNat<(rowsN (digN (nl a+nl b) V)).length) (by omega) λ o28=>?_
 refine ⟨(b,k),by
  rfl,by
  show nl b<=1048576/\k<=4194304
  exact ⟨by omega,by omega⟩,?_⟩
 refine ao (by omega) λ o32=>?_
 refine ao (a:=0<=(IntKind.i64.wrap (((i:Nat):Int)+((k:Nat):Int)))/\(IntKind.i64.wrap (((i:Nat):Int)+((k:Nat):Int)))<((rowsN (digN (nl a+nl b) V)).length:Int)) (by omega) λ o33=>?_
 refine ao (a:=(IntKind.i64.wrap (((i:Nat):Int)+((k:Nat):Int))).toNat<(rowsN (digN (nl a+nl b) V)).length) (by omega) λ o34=>?_
 refine ao (by omega) λ o35=>?_
 refine ⟨(k+1,V-dgt V (i+k)*BB^(i+k)+(dgt V (i+k)+dgt a i*dgt b k+c)%BB*BB^(i+k),(dgt V (i+k)+dgt a i*dgt b k+c)/BB),by
  exact ⟨hst,hm.1,(Nat.eq_zero_or_pos _).elim .inr (λ h=>.inl (mul_bound (by omega) hst h)),by omega⟩,by
  omega,?_⟩
 refine ⟨rfl,rfl,rfl,rfl,?_,?_,rfl,rfl,?_⟩
 ·rw [hn,tdivB,wrapN (Nat.le_trans (Nat.le_of_lt hm.1) (by decide))]
 ·exact vint (wrap64 (by omega) (by omega))
 rw [hn,tmodB,hw,Int.toNat_natCast,set_limb hik]
def natDivSmall_con:Con:={ ι:=Nat×Nat,pre:=λ i=>nl i.1<=1048576/\0<i.2/\i.2<BB,args:=λ i=>[.one (.sl 3 [.int] (L i.1)),.one (.im (.int .i64 ((i.2:Nat):Int)))],res:=λ i=>⟨true,[none,none],[.view 3 [.int] (L (i.1/i.2)),.im (Value.int .i64 ((i.1%i.2:Nat):Int))]⟩ }
theorem natDivSmall_ok:natDivSmall_con.Ok Tryz.prog 115:=by
 refine fok (X:=⟨tt,[(146,trimmed_con)],[],38,[]⟩) mixed tt_ok (CTok.cons trimmed_ok (CTok.nil _)) Tryz.func115 (λ (i:Nat×Nat)=>[(4,.mk 3 (Nat) (λ x1=>{ tm:=[(0,.one (.one (.ext 1))),(1,.one (.one (.im (Value.int .i64 ((i.2:Nat):Int))))),(6,.one (.one (.ext 2))),(7,.one (.one (.im (Value.int .i64 ((i.1/BB^x1%i.2:Nat):Int))))),(8,.one (.one (.im (Value.int .i64 (((x1:Nat):Int)-1)))))],en:=[(1,.view 3 [.int] (L i.1) []),(2,.own 3 [.int] (rowsN (digN (nl i.1) (hi (i.1/i.2) x1))))] }) (λ x1=>x1<=nl i.1) (λ x1=>x1) (λ _=>[]))]) ?_
 rintro ⟨a,n⟩ hpre
 have hpre:nl a<=1048576/\0<n/\n<BB:=hpre
 refine by_nf (q:=(0<=(nI ((L a).length)))/\(((nI ((L a).length))<=(nI ((L a).length)))/\(((nI ((L a).length))<=1073741824)/\((∃ x1:Nat,(x1<=nl a)/\((rf (vI (nI n)))/\(vI (0:Int)=vI (nI (a/BB^x1%n)))/\(vI (wR ((nI ((L a).length))-(1:Int)))=vI ((nI x1)-1))/\(rf (L a))/\((List.replicate ((L a).length) [Dat.int (0:Int)])=(rowsN (digN (nl a) (hi (a/n) x1))))))/\∀ x1:Nat,(x1<=nl a)->(((decide (((nI x1)-1)≥(0:Int)))=true->((0<=((nI x1)-1)/\((nI x1)-1)<((L a).length:Int))/\((((nI x1)-1).toNat<(L a).length)/\(((nI n)≠0)/\((0<=((nI x1)-1)/\((nI x1)-1)<((rowsN (digN (nl a) (hi (a/n) x1))).length:Int))/\((((nI x1)-1).toNat<(rowsN (digN (nl a) (hi (a/n) x1))).length)/\(((nI n)≠0)/\(∃ y2:Nat,(y2<=nl a)/\(y2<x1)/\((rf (vI (nI n)))/\(vI (Int.tmod (wR ((wR ((nI (a/BB^x1%n))*(1000000000:Int)))+((((L a).getD (((nI x1)-1).toNat) []).getD 0 (.int 0))).n)) (nI n))=vI (nI (a/BB^y2%n)))/\(vI (wR (((nI x1)-1)-(1:Int)))=vI ((nI y2)-1))/\(rf (L a))/\(((rowsN (digN (nl a) (hi (a/n) x1))).set (((nI x1)-1).toNat) (((rowsN (digN (nl a) (hi (a/n) x1))).getD (((nI x1)-1).toNat) []).set 0 (Dat.int (wR (Int.tdiv (wR ((wR ((nI (a/BB^x1%n))*(1000000000:Int)))+((((L a).getD (((nI x1)-1).toNat) []).getD 0 (.int 0))).n)) (nI n))))))=(rowsN (digN (nl a) (hi (a/n) y2)))))))))))))/\((decide (((nI x1)-1)≥(0:Int)))=false->(∃ i1:(List Nat),[DA.one (cS (rowsN (digN (nl a) (hi (a/n) x1))))]=trimmed_con.args i1/\trimmed_con.pre i1/\((L (limbs i1)=L (a/n))/\(vI (nI (a/BB^x1%n))=vI (nI (a%n))))))))))) (by kernel_rfl) ?_
 delta vI wR nI
 have ha:=L_len a
 refine ao (by omega) λ o1=>?_
 refine ao (by omega) λ o2=>?_
 refine ao (by omega) λ o3=>?_
 refine ⟨⟨nl a,by
  omega,?_⟩,?_⟩
 ·refine ⟨rfl,?_,?_,rfl,?_⟩
  ·rw [divTop n (lt_nl a)];rfl
  ·rw [ha,wrap64 (by omega) (by omega)]
  rw [ha,hi_rows (Nat.div_le_self _ _)]
 intro (j:Nat) hki4
 have hki4:j<=nl a:=hki4
 have hlv:(rowsN (digN (nl a) (hi (a/n) j))).length=nl a:=by rw [rowsN_len,digN_len]
 refine And.symm ⟨λ c11=>?_,λ c11=>?_⟩
 ·try simp only [nrm] at c11
  refine ⟨(digN (nl a) (hi (a/n) j)),by
   rfl,by
   exact ⟨by rw [digN_len];omega,digN_lt _ _⟩,?_⟩
  refine ⟨?_,?_⟩
  ·rw [show j=0 by omega];exact hi_end (Nat.div_le_self _ _)
  rw [show j=0 by omega,Nat.pow_zero,Nat.div_one]
 try simp only [nrm] at c11
 have hj:((((j:Nat):Int)-1).toNat)=j-1:=by omega
 have hj1:j-1+1=j:=by omega
 have hd:=divStep a n (j-1) hpre.2.1
 rw [hj1] at hd
 have hn:IntKind.i64.wrap (IntKind.i64.wrap (((a/BB^j%n:Nat):Int)*(1000000000:Int))+((((L a).getD ((((j:Nat):Int)-1).toNat) []).getD 0 (.int 0))).n)=((a/BB^j%n*BB+dgt a (j-1):Nat):Int):=by rw [hj,L_n,limb_step (Nat.lt_trans (Nat.mod_lt _ hpre.2.1) hpre.2.2) (dgt_lt _ _)]
 refine ao (by omega) λ o12=>?_
 refine ao (by omega) λ o13=>?_
 refine ao (by omega) λ o14=>?_
 refine ao (by omega) λ o15=>?_
 refine ao (by omega) λ o16=>?_
 refine ao (by omega) λ o17=>?_
 refine ⟨j-1,by
  omega,by
  omega,?_⟩
 refine ⟨rfl,?_,?_,rfl,?_⟩
 ·rw [hn,tmodN,hd.2]
 ·rw [wrap_pred (by omega) (by omega)]
 rw [hn,tdivN,hd.1,wrapN (by have:=dgt_lt (a/n) (j-1);unfold BB at this;omega),hj];exact set_hi' (by omega) (by omega) rfl
def digit_con:Con:={ ι:=Nat×Nat,pre:=λ i=>2<=nl i.2/\i.2<=i.1/\i.1<i.2*BB/\nl i.2<=131072,args:=λ i=>[.one (.sl 3 [.int] (L i.1)),.one (.sl 3 [.int] (L i.2))],res:=λ i=>⟨false,[none],[.im (Value.int .i64 ((i.1/i.2:Nat):Int))]⟩ }
theorem digit_ok:digit_con.Ok Tryz.prog 147:=by
 refine fok (X:=⟨tt,[(177,limb_con),(145,natOf_con),(149,natMul_con),(144,natCmp_con)],[],84,[]⟩) mixed tt_ok (CTok.cons limb_ok (CTok.cons natOf_ok (CTok.cons natMul_ok (CTok.cons natCmp_ok (CTok.nil _))))) Tryz.func147 (λ (i:Nat×Nat)=>[(7,.mk 3 (Nat×Nat) (λ x1=>{ tm:=[(0,.one (.one (.ext 1))),(1,.one (.one (.ext 2))),(5,.one (.one (.im (Value.int .i64 ((x1.1:Nat):Int))))),(6,.one (.one (.im (Value.int .i64 ((x1.2:Nat):Int)))))],en:=[(1,.view 3 [.int] (L i.1) []),(2,.view 3 [.int] (L i.2) [])] }) (λ x1=>x1.1<=i.1/i.2/\i.1/i.2<=x1.2/\x1.2<=999999999) (λ x1=>x1.2-x1.1) (λ _=>[]))]) ?_
 rintro ⟨a,b⟩ hpre
 have hpre:2<=nl b/\b<=a/\a<b*BB/\nl b<=131072:=hpre
 refine by_nf (q:=((decide ((nI ((L a).length))<=(wR ((nI ((L b).length))+(1:Int)))))=true->(∃ i1:Nat×Nat,[DA.one (cS (L a)),DA.one (cI (nI ((L b).length)))]=limb_con.args i1/\limb_con.pre i1/\(((floatBits .mul .f64 (FloatKind.nearest .f64 (nI (dgt i1.1 i1.2))) 4741671816366391296).isSome=true)/\(((floatBits .mul .f64 ((floatBits .mul .f64 (FloatKind.nearest .f64 (nI (dgt i1.1 i1.2))) 4741671816366391296).getD 0) 4741671816366391296).isSome=true)/\(∃ i2:Nat×Nat,[DA.one (cS (L a)),DA.one (cI (wR ((nI ((L b).length))-(1:Int))))]=limb_con.args i2/\limb_con.pre i2/\(((floatBits .mul .f64 (FloatKind.nearest .f64 (nI (dgt i2.1 i2.2))) 4741671816366391296).isSome=true)/\(((floatBits .add .f64 ((floatBits .mul .f64 ((floatBits .mul .f64 (FloatKind.nearest .f64 (nI (dgt i1.1 i1.2))) 4741671816366391296).getD 0) 4741671816366391296).getD 0) ((floatBits .mul .f64 (FloatKind.nearest .f64 (nI (dgt i2.1 i2.2))) 4741671816366391296).getD 0)).isSome=true)/\(∃ i3:Nat×Nat,[DA.one (cS (L a)),DA.one (cI (wR ((nI ((L b).length))-(2:Int))))]=limb_con.args i3/\limb_con.pre i3/\(((floatBits .add .f64 ((floatBits .add .f64 ((floatBits .mul .f64 ((floatBits .mul .f64 (FloatKind.nearest .f64 (nI (dgt i1.1 i1.2))) 4741671816366391296).getD 0) 4741671816366391296).getD 0) ((floatBits .mul .f64 (FloatKind.nearest .f64 (nI (dgt i2.1 i2.2))) 4741671816366391296).getD 0)).getD 0) (FloatKind.nearest .f64 (nI (dgt i3.1 i3.2)))).isSome=true)/\((0<=(wR ((nI ((L b).length))-(1:Int)))/\(wR ((nI ((L b).length))-(1:Int)))<((L b).length:Int))/\(((wR ((nI ((L b).length))-(1:Int))).toNat<(L b).length)/\(((floatBits .mul .f64 (FloatKind.nearest .f64 (((((L b).getD ((wR ((nI ((L b).length))-(1:Int))).toNat) []).getD 0 (.int 0))).n)) 4741671816366391296).isSome=true)/\((0<=(wR ((nI ((L b).length))-(2:Int)))/\(wR ((nI ((L b).length))-(2:Int)))<((L b).length:Int))/\(((wR ((nI ((L b).length))-(2:Int))).toNat<(L b).length)/\(((floatBits .add .f64 ((floatBits .mul .f64 (FloatKind.nearest .f64 (((((L b).getD ((wR ((nI ((L b).length))-(1:Int))).toNat) []).getD 0 (.int 0))).n)) 4741671816366391296).getD 0) (FloatKind.nearest .f64 (((((L b).getD ((wR ((nI ((L b).length))-(2:Int))).toNat) []).getD 0 (.int 0))).n))).isSome=true)/\(((floatBits .quo .f64 ((floatBits .add .f64 ((floatBits .add .f64 ((floatBits .mul .f64 ((floatBits .mul .f64 (FloatKind.nearest .f64 (nI (dgt i1.1 i1.2))) 4741671816366391296).getD 0) 4741671816366391296).getD 0) ((floatBits .mul .f64 (FloatKind.nearest .f64 (nI (dgt i2.1 i2.2))) 4741671816366391296).getD 0)).getD 0) (FloatKind.nearest .f64 (nI (dgt i3.1 i3.2)))).getD 0) ((floatBits .add .f64 ((floatBits .mul .f64 (FloatKind.nearest .f64 (((((L b).getD ((wR ((nI ((L b).length))-(1:Int))).toNat) []).getD 0 (.int 0))).n)) 4741671816366391296).getD 0) (FloatKind.nearest .f64 (((((L b).getD ((wR ((nI ((L b).length))-(2:Int))).toNat) []).getD 0 (.int 0))).n))).getD 0)).isSome=true)/\(((floatToIntVal .f64 ((floatBits .quo .f64 ((floatBits .add .f64 ((floatBits .add .f64 ((floatBits .mul .f64 ((floatBits .mul .f64 (FloatKind.nearest .f64 (nI (dgt i1.1 i1.2))) 4741671816366391296).getD 0) 4741671816366391296).getD 0) ((floatBits .mul .f64 (FloatKind.nearest .f64 (nI (dgt i2.1 i2.2))) 4741671816366391296).getD 0)).getD 0) (FloatKind.nearest .f64 (nI (dgt i3.1 i3.2)))).getD 0) ((floatBits .add .f64 ((floatBits .mul .f64 (FloatKind.nearest .f64 (((((L b).getD ((wR ((nI ((L b).length))-(1:Int))).toNat) []).getD 0 (.int 0))).n)) 4741671816366391296).getD 0) (FloatKind.nearest .f64 (((((L b).getD ((wR ((nI ((L b).length))-(2:Int))).toNat) []).getD 0 (.int 0))).n))).getD 0)).getD 0) .i64).isSome=true)/\((∃ x1:Nat×Nat,(x1.1<=a/b/\a/b<=x1.2/\x1.2<=999999999)/\((vI (max (0:Int) (wR (((floatToIntVal .f64 ((floatBits .quo .f64 ((floatBits .add .f64 ((floatBits .add .f64 ((floatBits .mul .f64 ((floatBits .mul .f64 (FloatKind.nearest .f64 (nI (dgt i1.1 i1.2))) 4741671816366391296).getD 0) 4741671816366391296).getD 0) ((floatBits .mul .f64 (FloatKind.nearest .f64 (nI (dgt i2.1 i2.2))) 4741671816366391296).getD 0)).getD 0) (FloatKind.nearest .f64 (nI (dgt i3.1 i3.2)))).getD 0) ((floatBits .add .f64 ((floatBits .mul .f64 (FloatKind.nearest .f64 (((((L b).getD ((wR ((nI ((L b).length))-(1:Int))).toNat) []).getD 0 (.int 0))).n)) 4741671816366391296).getD 0) (FloatKind.nearest .f64 (((((L b).getD ((wR ((nI ((L b).length))-(2:Int))).toNat) []).getD 0 (.int 0))).n))).getD 0)).getD 0) .i64).getD 0)-(2000:Int))))=vI (nI x1.1))/\(vI (min (999999999:Int) (wR (((floatToIntVal .f64 ((floatBits .quo .f64 ((floatBits .add .f64 ((floatBits .add .f64 ((floatBits .mul .f64 ((floatBits .mul .f64 (FloatKind.nearest .f64 (nI (dgt i1.1 i1.2))) 4741671816366391296).getD 0) 4741671816366391296).getD 0) ((floatBits .mul .f64 (FloatKind.nearest .f64 (nI (dgt i2.1 i2.2))) 4741671816366391296).getD 0)).getD 0) (FloatKind.nearest .f64 (nI (dgt i3.1 i3.2)))).getD 0) ((floatBits .add .f64 ((floatBits .mul .f64 (FloatKind.nearest .f64 (((((L b).getD ((wR ((nI ((L b).length))-(1:Int))).toNat) []).getD 0 (.int 0))).n)) 4741671816366391296).getD 0) (FloatKind.nearest .f64 (((((L b).getD ((wR ((nI ((L b).length))-(2:Int))).toNat) []).getD 0 (.int 0))).n))).getD 0)).getD 0) .i64).getD 0)+(2000:Int))))=vI (nI x1.2))/\(rf (L a))/\(rf (L b))))/\∀ x1:Nat×Nat,(x1.1<=a/b/\a/b<=x1.2/\x1.2<=999999999)->(((decide ((nI x1.1)<(nI x1.2)))=true->(((2:Int)≠0)/\(∃ i4:Nat,[DA.one (cI (wR (Int.tdiv (wR ((wR ((nI x1.1)+(nI x1.2)))+(1:Int))) (2:Int))))]=natOf_con.args i4/\natOf_con.pre i4/\(∃ i5:Nat×Nat,[DA.one (cS (L b)),DA.one (cS (L i4))]=natMul_con.args i5/\natMul_con.pre i5/\(∃ i6:Nat×Nat,[DA.one (cS (L (i5.1*i5.2))),DA.one (cS (L a))]=natCmp_con.args i6/\natCmp_con.pre i6/\(((decide ((cmpN i6.1 i6.2)<=(0:Int)))=true->(∃ y2:Nat×Nat,(y2.1<=a/b/\a/b<=y2.2/\y2.2<=999999999)/\(y2.2-y2.1<x1.2-x1.1)/\((vI (wR (Int.tdiv (wR ((wR ((nI x1.1)+(nI x1.2)))+(1:Int))) (2:Int)))=vI (nI y2.1))/\(vI (nI x1.2)=vI (nI y2.2))/\(rf (L a))/\(rf (L b)))))/\((decide ((cmpN i6.1 i6.2)<=(0:Int)))=false->(∃ y3:Nat×Nat,(y3.1<=a/b/\a/b<=y3.2/\y3.2<=999999999)/\(y3.2-y3.1<x1.2-x1.1)/\((vI (nI x1.1)=vI (nI y3.1))/\(vI (wR ((wR (Int.tdiv (wR ((wR ((nI x1.1)+(nI x1.2)))+(1:Int))) (2:Int)))-(1:Int)))=vI (nI y3.2))/\(rf (L a))/\(rf (L b)))))))))))/\((decide ((nI x1.1)<(nI x1.2)))=false->((vI (nI x1.1)=vI (nI (a/b))))))))))))))))))))))))/\((decide ((nI ((L a).length))<=(wR ((nI ((L b).length))+(1:Int)))))=false->((∃ x1:Nat×Nat,(x1.1<=a/b/\a/b<=x1.2/\x1.2<=999999999)/\((vI (0:Int)=vI (nI x1.1))/\(vI (999999999:Int)=vI (nI x1.2))/\(rf (L a))/\(rf (L b))))/\∀ x1:Nat×Nat,(x1.1<=a/b/\a/b<=x1.2/\x1.2<=999999999)->(((decide ((nI x1.1)<(nI x1.2)))=true->(((2:Int)≠0)/\(∃ i7:Nat,[DA.one (cI (wR (Int.tdiv (wR ((wR ((nI x1.1)+(nI x1.2)))+(1:Int))) (2:Int))))]=natOf_con.args i7/\natOf_con.pre i7/\(∃ i8:Nat×Nat,[DA.one (cS (L b)),DA.one (cS (L i7))]=natMul_con.args i8/\natMul_con.pre i8/\(∃ i9:Nat×Nat,[DA.one (cS (L (i8.1*i8.2))),DA.one (cS (L a))]=natCmp_con.args i9/\natCmp_con.pre i9/\(((decide ((cmpN i9.1 i9.2)<=(0:Int)))=true->(∃ y5:Nat×Nat,(y5.1<=a/b/\a/b<=y5.2/\y5.2<=999999999)/\(y5.2-y5.1<x1.2-x1.1)/\((vI (wR (Int.tdiv (wR ((wR ((nI x1.1)+(nI x1.2)))+(1:Int))) (2:Int)))=vI (nI y5.1))/\(vI (nI x1.2)=vI (nI y5.2))/\(rf (L a))/\(rf (L b)))))/\((decide ((cmpN i9.1 i9.2)<=(0:Int)))=false->(∃ y6:Nat×Nat,(y6.1<=a/b/\a/b<=y6.2/\y6.2<=999999999)/\(y6.2-y6.1<x1.2-x1.1)/\((vI (nI x1.1)=vI (nI y6.1))/\(vI (wR ((wR (Int.tdiv (wR ((wR ((nI x1.1)+(nI x1.2)))+(1:Int))) (2:Int)))-(1:Int)))=vI (nI y6.2))/\(rf (L a))/\(rf (L b)))))))))))/\((decide ((nI x1.1)<(nI x1.2)))=false->((vI (nI x1.1)=vI (nI (a/b))))))))) (by kernel_rfl) ?_
 delta vI wR nI
 have ha:=L_len a
 have hb:=L_len b
 have hnl:=digit_nl hpre.2.2.1
 have hb0:b≠0:=by rintro rfl;rw [nl_zero] at hpre;omega
 have hq:a/b<BB:=Nat.div_lt_of_lt_mul hpre.2.2.1
 have hq0:0<=((a/b:Nat):Int):=Int.natCast_nonneg _
 unfold BB at hq
 have hv1:IntKind.i64.wrap (((nl b:Nat):Int)-(1:Int))=((nl b-1:Nat):Int):=by rw [wrap64 (by omega) (by omega)];omega
 have hw1:IntKind.i64.wrap ((((L b).length:Nat):Int)-(1:Int))=((nl b-1:Nat):Int):=by rw [hb,hv1]
 have hv2:IntKind.i64.wrap (((nl b:Nat):Int)-(2:Int))=((nl b-2:Nat):Int):=by rw [wrap64 (by omega) (by omega)];omega
 have hw2:IntKind.i64.wrap ((((L b).length:Nat):Int)-(2:Int))=((nl b-2:Nat):Int):=by rw [hb,hv2]
 obtain ⟨m1,m2,c1,s1,t,d1,y,q,G,e1,e2,e3,e4,e5,e6,e7,e8,e9,g1,g2⟩:=digitG hpre.1 hpre.2.1 hpre.2.2.1
 refine And.symm ⟨λ c1=>?_,λ c1=>?_⟩
 ·try simp only [nrm] at c1
  rw [ha,hb,wrap64 (by omega) (by omega)] at c1
  exfalso;omega -- done
 try simp only [nrm] at c1
 refine ⟨(a,nl b),by
  rw [hb];rfl,by
  show nl a<=1048576/\(nl b)<=4194304
  exact ⟨by omega,by omega⟩,?_⟩
 refine ao (a:=(floatBits .mul .f64 (FloatKind.nearest .f64 ((dgt a (nl b):Nat):Int)) 4741671816366391296).isSome=true) (by simp only [hv1,hv2,Int.toNat_natCast,L_n,hb,e1,e2,e3,e4,e5,e6,e7,e8,e9,Option.getD_some,Option.isSome_some]) λ o5=>?_
 refine ao (a:=(floatBits .mul .f64 ((floatBits .mul .f64 (FloatKind.nearest .f64 ((dgt a (nl b):Nat):Int)) 4741671816366391296).getD 0) 4741671816366391296).isSome=true) (by simp only [hv1,hv2,Int.toNat_natCast,L_n,hb,e1,e2,e3,e4,e5,e6,e7,e8,e9,Option.getD_some,Option.isSome_some]) λ o6=>?_
 refine ⟨(a,nl b-1),by
  rw [hw1];rfl,by
  show nl a<=1048576/\(nl b-1)<=4194304
  exact ⟨by omega,by omega⟩,?_⟩
 refine ao (a:=(floatBits .mul .f64 (FloatKind.nearest .f64 ((dgt a (nl b-1):Nat):Int)) 4741671816366391296).isSome=true) (by simp only [hv1,hv2,Int.toNat_natCast,L_n,hb,e1,e2,e3,e4,e5,e6,e7,e8,e9,Option.getD_some,Option.isSome_some]) λ o10=>?_
 refine ao (a:=(floatBits .add .f64 ((floatBits .mul .f64 ((floatBits .mul .f64 (FloatKind.nearest .f64 ((dgt a (nl b):Nat):Int)) 4741671816366391296).getD 0) 4741671816366391296).getD 0) ((floatBits .mul .f64 (FloatKind.nearest .f64 ((dgt a (nl b-1):Nat):Int)) 4741671816366391296).getD 0)).isSome=true) (by simp only [hv1,hv2,Int.toNat_natCast,L_n,hb,e1,e2,e3,e4,e5,e6,e7,e8,e9,Option.getD_some,Option.isSome_some]) λ o11=>?_
 refine ⟨(a,nl b-2),by
  rw [hw2];rfl,by
  show nl a<=1048576/\(nl b-2)<=4194304
  exact ⟨by omega,by omega⟩,?_⟩
 refine ao (a:=(floatBits .add .f64 ((floatBits .add .f64 ((floatBits .mul .f64 ((floatBits .mul .f64 (FloatKind.nearest .f64 ((dgt a (nl b):Nat):Int)) 4741671816366391296).getD 0) 4741671816366391296).getD 0) ((floatBits .mul .f64 (FloatKind.nearest .f64 ((dgt a (nl b-1):Nat):Int)) 4741671816366391296).getD 0)).getD 0) (FloatKind.nearest .f64 ((dgt a (nl b-2):Nat):Int))).isSome=true) (by simp only [hv1,hv2,Int.toNat_natCast,L_n,hb,e1,e2,e3,e4,e5,e6,e7,e8,e9,Option.getD_some,Option.isSome_some]) λ o15=>?_
 refine ao (by omega) λ o16=>?_
 refine ao (by omega) λ o17=>?_
 refine ao (by simp only [hv1,hv2,Int.toNat_natCast,L_n,hb,e1,e2,e3,e4,e5,e6,e7,e8,e9,Option.getD_some,Option.isSome_some]) λ o18=>?_
 refine ao (by omega) λ o19=>?_
 refine ao (by omega) λ o20=>?_
 refine ao (by simp only [hv1,hv2,Int.toNat_natCast,L_n,hb,e1,e2,e3,e4,e5,e6,e7,e8,e9,Option.getD_some,Option.isSome_some]) λ o21=>?_
 refine ao (a:=(floatBits .quo .f64 ((floatBits .add .f64 ((floatBits .add .f64 ((floatBits .mul .f64 ((floatBits .mul .f64 (FloatKind.nearest .f64 ((dgt a (nl b):Nat):Int)) 4741671816366391296).getD 0) 4741671816366391296).getD 0) ((floatBits .mul .f64 (FloatKind.nearest .f64 ((dgt a (nl b-1):Nat):Int)) 4741671816366391296).getD 0)).getD 0) (FloatKind.nearest .f64 ((dgt a (nl b-2):Nat):Int))).getD 0) ((floatBits .add .f64 ((floatBits .mul .f64 (FloatKind.nearest .f64 (((((L b).getD ((IntKind.i64.wrap ((((L b).length:Nat):Int)-(1:Int))).toNat) []).getD 0 (.int 0))).n)) 4741671816366391296).getD 0) (FloatKind.nearest .f64 (((((L b).getD ((IntKind.i64.wrap ((((L b).length:Nat):Int)-(2:Int))).toNat) []).getD 0 (.int 0))).n))).getD 0)).isSome=true) (by simp only [hv1,hv2,Int.toNat_natCast,L_n,hb,e1,e2,e3,e4,e5,e6,e7,e8,e9,Option.getD_some,Option.isSome_some]) λ o22=>?_
 refine ao (a:=(floatToIntVal .f64 ((floatBits .quo .f64 ((floatBits .add .f64 ((floatBits .add .f64 ((floatBits .mul .f64 ((floatBits .mul .f64 (FloatKind.nearest .f64 ((dgt a (nl b):Nat):Int)) 4741671816366391296).getD 0) 4741671816366391296).getD 0) ((floatBits .mul .f64 (FloatKind.nearest .f64 ((dgt a (nl b-1):Nat):Int)) 4741671816366391296).getD 0)).getD 0) (FloatKind.nearest .f64 ((dgt a (nl b-2):Nat):Int))).getD 0) ((floatBits .add .f64 ((floatBits .mul .f64 (FloatKind.nearest .f64 (((((L b).getD ((IntKind.i64.wrap ((((L b).length:Nat):Int)-(1:Int))).toNat) []).getD 0 (.int 0))).n)) 4741671816366391296).getD 0) (FloatKind.nearest .f64 (((((L b).getD ((IntKind.i64.wrap ((((L b).length:Nat):Int)-(2:Int))).toNat) []).getD 0 (.int 0))).n))).getD 0)).getD 0) .i64).isSome=true) (by simp only [hv1,hv2,Int.toNat_natCast,L_n,hb,e1,e2,e3,e4,e5,e6,e7,e8,e9,Option.getD_some,Option.isSome_some]) λ o23=>?_
 refine ⟨⟨(G-2000,min 999999999 (G+2000)),by
  omega,?_⟩,?_⟩
 ·refine ⟨?_,?_,rfl,rfl⟩
  ·simp only [hv1,hv2,Int.toNat_natCast,L_n,hb,e1,e2,e3,e4,e5,e6,e7,e8,e9,Option.getD_some,Option.isSome_some];exact vint (by rw [wrap64 (by omega) (by omega)];omega)
  simp only [hv1,hv2,Int.toNat_natCast,L_n,hb,e1,e2,e3,e4,e5,e6,e7,e8,e9,Option.getD_some,Option.isSome_some];exact vint (by rw [wrap64 (by omega) (by omega)];omega)
 rintro ⟨lo,hi⟩ hki24
 have hki24:lo<=a/b/\a/b<=hi/\hi<=999999999:=hki24
 have hm:=mid_step (lo:=lo) (hi:=hi) (by omega) (by omega)
 refine And.symm ⟨λ c30=>?_,λ c30=>?_⟩
 ·replace c30:(decide (((lo:Nat):Int)<((hi:Nat):Int)))=false:=c30
  try simp only [nrm] at c30
  rw [show lo=a/b by omega]
 replace c30:(decide (((lo:Nat):Int)<((hi:Nat):Int)))=true:=c30
 try simp only [nrm] at c30
 refine ao (by omega) λ o31=>?_
 refine ⟨((lo+hi+1)/2),by
  rw [hm];rfl,by
  show ((lo+hi+1)/2)<=9223372036854775807
  omega,?_⟩
 refine ⟨(b,((lo+hi+1)/2)),by
  rfl,by
  show nl b<=524288/\nl ((lo+hi+1)/2)<=524288
  have:=nl_lt_BB (n:=(lo+hi+1)/2) (by unfold BB;omega)
  exact ⟨by omega,by omega⟩,?_⟩
 refine ⟨((b*((lo+hi+1)/2)),a),by
  rfl,by
  show nl (b*((lo+hi+1)/2))<=1048576/\nl a<=1048576
  have:=nl_lt_BB (n:=(lo+hi+1)/2) (by unfold BB;omega)
  have:=nl_mul_le b ((lo+hi+1)/2)
  exact ⟨by omega,by omega⟩,?_⟩
 refine ⟨λ c41=>?_,λ c41=>?_⟩
 ·replace c41:(decide ((cmpN (b*((lo+hi+1)/2)) a)<=(0:Int)))=true:=c41
  try simp only [nrm] at c41
  refine ⟨((lo+hi+1)/2,hi),by
   exact ⟨le_div_of_mul_le hb0 (cmpN_le0.1 c41),by omega,by omega⟩,by
   omega,?_⟩
  refine ⟨?_,rfl,rfl,rfl⟩
  rw [hm]
 replace c41:(decide ((cmpN (b*((lo+hi+1)/2)) a)<=(0:Int)))=false:=c41
 try simp only [nrm] at c41
 refine ⟨(lo,(lo+hi+1)/2-1),by
  have h2:a/b<(lo+hi+1)/2:=div_lt_of_lt_mul (Nat.lt_of_not_le (λ h=>by have:=cmpN_le0.2 h;omega))
  exact ⟨by omega,by omega,by omega⟩,by
  omega,?_⟩
 refine ⟨rfl,?_,rfl,rfl⟩
 rw [hm];exact vint (by rw [wrap64 (by omega) (by omega)];omega)
def natDiv_con:Con:={ ι:=Nat×Nat,pre:=λ i=>i.2≠0/\nl i.1<=131072/\nl i.2<=131072,args:=λ i=>[.one (.sl 3 [.int] (L i.1)),.one (.sl 3 [.int] (L i.2))],res:=λ i=>⟨true,[none,none],[.view 3 [.int] (L (i.1/i.2)),.view 3 [.int] (L (i.1%i.2))]⟩ }
theorem natDiv_ok:natDiv_con.Ok Tryz.prog 114:=by
 refine fok (X:=⟨tt,[(144,natCmp_con),(115,natDivSmall_con),(145,natOf_con),(146,trimmed_con),(147,digit_con),(149,natMul_con),(148,natSub_con)],[],71,[]⟩) mixed tt_ok (CTok.cons natCmp_ok (CTok.cons natDivSmall_ok (CTok.cons natOf_ok (CTok.cons trimmed_ok (CTok.cons digit_ok (CTok.cons natMul_ok (CTok.cons natSub_ok (CTok.nil _)))))))) Tryz.func114 (λ (i:Nat×Nat)=>[(9,.mk 5 (Nat) (λ x1=>{ tm:=[(0,.one (.one (.ext 1))),(1,.one (.one (.ext 2))),(8,.one (.one (.ext 3))),(9,.one (.one (.ext 4))),(10,.one (.one (.im (Value.int .i64 (((x1:Nat):Int)-1)))))],en:=[(1,.view 3 [.int] (L i.1) []),(2,.view 3 [.int] (L i.2) []),(3,.own 3 [.int] (rowsN (digN (nl i.1) (hi (i.1/i.2) x1)))),(4,.view 3 [.int] (L (i.1/BB^x1%i.2)) [])] }) (λ x1=>x1<=nl i.1) (λ x1=>x1) (λ _=>[]))]) ?_
 rintro ⟨a,b⟩ hpre
 have hpre:b≠0/\nl a<=131072/\nl b<=131072:=hpre
 refine by_nf (q:=∃ i1:Nat×Nat,[DA.one (cS (L a)),DA.one (cS (L b))]=natCmp_con.args i1/\natCmp_con.pre i1/\(((decide ((cmpN i1.1 i1.2)<(0:Int)))=true->((([]:List (List Dat))=L (a/b))/\((L a)=L (a%b))))/\((decide ((cmpN i1.1 i1.2)<(0:Int)))=false->((((nI ((L b).length)) == (1:Int))=true->((0<=(0:Int)/\(0:Int)<((L b).length:Int))/\((0<(L b).length)/\(∃ i2:Nat×Nat,[DA.one (cS (L a)),DA.one (cI (((((L b).getD 0 []).getD 0 (.int 0))).n))]=natDivSmall_con.args i2/\natDivSmall_con.pre i2/\(∃ i3:Nat,[DA.one (cI (nI (i2.1%i2.2)))]=natOf_con.args i3/\natOf_con.pre i3/\((L (i2.1/i2.2)=L (a/b))/\(L i3=L (a%b))))))))/\(((nI ((L b).length)) == (1:Int))=false->((0<=(nI ((L a).length)))/\(((nI ((L a).length))<=(nI ((L a).length)))/\(((nI ((L a).length))<=1073741824)/\((∃ x1:Nat,(x1<=nl a)/\((vI (wR ((nI ((L a).length))-(1:Int)))=vI ((nI x1)-1))/\(rf (L a))/\(rf (L b))/\((List.replicate ((L a).length) [Dat.int (0:Int)])=(rowsN (digN (nl a) (hi (a/b) x1))))/\(([]:List (List Dat))=(L (a/BB^x1%b)))))/\∀ x1:Nat,(x1<=nl a)->(((decide (((nI x1)-1)≥(0:Int)))=true->((0<=((nI x1)-1)/\((nI x1)-1)<((L a).length:Int))/\((((nI x1)-1).toNat<(L a).length)/\((([[Dat.int (((((L a).getD (((nI x1)-1).toNat) []).getD 0 (.int 0))).n)]]:List (List Dat)).length+(L (a/BB^x1%b)).length<=1073741824)/\(∃ i4:(List Nat),[DA.one (cS (([[Dat.int (((((L a).getD (((nI x1)-1).toNat) []).getD 0 (.int 0))).n)]]:List (List Dat))++(L (a/BB^x1%b))))]=trimmed_con.args i4/\trimmed_con.pre i4/\(∃ i5:Nat×Nat,[DA.one (cS (L (limbs i4))),DA.one (cS (L b))]=natCmp_con.args i5/\natCmp_con.pre i5/\(((decide ((cmpN i5.1 i5.2)≥(0:Int)))=true->(∃ i6:Nat×Nat,[DA.one (cS (L (limbs i4))),DA.one (cS (L b))]=digit_con.args i6/\digit_con.pre i6/\((0<=((nI x1)-1)/\((nI x1)-1)<((rowsN (digN (nl a) (hi (a/b) x1))).length:Int))/\((((nI x1)-1).toNat<(rowsN (digN (nl a) (hi (a/b) x1))).length)/\((0<=((nI x1)-1)/\((nI x1)-1)<(((rowsN (digN (nl a) (hi (a/b) x1))).set (((nI x1)-1).toNat) (((rowsN (digN (nl a) (hi (a/b) x1))).getD (((nI x1)-1).toNat) []).set 0 (Dat.int (nI (i6.1/i6.2))))).length:Int))/\((((nI x1)-1).toNat<((rowsN (digN (nl a) (hi (a/b) x1))).set (((nI x1)-1).toNat) (((rowsN (digN (nl a) (hi (a/b) x1))).getD (((nI x1)-1).toNat) []).set 0 (Dat.int (nI (i6.1/i6.2))))).length)/\(∃ i7:Nat,[DA.one (cI ((((((rowsN (digN (nl a) (hi (a/b) x1))).set (((nI x1)-1).toNat) (((rowsN (digN (nl a) (hi (a/b) x1))).getD (((nI x1)-1).toNat) []).set 0 (Dat.int (nI (i6.1/i6.2))))).getD (((nI x1)-1).toNat) []).getD 0 (.int 0))).n))]=natOf_con.args i7/\natOf_con.pre i7/\(∃ i8:Nat×Nat,[DA.one (cS (L b)),DA.one (cS (L i7))]=natMul_con.args i8/\natMul_con.pre i8/\(∃ i9:Nat×Nat,[DA.one (cS (L (limbs i4))),DA.one (cS (L (i8.1*i8.2)))]=natSub_con.args i9/\natSub_con.pre i9/\(∃ y2:Nat,(y2<=nl a)/\(y2<x1)/\((vI (wR (((nI x1)-1)-(1:Int)))=vI ((nI y2)-1))/\(rf (L a))/\(rf (L b))/\(((rowsN (digN (nl a) (hi (a/b) x1))).set (((nI x1)-1).toNat) (((rowsN (digN (nl a) (hi (a/b) x1))).getD (((nI x1)-1).toNat) []).set 0 (Dat.int (nI (i6.1/i6.2)))))=(rowsN (digN (nl a) (hi (a/b) y2))))/\(L (i9.1-i9.2)=(L (a/BB^y2%b))))))))))))))/\((decide ((cmpN i5.1 i5.2)≥(0:Int)))=false->(∃ y3:Nat,(y3<=nl a)/\(y3<x1)/\((vI (wR (((nI x1)-1)-(1:Int)))=vI ((nI y3)-1))/\(rf (L a))/\(rf (L b))/\((rowsN (digN (nl a) (hi (a/b) x1)))=(rowsN (digN (nl a) (hi (a/b) y3))))/\(L (limbs i4)=(L (a/BB^y3%b)))))))))))))/\((decide (((nI x1)-1)≥(0:Int)))=false->(∃ i10:(List Nat),[DA.one (cS (rowsN (digN (nl a) (hi (a/b) x1))))]=trimmed_con.args i10/\trimmed_con.pre i10/\((L (limbs i10)=L (a/b))/\((L (a/BB^x1%b))=L (a%b))))))))))))))) (by kernel_rfl) ?_
 delta vI wR nI
 have ha:=L_len a
 have hb:=L_len b
 refine ⟨(a,b),by
  rfl,by
  show nl a<=1048576/\nl b<=1048576
  exact ⟨by omega,by omega⟩,?_⟩
 refine ⟨λ c4=>?_,λ c4=>?_⟩
 ·replace c4:(decide ((cmpN a b)<(0:Int)))=true:=c4
  try simp only [nrm] at c4
  refine ⟨?_,?_⟩
  ·rw [Nat.div_eq_of_lt (cmpN_lt0.1 c4),L_zero]
  rw [Nat.mod_eq_of_lt (cmpN_lt0.1 c4)]
 replace c4:(decide ((cmpN a b)<(0:Int)))=false:=c4
 try simp only [nrm] at c4
 refine ⟨λ c7=>?_,λ c7=>?_⟩
 ·try simp only [nrm] at c7
  have h1:=one_limb (b:=b) (by omega)
  refine ao (by omega) λ o8=>?_
  refine ao (by omega) λ o9=>?_
  refine ⟨(a,b),by
   rw [L_n,h1.1];rfl,by
   show nl a<=1048576/\0<b/\b<BB
   exact ⟨by omega,by omega,h1.2.1⟩,?_⟩
  refine ⟨(a%b),by
   rfl,by
   show (a%b)<=9223372036854775807
   have:=Nat.mod_lt a (Nat.pos_of_ne_zero hpre.1)
   have:=h1.2.1
   unfold BB at this
   omega,?_⟩
  exact ⟨rfl,rfl⟩
 try simp only [nrm] at c7
 have h2:2<=nl b:=by have:=nl_pos hpre.1;omega
 have hba:b<=a:=cmpN_ge0.1 (by omega)
 refine ao (by omega) λ o18=>?_
 refine ao (by omega) λ o19=>?_
 refine ao (by omega) λ o20=>?_
 refine ⟨⟨nl a,by
  omega,?_⟩,?_⟩
 ·refine ⟨?_,rfl,rfl,?_,?_⟩
  ·rw [ha,wrap64 (by omega) (by omega)]
  ·rw [ha,hi_rows (Nat.div_le_self _ _)]
  rw [divTop b (lt_nl a),L_zero]
 intro (j:Nat) hki21
 have hki21:j<=nl a:=hki21
 have hlv:(rowsN (digN (nl a) (hi (a/b) j))).length=nl a:=by rw [rowsN_len,digN_len]
 have hrl:=L_len (a/BB^j%b)
 have hrn:=nl_mod_le (a:=a/BB^j) hpre.1
 refine And.symm ⟨λ c28=>?_,λ c28=>?_⟩
 ·try simp only [nrm] at c28
  refine ⟨(digN (nl a) (hi (a/b) j)),by
   rfl,by
   exact ⟨by rw [digN_len];omega,digN_lt _ _⟩,?_⟩
  refine ⟨?_,?_⟩
  ·rw [show j=0 by omega];exact hi_end (Nat.div_le_self _ _)
  rw [show j=0 by omega,Nat.pow_zero,Nat.div_one]
 try simp only [nrm] at c28
 have hj:((((j:Nat):Int)-1).toNat)=j-1:=by omega
 have hj1:j-1+1=j:=by omega
 have hs:=div_step_lt (a:=a) (j:=j-1) hpre.1
 have hq:=div_step_eq (a:=a) (j:=j-1) hpre.1
 rw [hj1] at hs hq
 have hRn:=digit_nl hs
 have hRb:(dgt a (j-1)+BB*(a/BB^j%b))/b<BB:=Nat.div_lt_of_lt_mul hs
 have hRl:=nl_lt_BB hRb
 refine ao (by omega) λ o29=>?_
 refine ao (by omega) λ o30=>?_
 refine ao (by simp only [List.length_cons,List.length_nil];omega) λ o31=>?_
 refine ⟨(dgt a (j-1)::dig (a/BB^j%b)),by
  rw [hj,L_n];rfl,by
  exact ⟨by show (dig _).length+1<=_;show nl _+1<=_;omega,dig_cons_lt (dgt_lt _ _)⟩,?_⟩
 refine ⟨(dgt a (j-1)+BB*(a/BB^j%b),b),by
  rw [limbs_cons];rfl,by
  show nl (dgt a (j-1)+BB*(a/BB^j%b))<=1048576/\nl b<=1048576
  exact ⟨by omega,by omega⟩,?_⟩
 refine And.symm ⟨λ c38=>?_,λ c38=>?_⟩
 ·replace c38:(decide ((cmpN (dgt a (j-1)+BB*(a/BB^j%b)) b)≥(0:Int)))=false:=c38
  try simp only [nrm] at c38
  have hlt:dgt a (j-1)+BB*(a/BB^j%b)<b:=cmpN_lt0.1 (by omega)
  have hk:=hi_keep (q:=a/b) (i:=j-1) (by rw [← hq.1,Nat.div_eq_of_lt hlt])
  rw [hj1] at hk
  refine ⟨j-1,by
   omega,by
   omega,?_⟩
  refine ⟨?_,rfl,rfl,?_,?_⟩
  ·rw [wrap_pred (by omega) (by omega)]
  ·rw [hk]
  rw [limbs_cons,← hq.2,Nat.mod_eq_of_lt hlt]
 replace c38:(decide ((cmpN (dgt a (j-1)+BB*(a/BB^j%b)) b)≥(0:Int)))=true:=c38
 try simp only [nrm] at c38
 have hset:(rowsN (digN (nl a) (hi (a/b) j))).set ((((j:Nat):Int)-1).toNat) (((rowsN (digN (nl a) (hi (a/b) j))).getD ((((j:Nat):Int)-1).toNat) []).set 0 (Dat.int (((dgt a (j-1)+BB*(a/BB^j%b))/b:Nat):Int)))=rowsN (digN (nl a) (hi (a/b) (j-1))):=by rw [hj];exact set_hi' (by omega) (by omega) hq.1
 refine ⟨(dgt a (j-1)+BB*(a/BB^j%b),b),by
  rw [limbs_cons];rfl,by
  show 2<=nl b/\b<=(dgt a (j-1)+BB*(a/BB^j%b))/\(dgt a (j-1)+BB*(a/BB^j%b))<b*BB/\nl b<=131072
  exact ⟨h2,cmpN_ge0.1 c38,hs,by omega⟩,?_⟩
 refine ao (by omega) λ o42=>?_
 refine ao (by omega) λ o43=>?_
 refine ao (a:=0<=(((j:Nat):Int)-1)/\(((j:Nat):Int)-1)<(((rowsN (digN (nl a) (hi (a/b) j))).set ((((j:Nat):Int)-1).toNat) (((rowsN (digN (nl a) (hi (a/b) j))).getD ((((j:Nat):Int)-1).toNat) []).set 0 (Dat.int (((dgt a (j-1)+BB*(a/BB^j%b))/b:Nat):Int)))).length:Int)) (by rw [List.length_set,hlv];omega) λ o44=>?_
 refine ao (a:=(((j:Nat):Int)-1).toNat<((rowsN (digN (nl a) (hi (a/b) j))).set ((((j:Nat):Int)-1).toNat) (((rowsN (digN (nl a) (hi (a/b) j))).getD ((((j:Nat):Int)-1).toNat) []).set 0 (Dat.int (((dgt a (j-1)+BB*(a/BB^j%b))/b:Nat):Int)))).length) (by omega) λ o45=>?_
 refine ⟨((dgt a (j-1)+BB*(a/BB^j%b))/b),by
  rw [hset,hj,digN_n (by omega),hi_dgt',← hq.1];rfl,by
  exact Nat.le_trans (Nat.le_of_lt hRb) (by decide),?_⟩
 refine ⟨(b,((dgt a (j-1)+BB*(a/BB^j%b))/b)),by
  rfl,by
  show nl b<=524288/\nl ((dgt a (j-1)+BB*(a/BB^j%b))/b)<=524288
  exact ⟨by omega,by omega⟩,?_⟩
 refine ⟨(dgt a (j-1)+BB*(a/BB^j%b),b*((dgt a (j-1)+BB*(a/BB^j%b))/b)),by
  rw [limbs_cons];rfl,by
  try dsimp only [natSub_con]
  have:=nl_mul_le b ((dgt a (j-1)+BB*(a/BB^j%b))/b)
  exact ⟨by omega,by omega,Nat.mul_div_le _ _⟩,?_⟩
 refine ⟨j-1,by
  omega,by
  omega,?_⟩
 refine ⟨?_,rfl,rfl,?_,?_⟩
 ·rw [wrap_pred (by omega) (by omega)]
 ·exact hset
 rw [sub_mul_div,hq.2]
def natGcd_con:Con:={ ι:=Nat×Nat,pre:=λ i=>nl i.1<=131072/\nl i.2<=131072,args:=λ i=>[.one (.sl 3 [.int] (L i.1)),.one (.sl 3 [.int] (L i.2))],res:=λ i=>⟨false,[none],[.view 3 [.int] (L (i.1.gcd i.2))]⟩ }
theorem natGcd_ok:natGcd_con.Ok Tryz.prog 87:=by
 refine fok (X:=⟨tt,[(114,natDiv_con),(115,natDivSmall_con)],[],44,[]⟩) mixed tt_ok (CTok.cons natDiv_ok (CTok.cons natDivSmall_ok (CTok.nil _))) Tryz.func87 (λ (i:Nat×Nat)=>[(8,.mk 1 (Nat×Nat) (λ x3=>{ tm:=[(9,.one (.one (.im (Value.int .i64 ((x3.1:Nat):Int))))),(8,.one (.one (.im (Value.int .i64 ((x3.2:Nat):Int)))))],en:=[] }) (λ x3=>x3.1.gcd x3.2=i.1.gcd i.2/\x3.1<BB/\0<x3.1/\x3.2<BB) (λ x3=>x3.2) (λ _=>[])),(1,.mk 3 (Nat×Nat) (λ x1=>{ tm:=[(0,.one (.one (.ext 1))),(1,.one (.one (.ext 2)))],en:=[(1,.view 3 [.int] (L x1.1) []),(2,.view 3 [.int] (L x1.2) [])] }) (λ x1=>x1.1.gcd x1.2=i.1.gcd i.2/\nl x1.1<=131072/\nl x1.2<=131072) (λ x1=>x1.2) (λ _=>[]))]) ?_
 rintro ⟨a,b⟩ hpre
 have hpre:nl a<=131072/\nl b<=131072:=hpre
 refine by_nf (q:=(∃ x1:Nat×Nat,(x1.1.gcd x1.2=a.gcd b/\nl x1.1<=131072/\nl x1.2<=131072)/\(((L a)=(L x1.1))/\((L b)=(L x1.2))))/\∀ x1:Nat×Nat,(x1.1.gcd x1.2=a.gcd b/\nl x1.1<=131072/\nl x1.2<=131072)->(((decide ((nI ((L x1.2).length))>(1:Int)))=true->(∃ i1:Nat×Nat,[DA.one (cS (L x1.1)),DA.one (cS (L x1.2))]=natDiv_con.args i1/\natDiv_con.pre i1/\(∃ y2:Nat×Nat,(y2.1.gcd y2.2=a.gcd b/\nl y2.1<=131072/\nl y2.2<=131072)/\(y2.2<x1.2)/\(((L x1.2)=(L y2.1))/\(L (i1.1%i1.2)=(L y2.2))))))/\((decide ((nI ((L x1.2).length))>(1:Int)))=false->((((nI ((L x1.2).length)) == (0:Int))=true->(((L x1.1)=L (a.gcd b))))/\(((nI ((L x1.2).length)) == (0:Int))=false->((0<=(0:Int)/\(0:Int)<((L x1.2).length:Int))/\((0<(L x1.2).length)/\(∃ i2:Nat×Nat,[DA.one (cS (L x1.1)),DA.one (cI (((((L x1.2).getD 0 []).getD 0 (.int 0))).n))]=natDivSmall_con.args i2/\natDivSmall_con.pre i2/\((0<=(0:Int)/\(0:Int)<((L x1.2).length:Int))/\((0<(L x1.2).length)/\((∃ x3:Nat×Nat,(x3.1.gcd x3.2=a.gcd b/\x3.1<BB/\0<x3.1/\x3.2<BB)/\((vI ((((L x1.2).getD 0 []).getD 0 (.int 0))).n=vI (nI x3.1))/\(vI (nI (i2.1%i2.2))=vI (nI x3.2))))/\∀ x3:Nat×Nat,(x3.1.gcd x3.2=a.gcd b/\x3.1<BB/\0<x3.1/\x3.2<BB)->(((decide ((nI x3.2)>(0:Int)))=true->(((nI x3.2)≠0)/\(∃ y4:Nat×Nat,(y4.1.gcd y4.2=a.gcd b/\y4.1<BB/\0<y4.1/\y4.2<BB)/\(y4.2<x3.2)/\((vI (nI x3.2)=vI (nI y4.1))/\(vI (Int.tmod (nI x3.1) (nI x3.2))=vI (nI y4.2))))))/\((decide ((nI x3.2)>(0:Int)))=false->((([[Dat.int (nI x3.1)]]:List (List Dat))=L (a.gcd b)))))))))))))))) (by kernel_rfl) ?_
 delta vI nI
 refine ⟨⟨(a,b),by
  exact ⟨rfl,hpre.1,hpre.2⟩,?_⟩,?_⟩
 ·exact ⟨rfl,rfl⟩
 rintro ⟨x,y⟩ hki1
 have hki1:x.gcd y=a.gcd b/\nl x<=131072/\nl y<=131072:=hki1
 have hy:=L_len y
 have hy0:y≠0↔0<nl y:=⟨nl_pos,λ h e=>by rw [e,nl_zero] at h;omega⟩
 refine ⟨λ c5=>?_,λ c5=>?_⟩
 ·replace c5:(decide ((((L y).length:Nat):Int)>(1:Int)))=true:=c5
  try simp only [nrm] at c5
  have hyy:y≠0:=hy0.2 (by omega)
  refine ⟨(x,y),by
   rfl,by
   exact ⟨hyy,hki1.2.1,hki1.2.2⟩,?_⟩
  refine ⟨(y,x%y),by
   exact ⟨(gcd_swap x y).trans hki1.1,hki1.2.2,Nat.le_trans (nl_mod_le hyy) hki1.2.2⟩,by
   exact Nat.mod_lt _ (Nat.pos_of_ne_zero hyy),?_⟩
  exact ⟨rfl,rfl⟩
 replace c5:(decide ((((L y).length:Nat):Int)>(1:Int)))=false:=c5
 try simp only [nrm] at c5
 refine ⟨λ c14=>?_,λ c14=>?_⟩
 ·replace c14:((((L y).length:Nat):Int) == (0:Int))=true:=c14
  try simp only [nrm] at c14
  show (L x)=L (a.gcd b)
  have h0:y=0:=nl_eq_zero.1 (by omega)
  subst h0
  rw [← hki1.1,Nat.gcd_zero_right]
 replace c14:((((L y).length:Nat):Int) == (0:Int))=false:=c14
 try simp only [nrm] at c14
 have h1:=one_limb (b:=y) (by omega)
 refine ao (a:=0<=(0:Int)/\(0:Int)<((L y).length:Int)) (by omega) λ o16=>?_
 refine ao (a:=0<(L y).length) (by omega) λ o17=>?_
 refine ⟨(x,y),by
  rw [L_n,h1.1];rfl,by
  exact ⟨by omega,h1.2.2,h1.2.1⟩,?_⟩
 refine ao (a:=0<=(0:Int)/\(0:Int)<((L y).length:Int)) (by omega) λ o21=>?_
 refine ao (a:=0<(L y).length) (by omega) λ o22=>?_
 refine ⟨⟨(y,x%y),by
  exact ⟨(gcd_swap x y).trans hki1.1,h1.2.1,h1.2.2,Nat.lt_trans (Nat.mod_lt _ h1.2.2) h1.2.1⟩,?_⟩,?_⟩
 ·refine ⟨?_,?_⟩
  ·rw [L_n,h1.1]
  rfl
 rintro ⟨n,r⟩ hki23
 have hki23:n.gcd r=a.gcd b/\n<BB/\0<n/\r<BB:=hki23
 refine And.symm ⟨λ c27=>?_,λ c27=>?_⟩
 ·replace c27:(decide (((r:Nat):Int)>(0:Int)))=false:=c27
  try simp only [nrm] at c27
  show ([[Dat.int ((n:Nat):Int)]]:List (List Dat))=L (a.gcd b)
  have hr0:r=0:=by omega
  subst hr0
  rw [← hki23.1,Nat.gcd_zero_right]
  exact L_one hki23.2.2.1 hki23.2.1
 replace c27:(decide (((r:Nat):Int)>(0:Int)))=true:=c27
 try simp only [nrm] at c27
 refine ao (a:=((r:Nat):Int)≠0) (by omega) λ o28=>?_
 refine ⟨(r,n%r),by
  have hr0:0<r:=by omega
  exact ⟨(gcd_swap n r).trans hki23.1,hki23.2.2.2,hr0,Nat.lt_trans (Nat.mod_lt _ hr0) hki23.2.2.2⟩,by
  exact Nat.mod_lt _ (by omega),?_⟩
 refine ⟨rfl,?_⟩
 rfl
end Go.Proofs.YtlejeadlmpkffaaGreat
