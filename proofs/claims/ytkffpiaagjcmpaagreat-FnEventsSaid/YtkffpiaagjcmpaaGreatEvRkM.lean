import Derived.Test.YtkffpiaagjcmpaaGreatEvRkN
import Derived.Test.YtkffpiaagjcmpaaGreatEvNum2
namespace Go.Proofs.YtkffpiaagjcmpaaGreat
set_option maxRecDepth 100000
set_option linter.unusedVariables false
set_option linter.unusedSimpArgs false
open Go.RowKit
theorem Vd {r d:Nat} (hr:r<BB) (hd:d<BB):IntKind.i64.wrap (IntKind.i64.wrap (((r:Nat):Int)*(1000000000:Int))+((d:Nat):Int))=((r*BB+d:Nat):Int):=by
 unfold BB at *
 rw [AC (x:=(r:Int)*1000000000) (by omega) (by omega),AC (by omega) (by omega)]
 omega
theorem UW {N q j x:Nat} (hj:0<j) (hN:j-1<N) (hx:x=dgt q (j-1)):(AN (AX N (hi q j))).set (j-1) (((AN (AX N (hi q j))).getD (j-1) []).set 0 (Dat.int ((x:Nat):Int)))=AN (AX N (hi q (j-1))):=by
 obtain ⟨m,rfl⟩:∃ m,j=m+1:=⟨j-1,by omega⟩
 exact ABU hN hx
theorem Xr {lo hi:Nat} (h1:lo<=999999999) (h2:hi<=999999999):IntKind.i64.wrap (Int.tdiv (IntKind.i64.wrap (IntKind.i64.wrap (((lo:Nat):Int)+((hi:Nat):Int))+(1:Int))) (2:Int))=(((lo+hi+1)/2:Nat):Int):=by
 rw [AC (x:=(lo:Int)+hi) (by omega) (by omega),AC (x:=(lo:Int)+hi+1) (by omega) (by omega),show (lo:Int)+hi+1=((lo+hi+1:Nat):Int) by omega,show (2:Int)=((2:Nat):Int) from rfl,AAs,Ey (by omega)]
theorem He {j:Nat} (h:j<=2147483648) (h0:0<j):IntKind.i64.wrap (((j:Nat):Int)-1-(1:Int))=(((j-1:Nat):Int)-1):=by rw [AC (by omega) (by omega)];omega
theorem MT {n:Nat} (h:n<BB):nl n<=1:=(Ea _ _).2 (by rw [Nat.pow_one];exact h)
theorem Q2 {a b:Nat} (h:a<b*BB):nl a<=nl b+1:=(Ea _ _).2 (Nat.lt_of_lt_of_le h (by rw [Nat.pow_succ];exact Nat.mul_le_mul_right _ (Nat.le_of_lt (D5 b))))
theorem MU (x y:Nat):y.gcd (x%y)=x.gcd y:=by rw [Nat.gcd_comm,← Nat.gcd_rec,Nat.gcd_comm]
def Ak:Con:={ ι:=Nat×Nat,pre:=λ i=>nl i.1<=1048576/\nl i.2<=1048576,args:=λ i=>[.one (cS (L i.1)),.one (cS (L i.2))],mono:=true,res:=λ i=>⟨false,[none],[rcI (C6 i.1 i.2)]⟩ }
theorem Hf:Ak.Ok Tryz.prog 148:=by
 refine fok (X:=⟨tt,[(181,DX)],[],41,[]⟩) mixed AQ (CTok.cons Vb (CTok.nil _)) Tryz.func148 (λ (i:Nat×Nat)=>[(4,.mk 3 (Nat) (λ x1=>{ tm:=[(0,tX 1),(1,tX 2),(5,tI ((nI x1)-1))],en:=[(1,eV (L i.1)),(2,eV (L i.2))] }) (λ x1=>x1<=nl i.1/\nl i.1=nl i.2/\i.1/BB^x1=i.2/BB^x1) (λ x1=>x1) (λ _=>[]))]) ?_
 rintro ⟨a,b⟩ hpre
 have hpre:nl a<=1048576/\nl b<=1048576:=hpre
 refine AP (q:=let Z4:=nI ((L a).length);ifB ((Z4 != (nI ((L b).length)))) (∃ i1:Int×Int,[DA.one (cI Z4),DA.one (cI (nI ((L b).length)))]=DX.args i1/\DX.pre i1/\((vI (DN i1.1 i1.2)=vI (C6 a b)))) ((∃ x1:Nat,(x1<=nl a/\nl a=nl b/\a/BB^x1=b/BB^x1)/\((vI (wR (Z4-(1:Int)))=vI ((nI x1)-1))/\(rf (L a))/\(rf (L b))))/\∀ x1:Nat,let Z1:=(nI x1)-1;let Z6:=Z1.toNat<(L b).length;let Z5:=Z1.toNat<(L a).length;let Z3:=(((L b).getD (Z1.toNat) []).getD 0 (.int 0));let Z2:=(((L a).getD (Z1.toNat) []).getD 0 (.int 0));(x1<=nl a/\nl a=nl b/\a/BB^x1=b/BB^x1)->(ifB ((decide (Z1≥(0:Int)))) ((0<=Z1/\Z1<((L a).length:Int))/\(Z5/\((0<=Z1/\Z1<((L b).length:Int))/\(Z6/\(ifB ((Z2.n != Z3.n)) ((0<=Z1/\Z1<((L a).length:Int))/\(Z5/\((0<=Z1/\Z1<((L b).length:Int))/\(Z6/\(∃ i2:Int×Int,[DA.one (cI (Z2.n)),DA.one (cI (Z3.n))]=DX.args i2/\DX.pre i2/\((vI (DN i2.1 i2.2)=vI (C6 a b)))))))) (∃ y2:Nat,(y2<=nl a/\nl a=nl b/\a/BB^y2=b/BB^y2)/\(y2<x1)/\((vI (wR (Z1-(1:Int)))=vI ((nI y2)-1))/\(rf (L a))/\(rf (L b))))))))) ((vI (0:Int)=vI (C6 a b)))))) (by kernel_rfl) ?_
 conv=>zeta
 delta ifB vI wR nI
 have ha:=Aq a
 have hb:=Aq b
 refine ⟨λ c1=>?_,λ c1=>?_⟩
 ·try simp only [nrm] at c1
  refine ⟨((((L a).length:Nat):Int),(((L b).length:Nat):Int)),by
   rfl,by
   trivial,?_⟩
  rw [ha,hb,Zi (by omega)]
 try simp only [nrm] at c1
 refine ⟨⟨nl a,by
  exact ⟨Nat.le_refl _,by omega,by rw [Nat.div_eq_of_lt (D5 a),show nl a=nl b by omega,Nat.div_eq_of_lt (D5 b)]⟩,?_⟩,?_⟩
 ·refine ⟨?_,rfl,rfl⟩
  rw [ha,AC (by omega) (by omega)]
 intro (j:Nat) hki6
 have hki6:j<=nl a/\nl a=nl b/\a/BB^j=b/BB^j:=hki6
 have hj:0<j->((((j:Nat):Int)-1).toNat)=j-1:=λ h=>by omega
 refine And.symm ⟨λ c11=>?_,λ c11=>?_⟩
 ·try simp only [nrm] at c11
  have hj0:j=0:=by omega
  subst hj0
  have e:=hki6.2.2
  rw [Nat.pow_zero,Nat.div_one,Nat.div_one] at e
  rw [e,Za]
 try simp only [nrm] at c11
 refine ao (by omega) λ o12=>?_
 refine ao (by omega) λ o13=>?_
 refine ao (by omega) λ o14=>?_
 refine ao (by omega) λ o15=>?_
 refine And.symm ⟨λ c16=>?_,λ c16=>?_⟩
 ·try simp only [nrm] at c16
  rw [hj (by omega),L_n,L_n] at c16
  refine ⟨j-1,by
   exact ⟨by omega,hki6.2.1,ZV (k:=j-1) (by rw [Nat.sub_add_cancel (by omega)];exact hki6.2.2) (by omega)⟩,by
   omega,?_⟩
  refine ⟨?_,rfl,rfl⟩
  rw [He (by omega) (by omega)]
 try simp only [nrm] at c16
 rw [hj (by omega),L_n,L_n] at c16
 refine ao (by omega) λ o17=>?_
 refine ao (by omega) λ o18=>?_
 refine ao (by omega) λ o19=>?_
 refine ao (by omega) λ o20=>?_
 refine ⟨(((((L a).getD ((((j:Nat):Int)-1).toNat) []).getD 0 (.int 0))).n,((((L b).getD ((((j:Nat):Int)-1).toNat) []).getD 0 (.int 0))).n),by
  rfl,by
  trivial,?_⟩
 rw [hj (by omega),L_n,L_n,Xp (k:=j-1) (by rw [Nat.sub_add_cancel (by omega)];exact hki6.2.2) (by omega)]
def Ct:Con:={ ι:=Nat×Nat,pre:=λ i=>nl i.1<=1048576/\nl i.2<=1048576,args:=λ i=>[.one (cS (L i.1)),.one (cS (L i.2))],mono:=true,res:=λ i=>⟨false,[none],[.own 3 [.int] (L (i.1+i.2))]⟩ }
theorem OK:Ct.Ok Tryz.prog 115:=by
 refine fok (X:=⟨tt,[(151,Ai)],[],49,[]⟩) mixed AQ (CTok.cons LR (CTok.nil _)) Tryz.func115 (λ (i:Nat×Nat)=>[(4,.mk 4 (Nat) (λ x1=>{ tm:=[(0,tX 1),(1,tX 2),(5,tX 3),(6,tI (nI (Ce i.1 i.2 x1))),(7,tI (nI x1))],en:=[(1,eV (L i.1)),(2,eV (L i.2)),(3,.own 3 [.int] (AN (AX x1 (i.1+i.2))))] }) (λ x1=>x1<=max (nl i.1) (nl i.2)+1/\(x1=0∨BB^(x1-1)<=i.1+i.2)) (λ x1=>max (nl i.1) (nl i.2)+2-x1) (λ _=>[]))]) ?_
 rintro ⟨a,b⟩ hpre
 have hpre:nl a<=1048576/\nl b<=1048576:=hpre
 refine AP (q:=let Z10:=List Dat;let Z6:=wR ((max (nI ((L a).length)) (nI ((L b).length)))+(1:Int));let Z5:=(1000000000:Int)≠0;(0<=(0:Int))/\(((0:Int)<=Z6)/\((Z6<=1073741824)/\((∃ x1:Nat,(x1<=max (nl a) (nl b)+1/\(x1=0∨BB^(x1-1)<=a+b))/\((vI (0:Int)=vI (nI (Ce a b x1)))/\(vI (0:Int)=vI (nI x1))/\(rf (L a))/\(rf (L b))/\((List.replicate 0 [Dat.int (0:Int)])=(AN (AX x1 (a+b))))))/\∀ x1:Nat,let Z9:=cI (nI x1);let Z8:=wR ((nI x1)+(1:Int));let Z7:=nI (Ce a b x1);let Z4:=AN (AX x1 (a+b));(x1<=max (nl a) (nl b)+1/\(x1=0∨BB^(x1-1)<=a+b))->(ifB ((!(decide ((nI x1)<(nI ((L a).length)))))) (ifB ((!(decide ((nI x1)<(nI ((L b).length)))))) (ifB ((decide (Z7>(0:Int)))) (∃ i1:Nat×Nat,[DA.one (cS (L a)),DA.one Z9]=Ai.args i1/\Ai.pre i1/\(∃ i2:Nat×Nat,let Z1:=wR ((wR ((nI (dgt i1.1 i1.2))+(nI (dgt i2.1 i2.2))))+Z7);let Z11:=Int.tmod Z1 (1000000000:Int);[DA.one (cS (L b)),DA.one Z9]=Ai.args i2/\Ai.pre i2/\(Z5/\((Z4.length+([[Dat.int Z11]]:List Z10).length<=2199023255552)/\(Z5/\(∃ y2:Nat,(y2<=max (nl a) (nl b)+1/\(y2=0∨BB^(y2-1)<=a+b))/\(max (nl a) (nl b)+2-y2<max (nl a) (nl b)+2-x1)/\((vI (wR (Int.tdiv Z1 (1000000000:Int)))=vI (nI (Ce a b y2)))/\(vI Z8=vI (nI y2))/\(rf (L a))/\(rf (L b))/\((Z4++([[Dat.int Z11]]:List Z10))=(AN (AX y2 (a+b))))))))))) ((Z4=L (a+b)))) (∃ i3:Nat×Nat,[DA.one (cS (L a)),DA.one Z9]=Ai.args i3/\Ai.pre i3/\(∃ i4:Nat×Nat,let Z2:=wR ((wR ((nI (dgt i3.1 i3.2))+(nI (dgt i4.1 i4.2))))+Z7);let Z12:=Int.tmod Z2 (1000000000:Int);[DA.one (cS (L b)),DA.one Z9]=Ai.args i4/\Ai.pre i4/\(Z5/\((Z4.length+([[Dat.int Z12]]:List Z10).length<=2199023255552)/\(Z5/\(∃ y3:Nat,(y3<=max (nl a) (nl b)+1/\(y3=0∨BB^(y3-1)<=a+b))/\(max (nl a) (nl b)+2-y3<max (nl a) (nl b)+2-x1)/\((vI (wR (Int.tdiv Z2 (1000000000:Int)))=vI (nI (Ce a b y3)))/\(vI Z8=vI (nI y3))/\(rf (L a))/\(rf (L b))/\((Z4++([[Dat.int Z12]]:List Z10))=(AN (AX y3 (a+b)))))))))))) (∃ i5:Nat×Nat,[DA.one (cS (L a)),DA.one Z9]=Ai.args i5/\Ai.pre i5/\(∃ i6:Nat×Nat,let Z3:=wR ((wR ((nI (dgt i5.1 i5.2))+(nI (dgt i6.1 i6.2))))+Z7);let Z13:=Int.tmod Z3 (1000000000:Int);[DA.one (cS (L b)),DA.one Z9]=Ai.args i6/\Ai.pre i6/\(Z5/\((Z4.length+([[Dat.int Z13]]:List Z10).length<=2199023255552)/\(Z5/\(∃ y4:Nat,(y4<=max (nl a) (nl b)+1/\(y4=0∨BB^(y4-1)<=a+b))/\(max (nl a) (nl b)+2-y4<max (nl a) (nl b)+2-x1)/\((vI (wR (Int.tdiv Z3 (1000000000:Int)))=vI (nI (Ce a b y4)))/\(vI Z8=vI (nI y4))/\(rf (L a))/\(rf (L b))/\((Z4++([[Dat.int Z13]]:List Z10))=(AN (AX y4 (a+b)))))))))))))))) (by kernel_rfl) ?_
 conv=>zeta
 delta ifB vI wR nI
 have ha:=Aq a
 have hb:=Aq b
 have hw0:IntKind.i64.wrap ((max (((L a).length:Nat):Int) (((L b).length:Nat):Int))+(1:Int))=((max (nl a) (nl b)+1:Nat):Int):=by rw [ha,hb,AC (by omega) (by omega)];omega
 refine ao (by omega) λ o1=>?_
 refine ao (by omega) λ o2=>?_
 refine ao (by omega) λ o3=>?_
 refine ⟨⟨0,by
  exact ⟨Nat.zero_le _,.inl rfl⟩,?_⟩,?_⟩
 ·refine ⟨?_,?_,rfl,rfl,?_⟩
  ·rw [VS];rfl
  ·rfl
  rfl
 intro (i:Nat) hki4
 have hki4:i<=max (nl a) (nl b)+1/\(i=0∨BB^(i-1)<=a+b):=hki4
 have da:=UP a i
 have db:=UP b i
 have hc:=LO a b i
 have hn:IntKind.i64.wrap (IntKind.i64.wrap (((dgt a i:Nat):Int)+((dgt b i:Nat):Int))+((Ce a b i:Nat):Int))=((dgt a i+dgt b i+Ce a b i:Nat):Int):=by rw [AC (x:=(dgt a i:Int)+_) (by omega) (by omega),AC (by omega) (by omega)];omega
 have h1:=ZW a b i
 have hl:(AN (AX i (a+b))).length=i:=by rw [CE,A0]
 refine And.symm ⟨λ c11=>?_,λ c11=>?_⟩
 ·try simp only [nrm] at c11
  refine ⟨(a,i),by
   rfl,by
   show nl a<=1048576/\i<=4194304
   exact ⟨by omega,by omega⟩,?_⟩
  refine ⟨(b,i),by
   rfl,by
   show nl b<=1048576/\i<=4194304
   exact ⟨by omega,by omega⟩,?_⟩
  refine ao (by omega) λ o55=>?_
  refine ao (a:=(AN (AX i (a+b))).length+([[Dat.int (Int.tmod (IntKind.i64.wrap ((IntKind.i64.wrap (((dgt a i:Nat):Int)+((dgt b i:Nat):Int)))+((Ce a b i:Nat):Int))) (1000000000:Int))]]:List (List Dat)).length<=2199023255552) (by simp only [hl,List.length_cons,List.length_nil];omega) λ o56=>?_
  refine ao (by omega) λ o57=>?_
  refine ⟨i+1,by
   have hz:i<nl a∨i<nl b∨0<Ce a b i:=by omega
   exact ⟨by (rcases hz with h|h|h) <;> first|omega|(have:=MR h;omega),.inr (Gt hz)⟩,by
   omega,?_⟩
  refine ⟨?_,?_,rfl,rfl,?_⟩
  ·rw [hn,OE,h1.2,Ey (by have:=LO a b (i+1);omega)]
  ·exact AS (AC (by omega) (by omega))
  rw [hn,Qr,h1.1,DU,← DR]
 try simp only [nrm] at c11
 refine And.symm ⟨λ c12=>?_,λ c12=>?_⟩
 ·try simp only [nrm] at c12
  refine ⟨(a,i),by
   rfl,by
   show nl a<=1048576/\i<=4194304
   exact ⟨by omega,by omega⟩,?_⟩
  refine ⟨(b,i),by
   rfl,by
   show nl b<=1048576/\i<=4194304
   exact ⟨by omega,by omega⟩,?_⟩
  refine ao (by omega) λ o38=>?_
  refine ao (a:=(AN (AX i (a+b))).length+([[Dat.int (Int.tmod (IntKind.i64.wrap ((IntKind.i64.wrap (((dgt a i:Nat):Int)+((dgt b i:Nat):Int)))+((Ce a b i:Nat):Int))) (1000000000:Int))]]:List (List Dat)).length<=2199023255552) (by simp only [hl,List.length_cons,List.length_nil];omega) λ o39=>?_
  refine ao (by omega) λ o40=>?_
  refine ⟨i+1,by
   have hz:i<nl a∨i<nl b∨0<Ce a b i:=by omega
   exact ⟨by (rcases hz with h|h|h) <;> first|omega|(have:=MR h;omega),.inr (Gt hz)⟩,by
   omega,?_⟩
  refine ⟨?_,?_,rfl,rfl,?_⟩
  ·rw [hn,OE,h1.2,Ey (by have:=LO a b (i+1);omega)]
  ·exact AS (AC (by omega) (by omega))
  rw [hn,Qr,h1.1,DU,← DR]
 try simp only [nrm] at c12
 refine And.symm ⟨λ c13=>?_,λ c13=>?_⟩
 ·try simp only [nrm] at c13
  exact Zj (by omega) (by omega) (by omega) hki4.2
 try simp only [nrm] at c13
 refine ⟨(a,i),by
  rfl,by
  show nl a<=1048576/\i<=4194304
  exact ⟨by omega,by omega⟩,?_⟩
 refine ⟨(b,i),by
  rfl,by
  show nl b<=1048576/\i<=4194304
  exact ⟨by omega,by omega⟩,?_⟩
 refine ao (by omega) λ o20=>?_
 refine ao (a:=(AN (AX i (a+b))).length+([[Dat.int (Int.tmod (IntKind.i64.wrap ((IntKind.i64.wrap (((dgt a i:Nat):Int)+((dgt b i:Nat):Int)))+((Ce a b i:Nat):Int))) (1000000000:Int))]]:List (List Dat)).length<=2199023255552) (by simp only [hl,List.length_cons,List.length_nil];omega) λ o21=>?_
 refine ao (by omega) λ o22=>?_
 refine ⟨i+1,by
  have hz:i<nl a∨i<nl b∨0<Ce a b i:=by omega
  exact ⟨by (rcases hz with h|h|h) <;> first|omega|(have:=MR h;omega),.inr (Gt hz)⟩,by
  omega,?_⟩
 refine ⟨?_,?_,rfl,rfl,?_⟩
 ·rw [hn,OE,h1.2,Ey (by have:=LO a b (i+1);omega)]
 ·exact AS (AC (by omega) (by omega))
 rw [hn,Qr,h1.1,DU,← DR]
def Br:Con:={ ι:=Nat×Nat,pre:=λ i=>nl i.1<=1048576/\nl i.2<=1048576/\i.2<=i.1,args:=λ i=>[.one (cS (L i.1)),.one (cS (L i.2))],mono:=true,res:=λ i=>⟨false,[none],[.view 3 [.int] (L (i.1-i.2))]⟩ }
theorem OL:Br.Ok Tryz.prog 153:=by
 refine fok (X:=⟨tt,[(151,Ai),(152,Au)],[],38,[]⟩) mixed AQ (CTok.cons LR (CTok.cons Fu (CTok.nil _))) Tryz.func153 (λ (i:Nat×Nat)=>[(4,.mk 4 (Nat) (λ x1=>{ tm:=[(0,tX 1),(1,tX 2),(13,tI (nI ((L i.1).length))),(14,tI (nI x1)),(5,tX 3),(6,tI (nI (brw i.1 i.2 x1)))],en:=[(1,eV (L i.1)),(2,eV (L i.2)),(3,.own 3 [.int] (AN (AX x1 (i.1-i.2))))] }) (λ x1=>x1<=nl i.1) (λ x1=>nl i.1-x1) (λ _=>[]))]) ?_
 rintro ⟨a,b⟩ hpre
 have hpre:nl a<=1048576/\nl b<=1048576/\b<=a:=hpre
 refine AP (q:=let Z3:=nI ((L a).length);(0<=(0:Int))/\(((0:Int)<=Z3)/\((Z3<=1073741824)/\((∃ x1:Nat,(x1<=nl a)/\((rf (vI Z3))/\(vI (0:Int)=vI (nI x1))/\(vI (0:Int)=vI (nI (brw a b x1)))/\(rf (L a))/\(rf (L b))/\((List.replicate 0 [Dat.int (0:Int)])=(AN (AX x1 (a-b))))))/\∀ x1:Nat,let Z5:=wR ((nI x1)+(1:Int));let Z2:=AN (AX x1 (a-b));(x1<=nl a)->(ifB ((decide ((nI x1)<Z3))) ((0<=(nI x1)/\(nI x1)<((L a).length:Int))/\((x1<(L a).length)/\(∃ i1:Nat×Nat,let Z1:=wR ((wR (((((L a).getD x1 []).getD 0 (.int 0))).n-(nI (dgt i1.1 i1.2))))-(nI (brw a b x1)));let Z4:=wR (Z1+(1000000000:Int));[DA.one (cS (L b)),DA.one (cI (nI x1))]=Ai.args i1/\Ai.pre i1/\(ifB ((decide (Z1<(0:Int)))) ((Z2.length+([[Dat.int Z4]]:List (List Dat)).length<=2199023255552)/\(∃ y2:Nat,(y2<=nl a)/\(nl a-y2<nl a-x1)/\((rf (vI Z3))/\(vI Z5=vI (nI y2))/\(vI (1:Int)=vI (nI (brw a b y2)))/\(rf (L a))/\(rf (L b))/\((Z2++([[Dat.int Z4]]:List (List Dat)))=(AN (AX y2 (a-b))))))) ((Z2.length+([[Dat.int Z1]]:List (List Dat)).length<=2199023255552)/\(∃ y3:Nat,(y3<=nl a)/\(nl a-y3<nl a-x1)/\((rf (vI Z3))/\(vI Z5=vI (nI y3))/\(vI (0:Int)=vI (nI (brw a b y3)))/\(rf (L a))/\(rf (L b))/\((Z2++([[Dat.int Z1]]:List (List Dat)))=(AN (AX y3 (a-b))))))))))) (∃ i2:(List Nat),[DA.one (cS Z2)]=Au.args i2/\Au.pre i2/\((L (Ap i2)=L (a-b))))))))) (by kernel_rfl) ?_
 conv=>zeta
 delta ifB vI wR nI
 have ha:=Aq a
 have hb:=Aq b
 refine ao (by omega) λ o1=>?_
 refine ao (by omega) λ o2=>?_
 refine ao (by omega) λ o3=>?_
 refine ⟨⟨0,by
  omega,?_⟩,?_⟩
 ·refine ⟨rfl,?_,?_,rfl,rfl,?_⟩
  ·rfl
  ·rw [Xb];rfl
  rfl
 intro (i:Nat) hki4
 have hki4:i<=nl a:=hki4
 have da:=UP a i
 have db:=UP b i
 have hc:=Sk a b i
 have h1:=ZX hpre.2.2 i
 have hn:IntKind.i64.wrap (IntKind.i64.wrap (((((L a).getD i []).getD 0 (.int 0))).n-((dgt b i:Nat):Int))-((brw a b i:Nat):Int))=(dgt a i:Int)-dgt b i-brw a b i:=by rw [L_n,AC (x:=(dgt a i:Int)-_) (by omega) (by omega),AC (by omega) (by omega)]
 have hl:(AN (AX i (a-b))).length=i:=by rw [CE,A0]
 refine And.symm ⟨λ c12=>?_,λ c12=>?_⟩
 ·try simp only [nrm] at c12
  refine ⟨(AX i (a-b)),by
   rfl,by
   exact ⟨by rw [A0];omega,LP _ _⟩,?_⟩
  rw [J3 (by have:=Ex (Nat.sub_le a b);omega)]
 try simp only [nrm] at c12
 refine ao (by omega) λ o13=>?_
 refine ao (by omega) λ o14=>?_
 refine ⟨(b,i),by
  rfl,by
  show nl b<=1048576/\i<=4194304
  exact ⟨by omega,by omega⟩,?_⟩
 refine And.symm ⟨λ c18=>?_,λ c18=>?_⟩
 ·try simp only [nrm] at c18
  rw [hn] at c18
  have hq:=h1.2 c18
  refine ao (a:=(AN (AX i (a-b))).length+([[Dat.int (IntKind.i64.wrap ((IntKind.i64.wrap (((((L a).getD i []).getD 0 (.int 0))).n-((dgt b i:Nat):Int)))-((brw a b i:Nat):Int)))]]:List (List Dat)).length<=2199023255552) (by simp only [hl,List.length_cons,List.length_nil];omega) λ o29=>?_
  refine ⟨i+1,by
   omega,by
   omega,?_⟩
  refine ⟨rfl,?_,?_,rfl,rfl,?_⟩
  ·exact AS (AC (by omega) (by omega))
  ·rw [hq.2];rfl
  rw [hn,hq.1,DU,← DR]
 try simp only [nrm] at c18
 rw [hn] at c18
 have hq:=h1.1 c18
 have hw:IntKind.i64.wrap ((dgt a i:Int)-dgt b i-brw a b i+(1000000000:Int))=(dgt a i:Int)-dgt b i-brw a b i+1000000000:=by rw [AC (by omega) (by omega)]
 refine ao (a:=(AN (AX i (a-b))).length+([[Dat.int (IntKind.i64.wrap ((IntKind.i64.wrap ((IntKind.i64.wrap (((((L a).getD i []).getD 0 (.int 0))).n-((dgt b i:Nat):Int)))-((brw a b i:Nat):Int)))+(1000000000:Int)))]]:List (List Dat)).length<=2199023255552) (by simp only [hl,List.length_cons,List.length_nil];omega) λ o19=>?_
 refine ⟨i+1,by
  omega,by
  omega,?_⟩
 refine ⟨rfl,?_,?_,rfl,rfl,?_⟩
 ·exact AS (AC (by omega) (by omega))
 ·rw [hq.2];rfl
 rw [hn,hw,hq.1,DU,← DR]
def Al:Con:={ ι:=Nat×Nat,pre:=λ i=>nl i.1<=524288/\nl i.2<=524288,args:=λ i=>[.one (cS (L i.1)),.one (cS (L i.2))],mono:=true,res:=λ i=>⟨false,[none],[.view 3 [.int] (L (i.1*i.2))]⟩ }
theorem EH:Al.Ok Tryz.prog 111:=by
 refine fok (X:=⟨tt,[(151,Ai),(152,Au)],[],60,[]⟩) mixed AQ (CTok.cons LR (CTok.cons Fu (CTok.nil _))) Tryz.func111 (λ (i:Nat×Nat)=>[(3,.mk 4 (Nat) (λ x1=>{ tm:=[(0,tX 1),(1,tX 2),(17,tX 1),(18,tI (nI ((L i.1).length))),(19,tI (nI x1)),(5,tX 3)],en:=[(1,eV (L i.1)),(2,eV (L i.2)),(3,.own 3 [.int] (AN (AX (nl i.1+nl i.2) (i.1%BB^x1*i.2))))] }) (λ x1=>x1<=nl i.1) (λ x1=>nl i.1-x1) (λ x1=>[(7,.mk 4 (Nat×Nat×Nat) (λ x2=>{ tm:=[(0,tX 1),(1,tX 2),(17,tX 1),(18,tI (nI ((L i.1).length))),(19,tI (nI x1)),(6,tI (nI x1)),(7,tI (((((L i.1).getD x1 []).getD 0 (.int 0))).n)),(5,tX 3),(8,tI (nI x2.2.2)),(9,tI (nI x2.1))],en:=[(1,eV (L i.1)),(2,eV (L i.2)),(3,.own 3 [.int] (AN (AX (nl i.1+nl i.2) x2.2.1)))] }) (λ x2=>x2.2.1+x2.2.2*BB^(x1+x2.1)=i.1%BB^x1*i.2+dgt i.1 x1*BB^x1*(i.2%BB^x2.1)/\x2.2.2<BB/\(x2.1<=nl i.2∨x2.2.2=0)/\x2.1<=nl i.2+1) (λ x2=>nl i.2+2-x2.1) (λ _=>[]))]))]) ?_
 rintro ⟨a,b⟩ hpre
 have hpre:nl a<=524288/\nl b<=524288:=hpre
 refine AP (q:=let Z10:=nl a+nl b;let Z7:=(1000000000:Int)≠0;let Z6:=nI ((L a).length);let Z4:=wR (Z6+(nI ((L b).length)));(0<=Z4)/\((Z4<=Z4)/\((Z4<=1073741824)/\((∃ x1:Nat,(x1<=nl a)/\((rf (vI Z6))/\(vI (0:Int)=vI (nI x1))/\(rf (L a))/\(rf (L b))/\((List.replicate (Z4.toNat) [Dat.int (0:Int)])=(AN (AX Z10 (a%BB^x1*b))))))/\∀ x1:Nat,let Z15:=AN (AX Z10 (a%BB^x1*b));let Z12:=vI (nI x1);let Z3:=(((L a).getD x1 []).getD 0 (.int 0));(x1<=nl a)->(ifB ((decide ((nI x1)<Z6))) ((0<=(nI x1)/\(nI x1)<((L a).length:Int))/\((x1<(L a).length)/\((∃ x2:Nat×Nat×Nat,(x2.2.1+x2.2.2*BB^(x1+x2.1)=a%BB^x1*b+dgt a x1*BB^x1*(b%BB^x2.1)/\x2.2.2<BB/\(x2.1<=nl b∨x2.2.2=0)/\x2.1<=nl b+1)/\((rf (vI Z6))/\(rf Z12)/\(rf Z12)/\(rf (vI Z3.n))/\(vI (0:Int)=vI (nI x2.2.2))/\(vI (0:Int)=vI (nI x2.1))/\(rf (L a))/\(rf (L b))/\(Z15=(AN (AX Z10 x2.2.1)))))/\∀ x2:Nat×Nat×Nat,let Z16:=wR ((nI x2.1)+(1:Int));let Z2:=wR ((nI x1)+(nI x2.1));let Z1:=AN (AX Z10 x2.2.1);let Z14:=Z1.getD (Z2.toNat) [];let Z13:=(Z1.length:Int);let Z11:=Z2.toNat<Z1.length;let Z5:=(Z14.getD 0 (.int 0));(x2.2.1+x2.2.2*BB^(x1+x2.1)=a%BB^x1*b+dgt a x1*BB^x1*(b%BB^x2.1)/\x2.2.2<BB/\(x2.1<=nl b∨x2.2.2=0)/\x2.1<=nl b+1)->(ifB ((!(decide ((nI x2.1)<(nI ((L b).length)))))) (ifB ((decide ((nI x2.2.2)>(0:Int)))) ((0<=Z2/\Z2<Z13)/\(Z11/\(∃ i1:Nat×Nat,let Z8:=wR ((wR (Z5.n+(wR (Z3.n*(nI (dgt i1.1 i1.2))))))+(nI x2.2.2));[DA.one (cS (L b)),DA.one (cI (nI x2.1))]=Ai.args i1/\Ai.pre i1/\(Z7/\((0<=Z2/\Z2<Z13)/\(Z11/\(Z7/\(∃ y3:Nat×Nat×Nat,(y3.2.1+y3.2.2*BB^(x1+y3.1)=a%BB^x1*b+dgt a x1*BB^x1*(b%BB^y3.1)/\y3.2.2<BB/\(y3.1<=nl b∨y3.2.2=0)/\y3.1<=nl b+1)/\(nl b+2-y3.1<nl b+2-x2.1)/\((rf (vI Z6))/\(rf Z12)/\(rf Z12)/\(rf (vI Z3.n))/\(vI (wR (Int.tdiv Z8 (1000000000:Int)))=vI (nI y3.2.2))/\(vI Z16=vI (nI y3.1))/\(rf (L a))/\(rf (L b))/\((Z1.set (Z2.toNat) (Z14.set 0 (Dat.int (Int.tmod Z8 (1000000000:Int)))))=(AN (AX Z10 y3.2.1)))))))))))) (∃ y4:Nat,(y4<=nl a)/\(nl a-y4<nl a-x1)/\((rf (vI Z6))/\(vI (wR ((nI x1)+(1:Int)))=vI (nI y4))/\(rf (L a))/\(rf (L b))/\(Z1=(AN (AX Z10 (a%BB^y4*b))))))) ((0<=Z2/\Z2<Z13)/\(Z11/\(∃ i2:Nat×Nat,let Z9:=wR ((wR (Z5.n+(wR (Z3.n*(nI (dgt i2.1 i2.2))))))+(nI x2.2.2));[DA.one (cS (L b)),DA.one (cI (nI x2.1))]=Ai.args i2/\Ai.pre i2/\(Z7/\((0<=Z2/\Z2<Z13)/\(Z11/\(Z7/\(∃ y5:Nat×Nat×Nat,(y5.2.1+y5.2.2*BB^(x1+y5.1)=a%BB^x1*b+dgt a x1*BB^x1*(b%BB^y5.1)/\y5.2.2<BB/\(y5.1<=nl b∨y5.2.2=0)/\y5.1<=nl b+1)/\(nl b+2-y5.1<nl b+2-x2.1)/\((rf (vI Z6))/\(rf Z12)/\(rf Z12)/\(rf (vI Z3.n))/\(vI (wR (Int.tdiv Z9 (1000000000:Int)))=vI (nI y5.2.2))/\(vI Z16=vI (nI y5.1))/\(rf (L a))/\(rf (L b))/\((Z1.set (Z2.toNat) (Z14.set 0 (Dat.int (Int.tmod Z9 (1000000000:Int)))))=(AN (AX Z10 y5.2.1)))))))))))))))) (∃ i3:(List Nat),[DA.one (cS Z15)]=Au.args i3/\Au.pre i3/\((L (Ap i3)=L (a*b))))))))) (by kernel_rfl) ?_
 conv=>zeta
 delta ifB vI wR nI
 have ha:=Aq a
 have hb:=Aq b
 have hw0:IntKind.i64.wrap ((((L a).length:Nat):Int)+(((L b).length:Nat):Int))=((nl a+nl b:Nat):Int):=by rw [ha,hb,AC (by omega) (by omega)];omega
 refine ao (by omega) λ o1=>?_
 refine ao (by omega) λ o2=>?_
 refine ao (by omega) λ o3=>?_
 refine ⟨⟨0,by
  omega,?_⟩,?_⟩
 ·refine ⟨rfl,?_,rfl,rfl,?_⟩
  ·rfl
  rw [hw0,Int.toNat_natCast,Nat.pow_zero,Nat.mod_one,Nat.zero_mul,OA,← GT]
 intro (i:Nat) hki4
 have hki4:i<=nl a:=hki4
 refine And.symm ⟨λ c11=>?_,λ c11=>?_⟩
 ·try simp only [nrm] at c11
  refine ⟨(AX (nl a+nl b) (a%BB^i*b)),by
   rfl,by
   exact ⟨by rw [A0];omega,LP _ _⟩,?_⟩
  rw [Ss (by omega),J3 (DT _ _)]
 try simp only [nrm] at c11
 refine ao (by omega) λ o12=>?_
 refine ao (by omega) λ o13=>?_
 refine ⟨⟨(0,a%BB^i*b,0),by
  exact ⟨by simp [Nat.mod_one],EZ,.inl (Nat.zero_le _),Nat.zero_le _⟩,?_⟩,?_⟩
 ·refine ⟨rfl,rfl,rfl,rfl,?_,?_,rfl,rfl,rfl⟩
  ·rfl
  rfl
 rintro ⟨k,V,c⟩ hki14
 have hki14:V+c*BB^(i+k)=a%BB^i*b+dgt a i*BB^i*(b%BB^k)/\c<BB/\(k<=nl b∨c=0)/\k<=nl b+1:=hki14
 have hlv:(AN (AX (nl a+nl b) V)).length=nl a+nl b:=by rw [CE,A0]
 refine And.symm ⟨λ c25=>?_,λ c25=>?_⟩
 ·try simp only [nrm] at c25
  have hik:i+k<nl a+nl b:=by omega
  have hw:IntKind.i64.wrap (((i:Nat):Int)+((k:Nat):Int))=((i+k:Nat):Int):=by rw [AC (by omega) (by omega)];omega
  have hm:=OI (CH a i) (CH b k) (CH V (i+k)) hki14.2.1
  have hn:IntKind.i64.wrap (IntKind.i64.wrap (((((AN (AX (nl a+nl b) V)).getD ((IntKind.i64.wrap (((i:Nat):Int)+((k:Nat):Int))).toNat) []).getD 0 (.int 0))).n+(IntKind.i64.wrap (((((L a).getD i []).getD 0 (.int 0))).n*((dgt b k:Nat):Int))))+((c:Nat):Int))=((dgt V (i+k)+dgt a i*dgt b k+c:Nat):Int):=by
   rw [hw,Int.toNat_natCast,Sn hik,L_n,← Int.natCast_mul,Ey (by omega),← Int.natCast_add,Ey (by omega),← Int.natCast_add,Ey (by omega)]
  have hst:=UK hki14.1
  refine ao (a:=0<=(IntKind.i64.wrap (((i:Nat):Int)+((k:Nat):Int)))/\(IntKind.i64.wrap (((i:Nat):Int)+((k:Nat):Int)))<((AN (AX (nl a+nl b) V)).length:Int)) (by omega) λ o56=>?_
  refine ao (a:=(IntKind.i64.wrap (((i:Nat):Int)+((k:Nat):Int))).toNat<(AN (AX (nl a+nl b) V)).length) (by omega) λ o57=>?_
  refine ⟨(b,k),by
   rfl,by
   show nl b<=1048576/\k<=4194304
   exact ⟨by omega,by omega⟩,?_⟩
  refine ao (by omega) λ o61=>?_
  refine ao (a:=0<=(IntKind.i64.wrap (((i:Nat):Int)+((k:Nat):Int)))/\(IntKind.i64.wrap (((i:Nat):Int)+((k:Nat):Int)))<((AN (AX (nl a+nl b) V)).length:Int)) (by omega) λ o62=>?_
  refine ao (a:=(IntKind.i64.wrap (((i:Nat):Int)+((k:Nat):Int))).toNat<(AN (AX (nl a+nl b) V)).length) (by omega) λ o63=>?_
  refine ao (by omega) λ o64=>?_
  refine ⟨(k+1,V-dgt V (i+k)*BB^(i+k)+(dgt V (i+k)+dgt a i*dgt b k+c)%BB*BB^(i+k),(dgt V (i+k)+dgt a i*dgt b k+c)/BB),by
   exact ⟨hst,hm.1,(Nat.eq_zero_or_pos _).elim .inr (λ h=>.inl (OH (by omega) hst h)),by omega⟩,by
   omega,?_⟩
  refine ⟨rfl,rfl,rfl,rfl,?_,?_,rfl,rfl,?_⟩
  ·rw [hn,OE,Ey (Nat.le_trans (Nat.le_of_lt hm.1) (by decide))]
  ·exact AS (AC (by omega) (by omega))
  rw [hn,Qr,hw,Int.toNat_natCast,Qx hik]
 try simp only [nrm] at c25
 refine And.symm ⟨λ c26=>?_,λ c26=>?_⟩
 ·try simp only [nrm] at c26
  have hc0:c=0:=by omega
  have e:=hki14.1
  rw [hc0,Nat.zero_mul,Nat.add_zero,Ss (a:=b) (i:=k) (by omega),Xc] at e
  refine ⟨i+1,by
   omega,by
   omega,?_⟩
  refine ⟨rfl,?_,rfl,rfl,?_⟩
  ·exact AS (AC (by omega) (by omega))
  rw [e]
 try simp only [nrm] at c26
 have hik:i+k<nl a+nl b:=by omega
 have hw:IntKind.i64.wrap (((i:Nat):Int)+((k:Nat):Int))=((i+k:Nat):Int):=by rw [AC (by omega) (by omega)];omega
 have hm:=OI (CH a i) (CH b k) (CH V (i+k)) hki14.2.1
 have hn:IntKind.i64.wrap (IntKind.i64.wrap (((((AN (AX (nl a+nl b) V)).getD ((IntKind.i64.wrap (((i:Nat):Int)+((k:Nat):Int))).toNat) []).getD 0 (.int 0))).n+(IntKind.i64.wrap (((((L a).getD i []).getD 0 (.int 0))).n*((dgt b k:Nat):Int))))+((c:Nat):Int))=((dgt V (i+k)+dgt a i*dgt b k+c:Nat):Int):=by
  rw [hw,Int.toNat_natCast,Sn hik,L_n,← Int.natCast_mul,Ey (by omega),← Int.natCast_add,Ey (by omega),← Int.natCast_add,Ey (by omega)]
 have hst:=UK hki14.1
 refine ao (a:=0<=(IntKind.i64.wrap (((i:Nat):Int)+((k:Nat):Int)))/\(IntKind.i64.wrap (((i:Nat):Int)+((k:Nat):Int)))<((AN (AX (nl a+nl b) V)).length:Int)) (by omega) λ o27=>?_
 refine ao (a:=(IntKind.i64.wrap (((i:Nat):Int)+((k:Nat):Int))).toNat<(AN (AX (nl a+nl b) V)).length) (by omega) λ o28=>?_
 refine ⟨(b,k),by
  rfl,by
  show nl b<=1048576/\k<=4194304
  exact ⟨by omega,by omega⟩,?_⟩
 refine ao (by omega) λ o32=>?_
 refine ao (a:=0<=(IntKind.i64.wrap (((i:Nat):Int)+((k:Nat):Int)))/\(IntKind.i64.wrap (((i:Nat):Int)+((k:Nat):Int)))<((AN (AX (nl a+nl b) V)).length:Int)) (by omega) λ o33=>?_
 refine ao (a:=(IntKind.i64.wrap (((i:Nat):Int)+((k:Nat):Int))).toNat<(AN (AX (nl a+nl b) V)).length) (by omega) λ o34=>?_
 refine ao (by omega) λ o35=>?_
 refine ⟨(k+1,V-dgt V (i+k)*BB^(i+k)+(dgt V (i+k)+dgt a i*dgt b k+c)%BB*BB^(i+k),(dgt V (i+k)+dgt a i*dgt b k+c)/BB),by
  exact ⟨hst,hm.1,(Nat.eq_zero_or_pos _).elim .inr (λ h=>.inl (OH (by omega) hst h)),by omega⟩,by
  omega,?_⟩
 refine ⟨rfl,rfl,rfl,rfl,?_,?_,rfl,rfl,?_⟩
 ·rw [hn,OE,Ey (Nat.le_trans (Nat.le_of_lt hm.1) (by decide))]
 ·exact AS (AC (by omega) (by omega))
 rw [hn,Qr,hw,Int.toNat_natCast,Qx hik]
def BT:Con:={ ι:=Nat×Nat,pre:=λ i=>nl i.1<=1048576/\0<i.2/\i.2<BB,args:=λ i=>[.one (cS (L i.1)),.one (cI ((i.2:Nat):Int))],mono:=true,res:=λ i=>⟨true,[none,none],[.view 3 [.int] (L (i.1/i.2)),rcI ((i.1%i.2:Nat):Int)]⟩ }
theorem Gu:BT.Ok Tryz.prog 158:=by
 refine fok (X:=⟨tt,[(152,Au)],[],38,[]⟩) mixed AQ (CTok.cons Fu (CTok.nil _)) Tryz.func158 (λ (i:Nat×Nat)=>[(4,.mk 3 (Nat) (λ x1=>{ tm:=[(0,tX 1),(1,tI (nI i.2)),(6,tX 2),(7,tI (nI (i.1/BB^x1%i.2))),(8,tI ((nI x1)-1))],en:=[(1,eV (L i.1)),(2,.own 3 [.int] (AN (AX (nl i.1) (hi (i.1/i.2) x1))))] }) (λ x1=>x1<=nl i.1) (λ x1=>x1) (λ _=>[]))]) ?_
 rintro ⟨a,n⟩ hpre
 have hpre:nl a<=1048576/\0<n/\n<BB:=hpre
 refine AP (q:=let Z4:=nI ((L a).length);(0<=Z4)/\((Z4<=Z4)/\((Z4<=1073741824)/\((∃ x1:Nat,(x1<=nl a)/\((rf (vI (nI n)))/\(vI (0:Int)=vI (nI (a/BB^x1%n)))/\(vI (wR (Z4-(1:Int)))=vI ((nI x1)-1))/\(rf (L a))/\((List.replicate ((L a).length) [Dat.int (0:Int)])=(AN (AX (nl a) (hi (a/n) x1))))))/\∀ x1:Nat,let Z5:=nI (a/BB^x1%n);let Z3:=(nI x1)-1;let Z2:=wR ((wR (Z5*(1000000000:Int)))+((((L a).getD (Z3.toNat) []).getD 0 (.int 0))).n);let Z1:=AN (AX (nl a) (hi (a/n) x1));(x1<=nl a)->(ifB ((decide (Z3≥(0:Int)))) ((0<=Z3/\Z3<((L a).length:Int))/\((Z3.toNat<(L a).length)/\(((nI n)≠0)/\((0<=Z3/\Z3<(Z1.length:Int))/\((Z3.toNat<Z1.length)/\(((nI n)≠0)/\(∃ y2:Nat,(y2<=nl a)/\(y2<x1)/\((rf (vI (nI n)))/\(vI (Int.tmod Z2 (nI n))=vI (nI (a/BB^y2%n)))/\(vI (wR (Z3-(1:Int)))=vI ((nI y2)-1))/\(rf (L a))/\((Z1.set (Z3.toNat) ((Z1.getD (Z3.toNat) []).set 0 (Dat.int (wR (Int.tdiv Z2 (nI n))))))=(AN (AX (nl a) (hi (a/n) y2)))))))))))) (∃ i1:(List Nat),[DA.one (cS Z1)]=Au.args i1/\Au.pre i1/\((L (Ap i1)=L (a/n))/\(vI Z5=vI (nI (a%n)))))))))) (by kernel_rfl) ?_
 conv=>zeta
 delta ifB vI wR nI
 have ha:=Aq a
 refine ao (by omega) λ o1=>?_
 refine ao (by omega) λ o2=>?_
 refine ao (by omega) λ o3=>?_
 refine ⟨⟨nl a,by
  omega,?_⟩,?_⟩
 ·refine ⟨rfl,?_,?_,rfl,?_⟩
  ·rw [Xd n (D5 a)];rfl
  ·rw [ha,AC (by omega) (by omega)]
  rw [ha,UV (Nat.div_le_self _ _)]
 intro (j:Nat) hki4
 have hki4:j<=nl a:=hki4
 have hlv:(AN (AX (nl a) (hi (a/n) j))).length=nl a:=by rw [CE,A0]
 refine And.symm ⟨λ c11=>?_,λ c11=>?_⟩
 ·try simp only [nrm] at c11
  refine ⟨(AX (nl a) (hi (a/n) j)),by
   rfl,by
   exact ⟨by rw [A0];omega,LP _ _⟩,?_⟩
  refine ⟨?_,?_⟩
  ·rw [show j=0 by omega];exact Xq (Nat.div_le_self _ _)
  rw [show j=0 by omega,Nat.pow_zero,Nat.div_one]
 try simp only [nrm] at c11
 have hj:((((j:Nat):Int)-1).toNat)=j-1:=by omega
 have hj1:j-1+1=j:=by omega
 have hd:=UL a n (j-1) hpre.2.1
 rw [hj1] at hd
 have hn:IntKind.i64.wrap (IntKind.i64.wrap (((a/BB^j%n:Nat):Int)*(1000000000:Int))+((((L a).getD ((((j:Nat):Int)-1).toNat) []).getD 0 (.int 0))).n)=((a/BB^j%n*BB+dgt a (j-1):Nat):Int):=by rw [hj,L_n,Vd (Nat.lt_trans (Nat.mod_lt _ hpre.2.1) hpre.2.2) (CH _ _)]
 refine ao (by omega) λ o12=>?_
 refine ao (by omega) λ o13=>?_
 refine ao (by omega) λ o14=>?_
 refine ao (by omega) λ o15=>?_
 refine ao (by omega) λ o16=>?_
 refine ao (by omega) λ o17=>?_
 refine ⟨j-1,by
  omega,by
  omega,?_⟩
 refine ⟨rfl,?_,?_,rfl,?_⟩
 ·rw [hn,AAt,hd.2]
 ·rw [He (by omega) (by omega)]
 rw [hn,AAs,hd.1,Ey (by have:=CH (a/n) (j-1);unfold BB at this;omega),hj];exact UW (by omega) (by omega) rfl
def Hg:Con:={ ι:=Nat×Nat,pre:=λ i=>2<=nl i.2/\i.2<=i.1/\i.1<i.2*BB/\nl i.2<=131072,args:=λ i=>[.one (cS (L i.1)),.one (cS (L i.2))],mono:=true,res:=λ i=>⟨false,[none],[rcI ((i.1/i.2:Nat):Int)]⟩ }
theorem Xs:Hg.Ok Tryz.prog 182:=by
 refine fok (X:=⟨tt,[(151,Ai),(114,At),(111,Al),(148,Ak)],[],84,[]⟩) mixed AQ (CTok.cons LR (CTok.cons MO (CTok.cons EH (CTok.cons Hf (CTok.nil _))))) Tryz.func182 (λ (i:Nat×Nat)=>[(7,.mk 3 (Nat×Nat) (λ x1=>{ tm:=[(0,tX 1),(1,tX 2),(5,tI (nI x1.1)),(6,tI (nI x1.2))],en:=[(1,eV (L i.1)),(2,eV (L i.2))] }) (λ x1=>x1.1<=i.1/i.2/\i.1/i.2<=x1.2/\x1.2<=999999999) (λ x1=>x1.2-x1.1) (λ _=>[]))]) ?_
 rintro ⟨a,b⟩ hpre
 have hpre:2<=nl b/\b<=a/\a<b*BB/\nl b<=131072:=hpre
 refine AP (q:=let Z15:=cS (L a);let Z4:=nI ((L b).length);let Z12:=wR (Z4-(2:Int));let Z11:=wR (Z4-(1:Int));let Z3:=floatBits .mul .f64 (FloatKind.nearest .f64 (((((L b).getD (Z11.toNat) []).getD 0 (.int 0))).n)) 4741671816366391296;let Z8:=floatBits .add .f64 (Z3.getD 0) (FloatKind.nearest .f64 (((((L b).getD (Z12.toNat) []).getD 0 (.int 0))).n));ifB ((decide ((nI ((L a).length))<=(wR (Z4+(1:Int)))))) (∃ i1:Nat×Nat,let Z5:=floatBits .mul .f64 (FloatKind.nearest .f64 (nI (dgt i1.1 i1.2))) 4741671816366391296;let Z14:=floatBits .mul .f64 (Z5.getD 0) 4741671816366391296;[DA.one Z15,DA.one (cI Z4)]=Ai.args i1/\Ai.pre i1/\((Z5.isSome=true)/\((Z14.isSome=true)/\(∃ i2:Nat×Nat,let Z9:=floatBits .mul .f64 (FloatKind.nearest .f64 (nI (dgt i2.1 i2.2))) 4741671816366391296;let Z2:=floatBits .add .f64 (Z14.getD 0) (Z9.getD 0);[DA.one Z15,DA.one (cI Z11)]=Ai.args i2/\Ai.pre i2/\((Z9.isSome=true)/\((Z2.isSome=true)/\(∃ i3:Nat×Nat,let Z10:=floatBits .add .f64 (Z2.getD 0) (FloatKind.nearest .f64 (nI (dgt i3.1 i3.2)));let Z1:=floatBits .quo .f64 (Z10.getD 0) (Z8.getD 0);let Z13:=floatToIntVal .f64 (Z1.getD 0) .i64;[DA.one Z15,DA.one (cI Z12)]=Ai.args i3/\Ai.pre i3/\((Z10.isSome=true)/\((0<=Z11/\Z11<((L b).length:Int))/\((Z11.toNat<(L b).length)/\((Z3.isSome=true)/\((0<=Z12/\Z12<((L b).length:Int))/\((Z12.toNat<(L b).length)/\((Z8.isSome=true)/\((Z1.isSome=true)/\((Z13.isSome=true)/\((∃ x1:Nat×Nat,(x1.1<=a/b/\a/b<=x1.2/\x1.2<=999999999)/\((vI (max (0:Int) (wR ((Z13.getD 0)-(2000:Int))))=vI (nI x1.1))/\(vI (min (999999999:Int) (wR ((Z13.getD 0)+(2000:Int))))=vI (nI x1.2))/\(rf (L a))/\(rf (L b))))/\∀ x1:Nat×Nat,let Z6:=wR (Int.tdiv (wR ((wR ((nI x1.1)+(nI x1.2)))+(1:Int))) (2:Int));(x1.1<=a/b/\a/b<=x1.2/\x1.2<=999999999)->(ifB ((decide ((nI x1.1)<(nI x1.2)))) (((2:Int)≠0)/\(∃ i4:Nat,[DA.one (cI Z6)]=At.args i4/\At.pre i4/\(∃ i5:Nat×Nat,[DA.one (cS (L b)),DA.one (cS (L i4))]=Al.args i5/\Al.pre i5/\(∃ i6:Nat×Nat,[DA.one (cS (L (i5.1*i5.2))),DA.one Z15]=Ak.args i6/\Ak.pre i6/\(ifB ((decide ((C6 i6.1 i6.2)<=(0:Int)))) (∃ y2:Nat×Nat,(y2.1<=a/b/\a/b<=y2.2/\y2.2<=999999999)/\(y2.2-y2.1<x1.2-x1.1)/\((vI Z6=vI (nI y2.1))/\(vI (nI x1.2)=vI (nI y2.2))/\(rf (L a))/\(rf (L b)))) (∃ y3:Nat×Nat,(y3.1<=a/b/\a/b<=y3.2/\y3.2<=999999999)/\(y3.2-y3.1<x1.2-x1.1)/\((vI (nI x1.1)=vI (nI y3.1))/\(vI (wR (Z6-(1:Int)))=vI (nI y3.2))/\(rf (L a))/\(rf (L b))))))))) ((vI (nI x1.1)=vI (nI (a/b)))))))))))))))))))))) ((∃ x1:Nat×Nat,(x1.1<=a/b/\a/b<=x1.2/\x1.2<=999999999)/\((vI (0:Int)=vI (nI x1.1))/\(vI (999999999:Int)=vI (nI x1.2))/\(rf (L a))/\(rf (L b))))/\∀ x1:Nat×Nat,let Z7:=wR (Int.tdiv (wR ((wR ((nI x1.1)+(nI x1.2)))+(1:Int))) (2:Int));(x1.1<=a/b/\a/b<=x1.2/\x1.2<=999999999)->(ifB ((decide ((nI x1.1)<(nI x1.2)))) (((2:Int)≠0)/\(∃ i7:Nat,[DA.one (cI Z7)]=At.args i7/\At.pre i7/\(∃ i8:Nat×Nat,[DA.one (cS (L b)),DA.one (cS (L i7))]=Al.args i8/\Al.pre i8/\(∃ i9:Nat×Nat,[DA.one (cS (L (i8.1*i8.2))),DA.one Z15]=Ak.args i9/\Ak.pre i9/\(ifB ((decide ((C6 i9.1 i9.2)<=(0:Int)))) (∃ y5:Nat×Nat,(y5.1<=a/b/\a/b<=y5.2/\y5.2<=999999999)/\(y5.2-y5.1<x1.2-x1.1)/\((vI Z7=vI (nI y5.1))/\(vI (nI x1.2)=vI (nI y5.2))/\(rf (L a))/\(rf (L b)))) (∃ y6:Nat×Nat,(y6.1<=a/b/\a/b<=y6.2/\y6.2<=999999999)/\(y6.2-y6.1<x1.2-x1.1)/\((vI (nI x1.1)=vI (nI y6.1))/\(vI (wR (Z7-(1:Int)))=vI (nI y6.2))/\(rf (L a))/\(rf (L b))))))))) ((vI (nI x1.1)=vI (nI (a/b))))))) (by kernel_rfl) ?_
 conv=>zeta
 delta ifB vI wR nI
 have ha:=Aq a
 have hb:=Aq b
 have hnl:=Q2 hpre.2.2.1
 have hb0:b≠0:=by rintro rfl;rw [Cn] at hpre;omega
 have hq:a/b<BB:=Nat.div_lt_of_lt_mul hpre.2.2.1
 have hq0:0<=((a/b:Nat):Int):=Int.natCast_nonneg _
 unfold BB at hq
 have hv1:IntKind.i64.wrap (((nl b:Nat):Int)-(1:Int))=((nl b-1:Nat):Int):=by rw [AC (by omega) (by omega)];omega
 have hw1:IntKind.i64.wrap ((((L b).length:Nat):Int)-(1:Int))=((nl b-1:Nat):Int):=by rw [hb,hv1]
 have hv2:IntKind.i64.wrap (((nl b:Nat):Int)-(2:Int))=((nl b-2:Nat):Int):=by rw [AC (by omega) (by omega)];omega
 have hw2:IntKind.i64.wrap ((((L b).length:Nat):Int)-(2:Int))=((nl b-2:Nat):Int):=by rw [hb,hv2]
 obtain ⟨m1,m2,c1,s1,t,d1,y,q,G,e1,e2,e3,e4,e5,e6,e7,e8,e9,g1,g2⟩:=ABV hpre.1 hpre.2.1 hpre.2.2.1
 refine And.symm ⟨λ c1=>?_,λ c1=>?_⟩
 ·try simp only [nrm] at c1
  rw [ha,hb,AC (by omega) (by omega)] at c1
  exfalso;omega -- done
 try simp only [nrm] at c1
 refine ⟨(a,nl b),by
  rw [hb];rfl,by
  show nl a<=1048576/\(nl b)<=4194304
  exact ⟨by omega,by omega⟩,?_⟩
 refine ao (a:=(floatBits .mul .f64 (FloatKind.nearest .f64 ((dgt a (nl b):Nat):Int)) 4741671816366391296).isSome=true) (by simp only [hv1,hv2,Int.toNat_natCast,L_n,hb,e1,e2,e3,e4,e5,e6,e7,e8,e9,Option.getD_some,Option.isSome_some]) λ o5=>?_
 refine ao (a:=(floatBits .mul .f64 ((floatBits .mul .f64 (FloatKind.nearest .f64 ((dgt a (nl b):Nat):Int)) 4741671816366391296).getD 0) 4741671816366391296).isSome=true) (by simp only [hv1,hv2,Int.toNat_natCast,L_n,hb,e1,e2,e3,e4,e5,e6,e7,e8,e9,Option.getD_some,Option.isSome_some]) λ o6=>?_
 refine ⟨(a,nl b-1),by
  rw [hw1];rfl,by
  show nl a<=1048576/\(nl b-1)<=4194304
  exact ⟨by omega,by omega⟩,?_⟩
 refine ao (a:=(floatBits .mul .f64 (FloatKind.nearest .f64 ((dgt a (nl b-1):Nat):Int)) 4741671816366391296).isSome=true) (by simp only [hv1,hv2,Int.toNat_natCast,L_n,hb,e1,e2,e3,e4,e5,e6,e7,e8,e9,Option.getD_some,Option.isSome_some]) λ o10=>?_
 refine ao (a:=(floatBits .add .f64 ((floatBits .mul .f64 ((floatBits .mul .f64 (FloatKind.nearest .f64 ((dgt a (nl b):Nat):Int)) 4741671816366391296).getD 0) 4741671816366391296).getD 0) ((floatBits .mul .f64 (FloatKind.nearest .f64 ((dgt a (nl b-1):Nat):Int)) 4741671816366391296).getD 0)).isSome=true) (by simp only [hv1,hv2,Int.toNat_natCast,L_n,hb,e1,e2,e3,e4,e5,e6,e7,e8,e9,Option.getD_some,Option.isSome_some]) λ o11=>?_
 refine ⟨(a,nl b-2),by
  rw [hw2];rfl,by
  show nl a<=1048576/\(nl b-2)<=4194304
  exact ⟨by omega,by omega⟩,?_⟩
 refine ao (a:=(floatBits .add .f64 ((floatBits .add .f64 ((floatBits .mul .f64 ((floatBits .mul .f64 (FloatKind.nearest .f64 ((dgt a (nl b):Nat):Int)) 4741671816366391296).getD 0) 4741671816366391296).getD 0) ((floatBits .mul .f64 (FloatKind.nearest .f64 ((dgt a (nl b-1):Nat):Int)) 4741671816366391296).getD 0)).getD 0) (FloatKind.nearest .f64 ((dgt a (nl b-2):Nat):Int))).isSome=true) (by simp only [hv1,hv2,Int.toNat_natCast,L_n,hb,e1,e2,e3,e4,e5,e6,e7,e8,e9,Option.getD_some,Option.isSome_some]) λ o15=>?_
 refine ao (by omega) λ o16=>?_
 refine ao (by omega) λ o17=>?_
 refine ao (by simp only [hv1,hv2,Int.toNat_natCast,L_n,hb,e1,e2,e3,e4,e5,e6,e7,e8,e9,Option.getD_some,Option.isSome_some]) λ o18=>?_
 refine ao (by omega) λ o19=>?_
 refine ao (by omega) λ o20=>?_
 refine ao (by simp only [hv1,hv2,Int.toNat_natCast,L_n,hb,e1,e2,e3,e4,e5,e6,e7,e8,e9,Option.getD_some,Option.isSome_some]) λ o21=>?_
 refine ao (a:=(floatBits .quo .f64 ((floatBits .add .f64 ((floatBits .add .f64 ((floatBits .mul .f64 ((floatBits .mul .f64 (FloatKind.nearest .f64 ((dgt a (nl b):Nat):Int)) 4741671816366391296).getD 0) 4741671816366391296).getD 0) ((floatBits .mul .f64 (FloatKind.nearest .f64 ((dgt a (nl b-1):Nat):Int)) 4741671816366391296).getD 0)).getD 0) (FloatKind.nearest .f64 ((dgt a (nl b-2):Nat):Int))).getD 0) ((floatBits .add .f64 ((floatBits .mul .f64 (FloatKind.nearest .f64 (((((L b).getD ((IntKind.i64.wrap ((((L b).length:Nat):Int)-(1:Int))).toNat) []).getD 0 (.int 0))).n)) 4741671816366391296).getD 0) (FloatKind.nearest .f64 (((((L b).getD ((IntKind.i64.wrap ((((L b).length:Nat):Int)-(2:Int))).toNat) []).getD 0 (.int 0))).n))).getD 0)).isSome=true) (by simp only [hv1,hv2,Int.toNat_natCast,L_n,hb,e1,e2,e3,e4,e5,e6,e7,e8,e9,Option.getD_some,Option.isSome_some]) λ o22=>?_
 refine ao (a:=(floatToIntVal .f64 ((floatBits .quo .f64 ((floatBits .add .f64 ((floatBits .add .f64 ((floatBits .mul .f64 ((floatBits .mul .f64 (FloatKind.nearest .f64 ((dgt a (nl b):Nat):Int)) 4741671816366391296).getD 0) 4741671816366391296).getD 0) ((floatBits .mul .f64 (FloatKind.nearest .f64 ((dgt a (nl b-1):Nat):Int)) 4741671816366391296).getD 0)).getD 0) (FloatKind.nearest .f64 ((dgt a (nl b-2):Nat):Int))).getD 0) ((floatBits .add .f64 ((floatBits .mul .f64 (FloatKind.nearest .f64 (((((L b).getD ((IntKind.i64.wrap ((((L b).length:Nat):Int)-(1:Int))).toNat) []).getD 0 (.int 0))).n)) 4741671816366391296).getD 0) (FloatKind.nearest .f64 (((((L b).getD ((IntKind.i64.wrap ((((L b).length:Nat):Int)-(2:Int))).toNat) []).getD 0 (.int 0))).n))).getD 0)).getD 0) .i64).isSome=true) (by simp only [hv1,hv2,Int.toNat_natCast,L_n,hb,e1,e2,e3,e4,e5,e6,e7,e8,e9,Option.getD_some,Option.isSome_some]) λ o23=>?_
 refine ⟨⟨(G-2000,min 999999999 (G+2000)),by
  omega,?_⟩,?_⟩
 ·refine ⟨?_,?_,rfl,rfl⟩
  ·simp only [hv1,hv2,Int.toNat_natCast,L_n,hb,e1,e2,e3,e4,e5,e6,e7,e8,e9,Option.getD_some,Option.isSome_some];exact AS (by rw [AC (by omega) (by omega)];omega)
  simp only [hv1,hv2,Int.toNat_natCast,L_n,hb,e1,e2,e3,e4,e5,e6,e7,e8,e9,Option.getD_some,Option.isSome_some];exact AS (by rw [AC (by omega) (by omega)];omega)
 rintro ⟨lo,hi⟩ hki24
 have hki24:lo<=a/b/\a/b<=hi/\hi<=999999999:=hki24
 have hm:=Xr (lo:=lo) (hi:=hi) (by omega) (by omega)
 refine And.symm ⟨λ c30=>?_,λ c30=>?_⟩
 ·try simp only [nrm] at c30
  rw [show lo=a/b by omega]
 try simp only [nrm] at c30
 refine ao (by omega) λ o31=>?_
 refine ⟨((lo+hi+1)/2),by
  rw [hm];rfl,by
  show ((lo+hi+1)/2)<=9223372036854775807
  omega,?_⟩
 refine ⟨(b,((lo+hi+1)/2)),by
  rfl,by
  show nl b<=524288/\nl ((lo+hi+1)/2)<=524288
  have:=MT (n:=(lo+hi+1)/2) (by unfold BB;omega)
  exact ⟨by omega,by omega⟩,?_⟩
 refine ⟨((b*((lo+hi+1)/2)),a),by
  rfl,by
  show nl (b*((lo+hi+1)/2))<=1048576/\nl a<=1048576
  have:=MT (n:=(lo+hi+1)/2) (by unfold BB;omega)
  have:=DT b ((lo+hi+1)/2)
  exact ⟨by omega,by omega⟩,?_⟩
 refine ⟨λ c41=>?_,λ c41=>?_⟩
 ·try simp only [nrm] at c41
  refine ⟨((lo+hi+1)/2,hi),by
   exact ⟨J4 hb0 (Qw.1 c41),by omega,by omega⟩,by
   omega,?_⟩
  refine ⟨?_,rfl,rfl,rfl⟩
  rw [hm]
 try simp only [nrm] at c41
 refine ⟨(lo,(lo+hi+1)/2-1),by
  have h2:a/b<(lo+hi+1)/2:=div_lt_of_lt_mul (Nat.lt_of_not_le (λ h=>by have:=Qw.2 h;omega))
  exact ⟨by omega,by omega,by omega⟩,by
  omega,?_⟩
 refine ⟨rfl,?_,rfl,rfl⟩
 rw [hm];exact AS (by rw [AC (by omega) (by omega)];omega)
def B6:Con:={ ι:=Nat×Nat,pre:=λ i=>i.2≠0/\nl i.1<=131072/\nl i.2<=131072,args:=λ i=>[.one (cS (L i.1)),.one (cS (L i.2))],mono:=true,res:=λ i=>⟨true,[none,none],[.view 3 [.int] (L (i.1/i.2)),.view 3 [.int] (L (i.1%i.2))]⟩ }
theorem OM:B6.Ok Tryz.prog 149:=by
 refine fok (X:=⟨tt,[(148,Ak),(158,BT),(114,At),(152,Au),(182,Hg),(111,Al),(153,Br)],[],71,[]⟩) mixed AQ (CTok.cons Hf (CTok.cons Gu (CTok.cons MO (CTok.cons Fu (CTok.cons Xs (CTok.cons EH (CTok.cons OL (CTok.nil _)))))))) Tryz.func149 (λ (i:Nat×Nat)=>[(9,.mk 5 (Nat) (λ x1=>{ tm:=[(0,tX 1),(1,tX 2),(8,tX 3),(9,tX 4),(10,tI ((nI x1)-1))],en:=[(1,eV (L i.1)),(2,eV (L i.2)),(3,.own 3 [.int] (AN (AX (nl i.1) (hi (i.1/i.2) x1)))),(4,eV (L (i.1/BB^x1%i.2)))] }) (λ x1=>x1<=nl i.1) (λ x1=>x1) (λ _=>[]))]) ?_
 rintro ⟨a,b⟩ hpre
 have hpre:b≠0/\nl a<=131072/\nl b<=131072:=hpre
 refine AP (q:=let Z4:=nI ((L a).length);∃ i1:Nat×Nat,[DA.one (cS (L a)),DA.one (cS (L b))]=Ak.args i1/\Ak.pre i1/\(ifB ((decide ((C6 i1.1 i1.2)<(0:Int)))) ((([]:List (List Dat))=L (a/b))/\((L a)=L (a%b))) (ifB (((nI ((L b).length)) == (1:Int))) ((0<=(0:Int)/\(0:Int)<((L b).length:Int))/\((0<(L b).length)/\(∃ i2:Nat×Nat,[DA.one (cS (L a)),DA.one (cI (((((L b).getD 0 []).getD 0 (.int 0))).n))]=BT.args i2/\BT.pre i2/\(∃ i3:Nat,[DA.one (cI (nI (i2.1%i2.2)))]=At.args i3/\At.pre i3/\((L (i2.1/i2.2)=L (a/b))/\(L i3=L (a%b))))))) ((0<=Z4)/\((Z4<=Z4)/\((Z4<=1073741824)/\((∃ x1:Nat,(x1<=nl a)/\((vI (wR (Z4-(1:Int)))=vI ((nI x1)-1))/\(rf (L a))/\(rf (L b))/\((List.replicate ((L a).length) [Dat.int (0:Int)])=(AN (AX (nl a) (hi (a/b) x1))))/\(([]:List (List Dat))=(L (a/BB^x1%b)))))/\∀ x1:Nat,let Z6:=L (a/BB^x1%b);let Z3:=(nI x1)-1;let Z5:=((((L a).getD (Z3.toNat) []).getD 0 (.int 0))).n;let Z2:=AN (AX (nl a) (hi (a/b) x1));(x1<=nl a)->(ifB ((decide (Z3≥(0:Int)))) ((0<=Z3/\Z3<((L a).length:Int))/\((Z3.toNat<(L a).length)/\((([[Dat.int Z5]]:List (List Dat)).length+Z6.length<=2199023255552)/\(∃ i4:(List Nat),let Z7:=cS (L (Ap i4));[DA.one (cS (([[Dat.int Z5]]:List (List Dat))++Z6))]=Au.args i4/\Au.pre i4/\(∃ i5:Nat×Nat,[DA.one Z7,DA.one (cS (L b))]=Ak.args i5/\Ak.pre i5/\(ifB ((decide ((C6 i5.1 i5.2)≥(0:Int)))) (∃ i6:Nat×Nat,let Z1:=Z2.set (Z3.toNat) ((Z2.getD (Z3.toNat) []).set 0 (Dat.int (nI (i6.1/i6.2))));[DA.one Z7,DA.one (cS (L b))]=Hg.args i6/\Hg.pre i6/\((0<=Z3/\Z3<(Z2.length:Int))/\((Z3.toNat<Z2.length)/\((0<=Z3/\Z3<(Z1.length:Int))/\((Z3.toNat<Z1.length)/\(∃ i7:Nat,[DA.one (cI ((((Z1.getD (Z3.toNat) []).getD 0 (.int 0))).n))]=At.args i7/\At.pre i7/\(∃ i8:Nat×Nat,[DA.one (cS (L b)),DA.one (cS (L i7))]=Al.args i8/\Al.pre i8/\(∃ i9:Nat×Nat,[DA.one Z7,DA.one (cS (L (i8.1*i8.2)))]=Br.args i9/\Br.pre i9/\(∃ y2:Nat,(y2<=nl a)/\(y2<x1)/\((vI (wR (Z3-(1:Int)))=vI ((nI y2)-1))/\(rf (L a))/\(rf (L b))/\(Z1=(AN (AX (nl a) (hi (a/b) y2))))/\(L (i9.1-i9.2)=(L (a/BB^y2%b))))))))))))) (∃ y3:Nat,(y3<=nl a)/\(y3<x1)/\((vI (wR (Z3-(1:Int)))=vI ((nI y3)-1))/\(rf (L a))/\(rf (L b))/\(Z2=(AN (AX (nl a) (hi (a/b) y3))))/\(L (Ap i4)=(L (a/BB^y3%b))))))))))) (∃ i10:(List Nat),[DA.one (cS Z2)]=Au.args i10/\Au.pre i10/\((L (Ap i10)=L (a/b))/\(Z6=L (a%b)))))))))))) (by kernel_rfl) ?_
 conv=>zeta
 delta ifB vI wR nI
 have ha:=Aq a
 have hb:=Aq b
 refine ⟨(a,b),by
  rfl,by
  show nl a<=1048576/\nl b<=1048576
  exact ⟨by omega,by omega⟩,?_⟩
 refine ⟨λ c4=>?_,λ c4=>?_⟩
 ·try simp only [nrm] at c4
  refine ⟨?_,?_⟩
  ·rw [Nat.div_eq_of_lt (FV.1 c4),Gq]
  rw [Nat.mod_eq_of_lt (FV.1 c4)]
 try simp only [nrm] at c4
 refine ⟨λ c7=>?_,λ c7=>?_⟩
 ·try simp only [nrm] at c7
  have h1:=MS (b:=b) (by omega)
  refine ao (by omega) λ o8=>?_
  refine ao (by omega) λ o9=>?_
  refine ⟨(a,b),by
   rw [L_n,h1.1];rfl,by
   show nl a<=1048576/\0<b/\b<BB
   exact ⟨by omega,by omega,h1.2.1⟩,?_⟩
  refine ⟨(a%b),by
   rfl,by
   show (a%b)<=9223372036854775807
   have:=Nat.mod_lt a (Nat.pos_of_ne_zero hpre.1)
   have:=h1.2.1
   unfold BB at this
   omega,?_⟩
  exact ⟨rfl,rfl⟩
 try simp only [nrm] at c7
 have h2:2<=nl b:=by have:=IP hpre.1;omega
 have hba:b<=a:=Gs.1 (by omega)
 refine ao (by omega) λ o18=>?_
 refine ao (by omega) λ o19=>?_
 refine ao (by omega) λ o20=>?_
 refine ⟨⟨nl a,by
  omega,?_⟩,?_⟩
 ·refine ⟨?_,rfl,rfl,?_,?_⟩
  ·rw [ha,AC (by omega) (by omega)]
  ·rw [ha,UV (Nat.div_le_self _ _)]
  rw [Xd b (D5 a),Gq]
 intro (j:Nat) hki21
 have hki21:j<=nl a:=hki21
 have hlv:(AN (AX (nl a) (hi (a/b) j))).length=nl a:=by rw [CE,A0]
 have hrl:=Aq (a/BB^j%b)
 have hrn:=OJ (a:=a/BB^j) hpre.1
 refine And.symm ⟨λ c28=>?_,λ c28=>?_⟩
 ·try simp only [nrm] at c28
  refine ⟨(AX (nl a) (hi (a/b) j)),by
   rfl,by
   exact ⟨by rw [A0];omega,LP _ _⟩,?_⟩
  refine ⟨?_,?_⟩
  ·rw [show j=0 by omega];exact Xq (Nat.div_le_self _ _)
  rw [show j=0 by omega,Nat.pow_zero,Nat.div_one]
 try simp only [nrm] at c28
 have hj:((((j:Nat):Int)-1).toNat)=j-1:=by omega
 have hj1:j-1+1=j:=by omega
 have hs:=Q0 (a:=a) (j:=j-1) hpre.1
 have hq:=Q1 (a:=a) (j:=j-1) hpre.1
 rw [hj1] at hs hq
 have hRn:=Q2 hs
 have hRb:(dgt a (j-1)+BB*(a/BB^j%b))/b<BB:=Nat.div_lt_of_lt_mul hs
 have hRl:=MT hRb
 refine ao (by omega) λ o29=>?_
 refine ao (by omega) λ o30=>?_
 refine ao (by simp only [List.length_cons,List.length_nil];omega) λ o31=>?_
 refine ⟨(dgt a (j-1)::dig (a/BB^j%b)),by
  rw [hj,L_n];rfl,by
  exact ⟨by show (dig _).length+1<=_;show nl _+1<=_;omega,Qy (CH _ _)⟩,?_⟩
 refine ⟨(dgt a (j-1)+BB*(a/BB^j%b),b),by
  rw [Fq];rfl,by
  show nl (dgt a (j-1)+BB*(a/BB^j%b))<=1048576/\nl b<=1048576
  exact ⟨by omega,by omega⟩,?_⟩
 refine And.symm ⟨λ c38=>?_,λ c38=>?_⟩
 ·try simp only [nrm] at c38
  have hlt:dgt a (j-1)+BB*(a/BB^j%b)<b:=FV.1 (by omega)
  have hk:=Zl (q:=a/b) (i:=j-1) (by rw [← hq.1,Nat.div_eq_of_lt hlt])
  rw [hj1] at hk
  refine ⟨j-1,by
   omega,by
   omega,?_⟩
  refine ⟨?_,rfl,rfl,?_,?_⟩
  ·rw [He (by omega) (by omega)]
  ·rw [hk]
  rw [Fq,← hq.2,Nat.mod_eq_of_lt hlt]
 try simp only [nrm] at c38
 have hset:(AN (AX (nl a) (hi (a/b) j))).set ((((j:Nat):Int)-1).toNat) (((AN (AX (nl a) (hi (a/b) j))).getD ((((j:Nat):Int)-1).toNat) []).set 0 (Dat.int (((dgt a (j-1)+BB*(a/BB^j%b))/b:Nat):Int)))=AN (AX (nl a) (hi (a/b) (j-1))):=by rw [hj];exact UW (by omega) (by omega) hq.1
 refine ⟨(dgt a (j-1)+BB*(a/BB^j%b),b),by
  rw [Fq];rfl,by
  show 2<=nl b/\b<=(dgt a (j-1)+BB*(a/BB^j%b))/\(dgt a (j-1)+BB*(a/BB^j%b))<b*BB/\nl b<=131072
  exact ⟨h2,Gs.1 c38,hs,by omega⟩,?_⟩
 refine ao (by omega) λ o42=>?_
 refine ao (by omega) λ o43=>?_
 refine ao (a:=0<=(((j:Nat):Int)-1)/\(((j:Nat):Int)-1)<(((AN (AX (nl a) (hi (a/b) j))).set ((((j:Nat):Int)-1).toNat) (((AN (AX (nl a) (hi (a/b) j))).getD ((((j:Nat):Int)-1).toNat) []).set 0 (Dat.int (((dgt a (j-1)+BB*(a/BB^j%b))/b:Nat):Int)))).length:Int)) (by rw [List.length_set,hlv];omega) λ o44=>?_
 refine ao (a:=(((j:Nat):Int)-1).toNat<((AN (AX (nl a) (hi (a/b) j))).set ((((j:Nat):Int)-1).toNat) (((AN (AX (nl a) (hi (a/b) j))).getD ((((j:Nat):Int)-1).toNat) []).set 0 (Dat.int (((dgt a (j-1)+BB*(a/BB^j%b))/b:Nat):Int)))).length) (by omega) λ o45=>?_
 refine ⟨((dgt a (j-1)+BB*(a/BB^j%b))/b),by
  rw [hset,hj,Sn (by omega),Zk,← hq.1];rfl,by
  exact Nat.le_trans (Nat.le_of_lt hRb) (by decide),?_⟩
 refine ⟨(b,((dgt a (j-1)+BB*(a/BB^j%b))/b)),by
  rfl,by
  show nl b<=524288/\nl ((dgt a (j-1)+BB*(a/BB^j%b))/b)<=524288
  exact ⟨by omega,by omega⟩,?_⟩
 refine ⟨(dgt a (j-1)+BB*(a/BB^j%b),b*((dgt a (j-1)+BB*(a/BB^j%b))/b)),by
  rw [Fq];rfl,by
  try dsimp only [Br]
  have:=DT b ((dgt a (j-1)+BB*(a/BB^j%b))/b)
  exact ⟨by omega,by omega,Nat.mul_div_le _ _⟩,?_⟩
 refine ⟨j-1,by
  omega,by
  omega,?_⟩
 refine ⟨?_,rfl,rfl,?_,?_⟩
 ·rw [He (by omega) (by omega)]
 ·exact hset
 rw [Qz,hq.2]
def Cu:Con:={ ι:=Nat×Nat,pre:=λ i=>nl i.1<=131072/\nl i.2<=131072,args:=λ i=>[.one (cS (L i.1)),.one (cS (L i.2))],mono:=true,res:=λ i=>⟨false,[none],[.view 3 [.int] (L (i.1.gcd i.2))]⟩ }
theorem ON:Cu.Ok Tryz.prog 123:=by
 refine fok (X:=⟨tt,[(149,B6),(158,BT)],[],44,[]⟩) mixed AQ (CTok.cons OM (CTok.cons Gu (CTok.nil _))) Tryz.func123 (λ (i:Nat×Nat)=>[(8,.mk 1 (Nat×Nat) (λ x3=>{ tm:=[(9,tI (nI x3.1)),(8,tI (nI x3.2))],en:=[] }) (λ x3=>x3.1.gcd x3.2=i.1.gcd i.2/\x3.1<BB/\0<x3.1/\x3.2<BB) (λ x3=>x3.2) (λ _=>[])),(1,.mk 3 (Nat×Nat) (λ x1=>{ tm:=[(0,tX 1),(1,tX 2)],en:=[(1,eV (L x1.1)),(2,eV (L x1.2))] }) (λ x1=>x1.1.gcd x1.2=i.1.gcd i.2/\nl x1.1<=131072/\nl x1.2<=131072) (λ x1=>x1.2) (λ _=>[]))]) ?_
 rintro ⟨a,b⟩ hpre
 have hpre:nl a<=131072/\nl b<=131072:=hpre
 refine AP (q:=(∃ x1:Nat×Nat,(x1.1.gcd x1.2=a.gcd b/\nl x1.1<=131072/\nl x1.2<=131072)/\(((L a)=(L x1.1))/\((L b)=(L x1.2))))/\∀ x1:Nat×Nat,let Z1:=(((L x1.2).getD 0 []).getD 0 (.int 0));(x1.1.gcd x1.2=a.gcd b/\nl x1.1<=131072/\nl x1.2<=131072)->(ifB ((decide ((nI ((L x1.2).length))>(1:Int)))) (∃ i1:Nat×Nat,[DA.one (cS (L x1.1)),DA.one (cS (L x1.2))]=B6.args i1/\B6.pre i1/\(∃ y2:Nat×Nat,(y2.1.gcd y2.2=a.gcd b/\nl y2.1<=131072/\nl y2.2<=131072)/\(y2.2<x1.2)/\(((L x1.2)=(L y2.1))/\(L (i1.1%i1.2)=(L y2.2))))) (ifB (((nI ((L x1.2).length)) == (0:Int))) (((L x1.1)=L (a.gcd b))) ((0<=(0:Int)/\(0:Int)<((L x1.2).length:Int))/\((0<(L x1.2).length)/\(∃ i2:Nat×Nat,[DA.one (cS (L x1.1)),DA.one (cI (Z1.n))]=BT.args i2/\BT.pre i2/\((0<=(0:Int)/\(0:Int)<((L x1.2).length:Int))/\((0<(L x1.2).length)/\((∃ x3:Nat×Nat,(x3.1.gcd x3.2=a.gcd b/\x3.1<BB/\0<x3.1/\x3.2<BB)/\((vI Z1.n=vI (nI x3.1))/\(vI (nI (i2.1%i2.2))=vI (nI x3.2))))/\∀ x3:Nat×Nat,(x3.1.gcd x3.2=a.gcd b/\x3.1<BB/\0<x3.1/\x3.2<BB)->(ifB ((decide ((nI x3.2)>(0:Int)))) (((nI x3.2)≠0)/\(∃ y4:Nat×Nat,(y4.1.gcd y4.2=a.gcd b/\y4.1<BB/\0<y4.1/\y4.2<BB)/\(y4.2<x3.2)/\((vI (nI x3.2)=vI (nI y4.1))/\(vI (Int.tmod (nI x3.1) (nI x3.2))=vI (nI y4.2))))) ((([[Dat.int (nI x3.1)]]:List (List Dat))=L (a.gcd b))))))))))))) (by kernel_rfl) ?_
 conv=>zeta
 delta ifB vI nI
 refine ⟨⟨(a,b),by
  exact ⟨rfl,hpre.1,hpre.2⟩,?_⟩,?_⟩
 ·exact ⟨rfl,rfl⟩
 rintro ⟨x,y⟩ hki1
 have hki1:x.gcd y=a.gcd b/\nl x<=131072/\nl y<=131072:=hki1
 have hy:=Aq y
 have hy0:y≠0↔0<nl y:=⟨IP,λ h e=>by rw [e,Cn] at h;omega⟩
 refine ⟨λ c5=>?_,λ c5=>?_⟩
 ·try simp only [nrm] at c5
  have hyy:y≠0:=hy0.2 (by omega)
  refine ⟨(x,y),by
   rfl,by
   exact ⟨hyy,hki1.2.1,hki1.2.2⟩,?_⟩
  refine ⟨(y,x%y),by
   exact ⟨(MU x y).trans hki1.1,hki1.2.2,Nat.le_trans (OJ hyy) hki1.2.2⟩,by
   exact Nat.mod_lt _ (Nat.pos_of_ne_zero hyy),?_⟩
  exact ⟨rfl,rfl⟩
 try simp only [nrm] at c5
 refine ⟨λ c14=>?_,λ c14=>?_⟩
 ·try simp only [nrm] at c14
  show (L x)=L (a.gcd b)
  have h0:y=0:=DS.1 (by omega)
  subst h0
  rw [← hki1.1,Nat.gcd_zero_right]
 try simp only [nrm] at c14
 have h1:=MS (b:=y) (by omega)
 refine ao (a:=0<=(0:Int)/\(0:Int)<((L y).length:Int)) (by omega) λ o16=>?_
 refine ao (a:=0<(L y).length) (by omega) λ o17=>?_
 refine ⟨(x,y),by
  rw [L_n,h1.1];rfl,by
  exact ⟨by omega,h1.2.2,h1.2.1⟩,?_⟩
 refine ao (a:=0<=(0:Int)/\(0:Int)<((L y).length:Int)) (by omega) λ o21=>?_
 refine ao (a:=0<(L y).length) (by omega) λ o22=>?_
 refine ⟨⟨(y,x%y),by
  exact ⟨(MU x y).trans hki1.1,h1.2.1,h1.2.2,Nat.lt_trans (Nat.mod_lt _ h1.2.2) h1.2.1⟩,?_⟩,?_⟩
 ·refine ⟨?_,?_⟩
  ·rw [L_n,h1.1]
  rfl
 rintro ⟨n,r⟩ hki23
 have hki23:n.gcd r=a.gcd b/\n<BB/\0<n/\r<BB:=hki23
 refine And.symm ⟨λ c27=>?_,λ c27=>?_⟩
 ·try simp only [nrm] at c27
  show ([[Dat.int ((n:Nat):Int)]]:List (List Dat))=L (a.gcd b)
  have hr0:r=0:=by omega
  subst hr0
  rw [← hki23.1,Nat.gcd_zero_right]
  exact AAz hki23.2.2.1 hki23.2.1
 try simp only [nrm] at c27
 refine ao (a:=((r:Nat):Int)≠0) (by omega) λ o28=>?_
 refine ⟨(r,n%r),by
  have hr0:0<r:=by omega
  exact ⟨(MU n r).trans hki23.1,hki23.2.2.2,hr0,Nat.lt_trans (Nat.mod_lt _ hr0) hki23.2.2.2⟩,by
  exact Nat.mod_lt _ (by omega),?_⟩
 refine ⟨rfl,?_⟩
 rfl
end Go.Proofs.YtkffpiaagjcmpaaGreat
