import Derived.Test.YthoidhehmmcgnaaGreatWtRkN
import Derived.Test.YthoidhehmmcgnaaGreatWtNum2
namespace Go.Proofs.YthoidhehmmcgnaaGreat
set_option maxRecDepth 100000
set_option linter.unusedVariables false
set_option linter.unusedSimpArgs false
open Go.RowKit
theorem KN{r d:Nat}(hr:r<BB)(hd:d<BB):IntKind.i64.wrap (IntKind.i64.wrap (((r:Nat):Int)*(1000000000:Int))+((d:Nat):Int))=((r*BB+d:Nat):Int):=by unfold BB at *;rw[AB (x:=(r:Int)*1000000000) (by omega) (by omega),AB (by omega) (by omega)];omega
theorem Li{N q j x:Nat}(hj:0<j)(hN:j-1<N)(hx:x=dgt q (j-1)):(AF (AS N (hi q j))).set (j-1) (((AF (AS N (hi q j))).getD (j-1) []).set 0 (Dat.int ((x:Nat):Int)))=AF (AS N (hi q (j-1))):=by obtain⟨m,rfl⟩:∃m,j=m+1:=⟨j-1,by omega⟩;exact AA0 hN hx
theorem RD{lo hi:Nat}(h1:lo<=999999999)(h2:hi<=999999999):IntKind.i64.wrap (Int.tdiv (IntKind.i64.wrap (IntKind.i64.wrap (((lo:Nat):Int)+((hi:Nat):Int))+(1:Int))) (2:Int))=(((lo+hi+1)/2:Nat):Int):=by rw[AB (x:=(lo:Int)+hi) (by omega) (by omega),AB (x:=(lo:Int)+hi+1) (by omega) (by omega),show(lo:Int)+hi+1=((lo+hi+1:Nat):Int) by omega,show(2:Int)=((2:Nat):Int)from rfl,Xj,Bk (by omega)]
theorem Cz{j:Nat}(h:j<=2147483648)(h0:0<j):IntKind.i64.wrap (((j:Nat):Int)-1-(1:Int))=(((j-1:Nat):Int)-1):=by rw[AB (by omega) (by omega)];omega
theorem F7{n:Nat}(h:n<BB):nl n<=1:=(Di _ _).2 (by rw[Nat.pow_one];exact h)
theorem JZ{a b:Nat}(h:a<b*BB):nl a<=nl b+1:=(Di _ _).2 (Nat.lt_of_lt_of_le h (by rw[Nat.pow_succ];exact Nat.mul_le_mul_right _ (Nat.le_of_lt (C3 b))))
theorem F8(x y:Nat):y.gcd (x%y)=x.gcd y:=by rw[Nat.gcd_comm,← Nat.gcd_rec,Nat.gcd_comm]
def Ap:Con:={ι:=Nat×Nat,pre:=λi=>nl i.1<=1048576/\nl i.2<=1048576,args:=λi=>[.one (cS (L i.1)),.one (cS (L i.2))],mono:=true,res:=λi=>⟨false,[none],[rcI (Br i.1 i.2)]⟩}
theorem IK:Ap.Ok Tryz.prog 151:=by
 refine fok (X:=⟨tt,[(176,Dz)],[],41,[]⟩) mixed AG (CTok.cons Vu (CTok.nil _)) Tryz.func151 (λ(i:Nat×Nat)=>[(4,.mk 3 (Nat) (λx1=>{tm:=[(0,tX 1),(1,tX 2),(5,tI ((nI x1)-1))],en:=[(1,eV (L i.1)),(2,eV (L i.2))]}) (λx1=>x1<=nl i.1/\nl i.1=nl i.2/\i.1/BB^x1=i.2/BB^x1) (λx1=>x1) (λ_=>[]))]) ?_;rintro⟨a,b⟩ a1;have a1:nl a<=1048576/\nl b<=1048576:=a1;refine AH (q:=let Z4:=nI ((L a).length);ifB ((Z4 != (nI ((L b).length)))) (∃i1:Int×Int,[DA.one (cI Z4),DA.one (cI (nI ((L b).length)))]=Dz.args i1/\Dz.pre i1/\((vI (DG i1.1 i1.2)=vI (Br a b)))) ((∃x1:Nat,(x1<=nl a/\nl a=nl b/\a/BB^x1=b/BB^x1)/\((vI (wR (Z4-(1:Int)))=vI ((nI x1)-1))/\(rf (L a))/\(rf (L b))))/\∀x1:Nat,let Z1:=(nI x1)-1;let Z6:=Z1.toNat<(L b).length;let Z5:=Z1.toNat<(L a).length;let Z3:=(((L b).getD (Z1.toNat) []).getD 0 (.int 0));let Z2:=(((L a).getD (Z1.toNat) []).getD 0 (.int 0));(x1<=nl a/\nl a=nl b/\a/BB^x1=b/BB^x1)->(ifB ((decide (Z1>=(0:Int)))) ((0<=Z1/\Z1<((L a).length:Int))/\(Z5/\((0<=Z1/\Z1<((L b).length:Int))/\(Z6/\(ifB ((Z2.n != Z3.n)) ((0<=Z1/\Z1<((L a).length:Int))/\(Z5/\((0<=Z1/\Z1<((L b).length:Int))/\(Z6/\(∃i2:Int×Int,[DA.one (cI (Z2.n)),DA.one (cI (Z3.n))]=Dz.args i2/\Dz.pre i2/\((vI (DG i2.1 i2.2)=vI (Br a b)))))))) (∃y2:Nat,(y2<=nl a/\nl a=nl b/\a/BB^y2=b/BB^y2)/\(y2<x1)/\((vI (wR (Z1-(1:Int)))=vI ((nI y2)-1))/\(rf (L a))/\(rf (L b))))))))) ((vI (0:Int)=vI (Br a b)))))) (by kernel_rfl) ?_;conv=>zeta
 delta ifB vI wR nI;have ha:=AJ a;have hb:=AJ b;refine⟨λc1=>?_,λc1=>?_⟩;simp only[nrm]at c1
 refine⟨((((L a).length:Nat):Int),(((L b).length:Nat):Int)),by
  rfl,by
  trivial,?_⟩
 rw[ha,hb,ZG (by omega)];simp only[nrm]at c1;refine⟨⟨nl a,by exact⟨Nat.le_refl _,by omega,by rw[Nat.div_eq_of_lt (C3 a),show nl a=nl b by omega,Nat.div_eq_of_lt (C3 b)]⟩,?_⟩,?_⟩;refine⟨?_,rfl,rfl⟩;rw[ha,AB (by omega) (by omega)];intro (j:Nat) a0;have a0:j<=nl a/\nl a=nl b/\a/BB^j=b/BB^j:=a0;have hj:0<j->((((j:Nat):Int)-1).toNat)=j-1:=λh=>by omega
 refine And.symm ⟨λa3=>?_,λa3=>?_⟩;simp only[nrm]at a3;have hj0:j=0:=by omega
 subst hj0;have e:=a0.2.2;rw[Nat.pow_zero,Nat.div_one,Nat.div_one]at e;rw[e,UV];simp only[nrm]at a3;refine ao (by omega) λo12=>?_;refine ao (by omega) λo13=>?_;refine ao (by omega) λo14=>?_;refine ao (by omega) λo15=>?_;refine And.symm ⟨λa2=>?_,λa2=>?_⟩;simp only[nrm]at a2;rw[hj (by omega),L_n,L_n]at a2
 refine⟨j-1,by
  exact⟨by omega,a0.2.1,UP (k:=j-1) (by rw[Nat.sub_add_cancel (by omega)];exact a0.2.2) (by omega)⟩,by
  omega,?_⟩
 refine⟨?_,rfl,rfl⟩;rw[Cz (by omega) (by omega)];simp only[nrm]at a2;rw[hj (by omega),L_n,L_n]at a2;refine ao (by omega) λo17=>?_;refine ao (by omega) λo18=>?_;refine ao (by omega) λo19=>?_;refine ao (by omega) λo20=>?_
 refine⟨(((((L a).getD ((((j:Nat):Int)-1).toNat) []).getD 0 (.int 0))).n,((((L b).getD ((((j:Nat):Int)-1).toNat) []).getD 0 (.int 0))).n),by
  rfl,by
  trivial,?_⟩
 rw[hj (by omega),L_n,L_n,Xw (k:=j-1) (by rw[Nat.sub_add_cancel (by omega)];exact a0.2.2) (by omega)]
def DH:Con:={ι:=Nat×Nat,pre:=λi=>nl i.1<=1048576/\nl i.2<=1048576,args:=λi=>[.one (cS (L i.1)),.one (cS (L i.2))],mono:=true,res:=λi=>⟨false,[none],[.own 3 [.int] (L (i.1+i.2))]⟩}
theorem ON:DH.Ok Tryz.prog 155:=by
 refine fok (X:=⟨tt,[(177,An)],[],49,[]⟩) mixed AG (CTok.cons Lf (CTok.nil _)) Tryz.func155 (λ(i:Nat×Nat)=>[(4,.mk 4 (Nat) (λx1=>{tm:=[(0,tX 1),(1,tX 2),(5,tX 3),(6,tI (nI (BC i.1 i.2 x1))),(7,tI (nI x1))],en:=[(1,eV (L i.1)),(2,eV (L i.2)),(3,.own 3 [.int] (AF (AS x1 (i.1+i.2))))]}) (λx1=>x1<=max (nl i.1) (nl i.2)+1/\(x1=0\/BB^(x1-1)<=i.1+i.2)) (λx1=>max (nl i.1) (nl i.2)+2-x1) (λ_=>[]))]) ?_;rintro⟨a,b⟩ a2
 have a2:nl a<=1048576/\nl b<=1048576:=a2;refine AH (q:=let a1:=List Dat;let Z6:=wR ((max (nI ((L a).length)) (nI ((L b).length)))+(1:Int));let Z5:=(1000000000:Int)≠0;(0<=(0:Int))/\(((0:Int)<=Z6)/\((Z6<=1073741824)/\((∃x1:Nat,(x1<=max (nl a) (nl b)+1/\(x1=0\/BB^(x1-1)<=a+b))/\((vI (0:Int)=vI (nI (BC a b x1)))/\(vI (0:Int)=vI (nI x1))/\(rf (L a))/\(rf (L b))/\((List.replicate 0 [Dat.int (0:Int)])=(AF (AS x1 (a+b))))))/\∀x1:Nat,let Z9:=cI (nI x1);let Z8:=wR ((nI x1)+(1:Int));let Z7:=nI (BC a b x1);let Z4:=AF (AS x1 (a+b));(x1<=max (nl a) (nl b)+1/\(x1=0\/BB^(x1-1)<=a+b))->(ifB ((!(decide ((nI x1)<(nI ((L a).length)))))) (ifB ((!(decide ((nI x1)<(nI ((L b).length)))))) (ifB ((decide (Z7>(0:Int)))) (∃i1:Nat×Nat,[DA.one (cS (L a)),DA.one Z9]=An.args i1/\An.pre i1/\(∃i2:Nat×Nat,let Z1:=wR ((wR ((nI (dgt i1.1 i1.2))+(nI (dgt i2.1 i2.2))))+Z7);let a6:=Int.tmod Z1 (1000000000:Int);[DA.one (cS (L b)),DA.one Z9]=An.args i2/\An.pre i2/\(Z5/\((Z4.length+([[Dat.int a6]]:List a1).length<=2199023255552)/\(Z5/\(∃y2:Nat,(y2<=max (nl a) (nl b)+1/\(y2=0\/BB^(y2-1)<=a+b))/\(max (nl a) (nl b)+2-y2<max (nl a) (nl b)+2-x1)/\((vI (wR (Int.tdiv Z1 (1000000000:Int)))=vI (nI (BC a b y2)))/\(vI Z8=vI (nI y2))/\(rf (L a))/\(rf (L b))/\((Z4++([[Dat.int a6]]:List a1))=(AF (AS y2 (a+b))))))))))) ((Z4=L (a+b)))) (∃i3:Nat×Nat,[DA.one (cS (L a)),DA.one Z9]=An.args i3/\An.pre i3/\(∃i4:Nat×Nat,let Z2:=wR ((wR ((nI (dgt i3.1 i3.2))+(nI (dgt i4.1 i4.2))))+Z7);let a7:=Int.tmod Z2 (1000000000:Int);[DA.one (cS (L b)),DA.one Z9]=An.args i4/\An.pre i4/\(Z5/\((Z4.length+([[Dat.int a7]]:List a1).length<=2199023255552)/\(Z5/\(∃y3:Nat,(y3<=max (nl a) (nl b)+1/\(y3=0\/BB^(y3-1)<=a+b))/\(max (nl a) (nl b)+2-y3<max (nl a) (nl b)+2-x1)/\((vI (wR (Int.tdiv Z2 (1000000000:Int)))=vI (nI (BC a b y3)))/\(vI Z8=vI (nI y3))/\(rf (L a))/\(rf (L b))/\((Z4++([[Dat.int a7]]:List a1))=(AF (AS y3 (a+b)))))))))))) (∃i5:Nat×Nat,[DA.one (cS (L a)),DA.one Z9]=An.args i5/\An.pre i5/\(∃i6:Nat×Nat,let Z3:=wR ((wR ((nI (dgt i5.1 i5.2))+(nI (dgt i6.1 i6.2))))+Z7);let a8:=Int.tmod Z3 (1000000000:Int);[DA.one (cS (L b)),DA.one Z9]=An.args i6/\An.pre i6/\(Z5/\((Z4.length+([[Dat.int a8]]:List a1).length<=2199023255552)/\(Z5/\(∃y4:Nat,(y4<=max (nl a) (nl b)+1/\(y4=0\/BB^(y4-1)<=a+b))/\(max (nl a) (nl b)+2-y4<max (nl a) (nl b)+2-x1)/\((vI (wR (Int.tdiv Z3 (1000000000:Int)))=vI (nI (BC a b y4)))/\(vI Z8=vI (nI y4))/\(rf (L a))/\(rf (L b))/\((Z4++([[Dat.int a8]]:List a1))=(AF (AS y4 (a+b)))))))))))))))) (by kernel_rfl) ?_;conv=>zeta
 delta ifB vI wR nI;have ha:=AJ a;have hb:=AJ b;have hw0:IntKind.i64.wrap ((max (((L a).length:Nat):Int) (((L b).length:Nat):Int))+(1:Int))=((max (nl a) (nl b)+1:Nat):Int):=by rw[ha,hb,AB (by omega) (by omega)];omega
 refine ao (by omega) λo1=>?_;refine ao (by omega) λo2=>?_;refine ao (by omega) λo3=>?_;refine⟨⟨0,by exact⟨Nat.zero_le _,.inl rfl⟩,?_⟩,?_⟩;refine⟨?_,?_,rfl,rfl,?_⟩;rw[OI];rfl;rfl;rfl;intro (i:Nat) a0;have a0:i<=max (nl a) (nl b)+1/\(i=0\/BB^(i-1)<=a+b):=a0;have da:=LD a i;have db:=LD b i;have hc:=Bw a b i;have hn:IntKind.i64.wrap (IntKind.i64.wrap (((dgt a i:Nat):Int)+((dgt b i:Nat):Int))+((BC a b i:Nat):Int))=((dgt a i+dgt b i+BC a b i:Nat):Int):=by rw[AB (x:=(dgt a i:Int)+_) (by omega) (by omega),AB (by omega) (by omega)];omega
 have h1:=UR a b i;have hl:(AF (AS i (a+b))).length=i:=by rw[BJ,Ai]
 refine And.symm ⟨λa3=>?_,λa3=>?_⟩;simp only[nrm]at a3
 refine⟨(a,i),by
  rfl,by
  show nl a<=1048576/\i<=4194304;exact⟨by omega,by omega⟩,?_⟩
 refine⟨(b,i),by
  rfl,by
  show nl b<=1048576/\i<=4194304;exact⟨by omega,by omega⟩,?_⟩
 refine ao (by omega) λo55=>?_;refine ao (by simp only[hl,List.length_cons,List.length_nil];omega) λo56=>?_;refine ao (by omega) λo57=>?_
 refine⟨i+1,by
  have hz:i<nl a\/i<nl b\/0<BC a b i:=by omega
  exact⟨by(rcases hz with h|h|h) <;> first|omega|(have:=Bn h;omega),.inr (A4 hz)⟩,by
  omega,?_⟩
 refine⟨?_,?_,rfl,rfl,?_⟩;rw[hn,DU,h1.2,Bk (by have:=Bw a b (i+1);omega)];exact AU (AB (by omega) (by omega));rw[hn,Du,h1.1,Ak,← At];simp only[nrm]at a3;refine And.symm ⟨λa4=>?_,λa4=>?_⟩;simp only[nrm]at a4
 refine⟨(a,i),by
  rfl,by
  show nl a<=1048576/\i<=4194304;exact⟨by omega,by omega⟩,?_⟩
 refine⟨(b,i),by
  rfl,by
  show nl b<=1048576/\i<=4194304;exact⟨by omega,by omega⟩,?_⟩
 refine ao (by omega) λo38=>?_;refine ao (by simp only[hl,List.length_cons,List.length_nil];omega) λo39=>?_;refine ao (by omega) λo40=>?_
 refine⟨i+1,by
  have hz:i<nl a\/i<nl b\/0<BC a b i:=by omega
  exact⟨by(rcases hz with h|h|h) <;> first|omega|(have:=Bn h;omega),.inr (A4 hz)⟩,by
  omega,?_⟩
 refine⟨?_,?_,rfl,rfl,?_⟩;rw[hn,DU,h1.2,Bk (by have:=Bw a b (i+1);omega)];exact AU (AB (by omega) (by omega));rw[hn,Du,h1.1,Ak,← At];simp only[nrm]at a4;refine And.symm ⟨λa5=>?_,λa5=>?_⟩;simp only[nrm]at a5;exact Ub (by omega) (by omega) (by omega) a0.2;simp only[nrm]at a5
 refine⟨(a,i),by
  rfl,by
  show nl a<=1048576/\i<=4194304;exact⟨by omega,by omega⟩,?_⟩
 refine⟨(b,i),by
  rfl,by
  show nl b<=1048576/\i<=4194304;exact⟨by omega,by omega⟩,?_⟩
 refine ao (by omega) λo20=>?_;refine ao (by simp only[hl,List.length_cons,List.length_nil];omega) λo21=>?_;refine ao (by omega) λo22=>?_
 refine⟨i+1,by
  have hz:i<nl a\/i<nl b\/0<BC a b i:=by omega
  exact⟨by(rcases hz with h|h|h) <;> first|omega|(have:=Bn h;omega),.inr (A4 hz)⟩,by
  omega,?_⟩
 refine⟨?_,?_,rfl,rfl,?_⟩;rw[hn,DU,h1.2,Bk (by have:=Bw a b (i+1);omega)];exact AU (AB (by omega) (by omega));rw[hn,Du,h1.1,Ak,← At]
def B5:Con:={ι:=Nat×Nat,pre:=λi=>nl i.1<=1048576/\nl i.2<=1048576/\i.2<=i.1,args:=λi=>[.one (cS (L i.1)),.one (cS (L i.2))],mono:=true,res:=λi=>⟨false,[none],[.view 3 [.int] (L (i.1-i.2))]⟩}
theorem OO:B5.Ok Tryz.prog 190:=by
 refine fok (X:=⟨tt,[(177,An),(178,A3)],[],38,[]⟩) mixed AG (CTok.cons Lf (CTok.cons GT (CTok.nil _))) Tryz.func190 (λ(i:Nat×Nat)=>[(4,.mk 4 (Nat) (λx1=>{tm:=[(0,tX 1),(1,tX 2),(13,tI (nI ((L i.1).length))),(14,tI (nI x1)),(5,tX 3),(6,tI (nI (brw i.1 i.2 x1)))],en:=[(1,eV (L i.1)),(2,eV (L i.2)),(3,.own 3 [.int] (AF (AS x1 (i.1-i.2))))]}) (λx1=>x1<=nl i.1) (λx1=>nl i.1-x1) (λ_=>[]))]) ?_;rintro⟨a,b⟩ a0;have a0:nl a<=1048576/\nl b<=1048576/\b<=a:=a0;refine AH (q:=let Z3:=nI ((L a).length);(0<=(0:Int))/\(((0:Int)<=Z3)/\((Z3<=1073741824)/\((∃x1:Nat,(x1<=nl a)/\((rf (vI Z3))/\(vI (0:Int)=vI (nI x1))/\(vI (0:Int)=vI (nI (brw a b x1)))/\(rf (L a))/\(rf (L b))/\((List.replicate 0 [Dat.int (0:Int)])=(AF (AS x1 (a-b))))))/\∀x1:Nat,let Z5:=wR ((nI x1)+(1:Int));let Z2:=AF (AS x1 (a-b));(x1<=nl a)->(ifB ((decide ((nI x1)<Z3))) ((0<=(nI x1)/\(nI x1)<((L a).length:Int))/\((x1<(L a).length)/\(∃i1:Nat×Nat,let Z1:=wR ((wR (((((L a).getD x1 []).getD 0 (.int 0))).n-(nI (dgt i1.1 i1.2))))-(nI (brw a b x1)));let Z4:=wR (Z1+(1000000000:Int));[DA.one (cS (L b)),DA.one (cI (nI x1))]=An.args i1/\An.pre i1/\(ifB ((decide (Z1<(0:Int)))) ((Z2.length+([[Dat.int Z4]]:List (List Dat)).length<=2199023255552)/\(∃y2:Nat,(y2<=nl a)/\(nl a-y2<nl a-x1)/\((rf (vI Z3))/\(vI Z5=vI (nI y2))/\(vI (1:Int)=vI (nI (brw a b y2)))/\(rf (L a))/\(rf (L b))/\((Z2++([[Dat.int Z4]]:List (List Dat)))=(AF (AS y2 (a-b))))))) ((Z2.length+([[Dat.int Z1]]:List (List Dat)).length<=2199023255552)/\(∃y3:Nat,(y3<=nl a)/\(nl a-y3<nl a-x1)/\((rf (vI Z3))/\(vI Z5=vI (nI y3))/\(vI (0:Int)=vI (nI (brw a b y3)))/\(rf (L a))/\(rf (L b))/\((Z2++([[Dat.int Z1]]:List (List Dat)))=(AF (AS y3 (a-b))))))))))) (∃i2:(List Nat),[DA.one (cS Z2)]=A3.args i2/\A3.pre i2/\((L (Ah i2)=L (a-b))))))))) (by kernel_rfl) ?_;conv=>zeta
 delta ifB vI wR nI;have ha:=AJ a;have hb:=AJ b;refine ao (by omega) λo1=>?_;refine ao (by omega) λo2=>?_;refine ao (by omega) λo3=>?_;refine⟨⟨0,by omega,?_⟩,?_⟩;refine⟨rfl,?_,?_,rfl,rfl,?_⟩;rfl;rw[Q6];rfl;rfl;intro (i:Nat) a2;have a2:i<=nl a:=a2;have da:=LD a i;have db:=LD b i;have hc:=PK a b i;have h1:=UT a0.2.2 i;have hn:IntKind.i64.wrap (IntKind.i64.wrap (((((L a).getD i []).getD 0 (.int 0))).n-((dgt b i:Nat):Int))-((brw a b i:Nat):Int))=(dgt a i:Int)-dgt b i-brw a b i:=by rw[L_n,AB (x:=(dgt a i:Int)-_) (by omega) (by omega),AB (by omega) (by omega)]
 have hl:(AF (AS i (a-b))).length=i:=by rw[BJ,Ai]
 refine And.symm ⟨λa3=>?_,λa3=>?_⟩;simp only[nrm]at a3
 refine⟨(AS i (a-b)),by
  rfl,by
  exact⟨by rw[Ai];omega,FP _ _⟩,?_⟩
 rw[KL (by have:=Cy (Nat.sub_le a b);omega)];simp only[nrm]at a3;refine ao (by omega) λo13=>?_;refine ao (by omega) λo14=>?_
 refine⟨(b,i),by
  rfl,by
  show nl b<=1048576/\i<=4194304;exact⟨by omega,by omega⟩,?_⟩
 refine And.symm ⟨λa1=>?_,λa1=>?_⟩;simp only[nrm]at a1;rw[hn]at a1;have hq:=h1.2 a1;refine ao (by simp only[hl,List.length_cons,List.length_nil];omega) λo29=>?_
 refine⟨i+1,by
  omega,by
  omega,?_⟩
 refine⟨rfl,?_,?_,rfl,rfl,?_⟩;exact AU (AB (by omega) (by omega));rw[hq.2];rfl;rw[hn,hq.1,Ak,← At];simp only[nrm]at a1;rw[hn]at a1;have hq:=h1.1 a1;have hw:IntKind.i64.wrap ((dgt a i:Int)-dgt b i-brw a b i+(1000000000:Int))=(dgt a i:Int)-dgt b i-brw a b i+1000000000:=by rw[AB (by omega) (by omega)]
 refine ao (by simp only[hl,List.length_cons,List.length_nil];omega) λo19=>?_
 refine⟨i+1,by
  omega,by
  omega,?_⟩
 refine⟨rfl,?_,?_,rfl,rfl,?_⟩;exact AU (AB (by omega) (by omega));rw[hq.2];rfl;rw[hn,hw,hq.1,Ak,← At]
def Aq:Con:={ι:=Nat×Nat,pre:=λi=>nl i.1<=524288/\nl i.2<=524288,args:=λi=>[.one (cS (L i.1)),.one (cS (L i.2))],mono:=true,res:=λi=>⟨false,[none],[.view 3 [.int] (L (i.1*i.2))]⟩}
theorem Ei:Aq.Ok Tryz.prog 153:=by
 refine fok (X:=⟨tt,[(177,An),(178,A3)],[],60,[]⟩) mixed AG (CTok.cons Lf (CTok.cons GT (CTok.nil _))) Tryz.func153 (λ(i:Nat×Nat)=>[(3,.mk 4 (Nat) (λx1=>{tm:=[(0,tX 1),(1,tX 2),(17,tX 1),(18,tI (nI ((L i.1).length))),(19,tI (nI x1)),(5,tX 3)],en:=[(1,eV (L i.1)),(2,eV (L i.2)),(3,.own 3 [.int] (AF (AS (nl i.1+nl i.2) (i.1%BB^x1*i.2))))]}) (λx1=>x1<=nl i.1) (λx1=>nl i.1-x1) (λx1=>[(7,.mk 4 (Nat×Nat×Nat) (λx2=>{tm:=[(0,tX 1),(1,tX 2),(17,tX 1),(18,tI (nI ((L i.1).length))),(19,tI (nI x1)),(6,tI (nI x1)),(7,tI (((((L i.1).getD x1 []).getD 0 (.int 0))).n)),(5,tX 3),(8,tI (nI x2.2.2)),(9,tI (nI x2.1))],en:=[(1,eV (L i.1)),(2,eV (L i.2)),(3,.own 3 [.int] (AF (AS (nl i.1+nl i.2) x2.2.1)))]}) (λx2=>x2.2.1+x2.2.2*BB^(x1+x2.1)=i.1%BB^x1*i.2+dgt i.1 x1*BB^x1*(i.2%BB^x2.1)/\x2.2.2<BB/\(x2.1<=nl i.2\/x2.2.2=0)/\x2.1<=nl i.2+1) (λx2=>nl i.2+2-x2.1) (λ_=>[]))]))]) ?_;rintro⟨a,b⟩ a3
 have a3:nl a<=524288/\nl b<=524288:=a3;refine AH (q:=let a1:=nl a+nl b;let Z7:=(1000000000:Int)≠0;let Z6:=nI ((L a).length);let Z4:=wR (Z6+(nI ((L b).length)));(0<=Z4)/\((Z4<=Z4)/\((Z4<=1073741824)/\((∃x1:Nat,(x1<=nl a)/\((rf (vI Z6))/\(vI (0:Int)=vI (nI x1))/\(rf (L a))/\(rf (L b))/\((List.replicate (Z4.toNat) [Dat.int (0:Int)])=(AF (AS a1 (a%BB^x1*b))))))/\∀x1:Nat,let aC:=AF (AS a1 (a%BB^x1*b));let a2:=vI (nI x1);let Z3:=(((L a).getD x1 []).getD 0 (.int 0));(x1<=nl a)->(ifB ((decide ((nI x1)<Z6))) ((0<=(nI x1)/\(nI x1)<((L a).length:Int))/\((x1<(L a).length)/\((∃x2:Nat×Nat×Nat,(x2.2.1+x2.2.2*BB^(x1+x2.1)=a%BB^x1*b+dgt a x1*BB^x1*(b%BB^x2.1)/\x2.2.2<BB/\(x2.1<=nl b\/x2.2.2=0)/\x2.1<=nl b+1)/\((rf (vI Z6))/\(rf a2)/\(rf a2)/\(rf (vI Z3.n))/\(vI (0:Int)=vI (nI x2.2.2))/\(vI (0:Int)=vI (nI x2.1))/\(rf (L a))/\(rf (L b))/\(aC=(AF (AS a1 x2.2.1)))))/\∀x2:Nat×Nat×Nat,let aD:=wR ((nI x2.1)+(1:Int));let Z2:=wR ((nI x1)+(nI x2.1));let Z1:=AF (AS a1 x2.2.1);let a8:=Z1.getD (Z2.toNat) [];let a6:=(Z1.length:Int);let a7:=Z2.toNat<Z1.length;let Z5:=(a8.getD 0 (.int 0));(x2.2.1+x2.2.2*BB^(x1+x2.1)=a%BB^x1*b+dgt a x1*BB^x1*(b%BB^x2.1)/\x2.2.2<BB/\(x2.1<=nl b\/x2.2.2=0)/\x2.1<=nl b+1)->(ifB ((!(decide ((nI x2.1)<(nI ((L b).length)))))) (ifB ((decide ((nI x2.2.2)>(0:Int)))) ((0<=Z2/\Z2<a6)/\(a7/\(∃i1:Nat×Nat,let Z8:=wR ((wR (Z5.n+(wR (Z3.n*(nI (dgt i1.1 i1.2))))))+(nI x2.2.2));[DA.one (cS (L b)),DA.one (cI (nI x2.1))]=An.args i1/\An.pre i1/\(Z7/\((0<=Z2/\Z2<a6)/\(a7/\(Z7/\(∃y3:Nat×Nat×Nat,(y3.2.1+y3.2.2*BB^(x1+y3.1)=a%BB^x1*b+dgt a x1*BB^x1*(b%BB^y3.1)/\y3.2.2<BB/\(y3.1<=nl b\/y3.2.2=0)/\y3.1<=nl b+1)/\(nl b+2-y3.1<nl b+2-x2.1)/\((rf (vI Z6))/\(rf a2)/\(rf a2)/\(rf (vI Z3.n))/\(vI (wR (Int.tdiv Z8 (1000000000:Int)))=vI (nI y3.2.2))/\(vI aD=vI (nI y3.1))/\(rf (L a))/\(rf (L b))/\((Z1.set (Z2.toNat) (a8.set 0 (Dat.int (Int.tmod Z8 (1000000000:Int)))))=(AF (AS a1 y3.2.1)))))))))))) (∃y4:Nat,(y4<=nl a)/\(nl a-y4<nl a-x1)/\((rf (vI Z6))/\(vI (wR ((nI x1)+(1:Int)))=vI (nI y4))/\(rf (L a))/\(rf (L b))/\(Z1=(AF (AS a1 (a%BB^y4*b))))))) ((0<=Z2/\Z2<a6)/\(a7/\(∃i2:Nat×Nat,let Z9:=wR ((wR (Z5.n+(wR (Z3.n*(nI (dgt i2.1 i2.2))))))+(nI x2.2.2));[DA.one (cS (L b)),DA.one (cI (nI x2.1))]=An.args i2/\An.pre i2/\(Z7/\((0<=Z2/\Z2<a6)/\(a7/\(Z7/\(∃y5:Nat×Nat×Nat,(y5.2.1+y5.2.2*BB^(x1+y5.1)=a%BB^x1*b+dgt a x1*BB^x1*(b%BB^y5.1)/\y5.2.2<BB/\(y5.1<=nl b\/y5.2.2=0)/\y5.1<=nl b+1)/\(nl b+2-y5.1<nl b+2-x2.1)/\((rf (vI Z6))/\(rf a2)/\(rf a2)/\(rf (vI Z3.n))/\(vI (wR (Int.tdiv Z9 (1000000000:Int)))=vI (nI y5.2.2))/\(vI aD=vI (nI y5.1))/\(rf (L a))/\(rf (L b))/\((Z1.set (Z2.toNat) (a8.set 0 (Dat.int (Int.tmod Z9 (1000000000:Int)))))=(AF (AS a1 y5.2.1)))))))))))))))) (∃i3:(List Nat),[DA.one (cS aC)]=A3.args i3/\A3.pre i3/\((L (Ah i3)=L (a*b))))))))) (by kernel_rfl) ?_;conv=>zeta
 delta ifB vI wR nI;have ha:=AJ a;have hb:=AJ b;have hw0:IntKind.i64.wrap ((((L a).length:Nat):Int)+(((L b).length:Nat):Int))=((nl a+nl b:Nat):Int):=by rw[ha,hb,AB (by omega) (by omega)];omega
 refine ao (by omega) λo1=>?_;refine ao (by omega) λo2=>?_;refine ao (by omega) λo3=>?_;refine⟨⟨0,by omega,?_⟩,?_⟩;refine⟨rfl,?_,rfl,rfl,?_⟩;rfl;rw[hw0,Int.toNat_natCast,Nat.pow_zero,Nat.mod_one,Nat.zero_mul,KG,← EQ];intro (i:Nat) a4;have a4:i<=nl a:=a4;refine And.symm ⟨λa9=>?_,λa9=>?_⟩;simp only[nrm]at a9
 refine⟨(AS (nl a+nl b) (a%BB^i*b)),by
  rfl,by
  exact⟨by rw[Ai];omega,FP _ _⟩,?_⟩
 rw[GV (by omega),KL (As _ _)];simp only[nrm]at a9;refine ao (by omega) λo12=>?_;refine ao (by omega) λo13=>?_;refine⟨⟨(0,a%BB^i*b,0),by exact⟨by simp[Nat.mod_one],Dg,.inl (Nat.zero_le _),Nat.zero_le _⟩,?_⟩,?_⟩;refine⟨rfl,rfl,rfl,rfl,?_,?_,rfl,rfl,rfl⟩;rfl;rfl;rintro⟨k,V,c⟩ a0;have a0:V+c*BB^(i+k)=a%BB^i*b+dgt a i*BB^i*(b%BB^k)/\c<BB/\(k<=nl b\/c=0)/\k<=nl b+1:=a0;have hlv:(AF (AS (nl a+nl b) V)).length=nl a+nl b:=by rw[BJ,Ai]
 refine And.symm ⟨λaA=>?_,λaA=>?_⟩;simp only[nrm]at aA;have a5:i+k<nl a+nl b:=by omega
 have hw:IntKind.i64.wrap (((i:Nat):Int)+((k:Nat):Int))=((i+k:Nat):Int):=by rw[AB (by omega) (by omega)];omega
 have hm:=KM (Bb a i) (Bb b k) (Bb V (i+k)) a0.2.1;have hn:IntKind.i64.wrap (IntKind.i64.wrap (((((AF (AS (nl a+nl b) V)).getD ((IntKind.i64.wrap (((i:Nat):Int)+((k:Nat):Int))).toNat) []).getD 0 (.int 0))).n+(IntKind.i64.wrap (((((L a).getD i []).getD 0 (.int 0))).n*((dgt b k:Nat):Int))))+((c:Nat):Int))=((dgt V (i+k)+dgt a i*dgt b k+c:Nat):Int):=by rw[hw,Int.toNat_natCast,PQ a5,L_n,← Int.natCast_mul,Bk (by omega),← Int.natCast_add,Bk (by omega),← Int.natCast_add,Bk (by omega)]
 have hst:=PL a0.1;refine ao (by dsimp only;omega) λo56=>?_;refine ao (by omega) λo57=>?_
 refine⟨(b,k),by
  rfl,by
  show nl b<=1048576/\k<=4194304;exact⟨by omega,by omega⟩,?_⟩
 refine ao (by omega) λo61=>?_;refine ao (by omega) λo62=>?_;refine ao (by omega) λo63=>?_;refine ao (by omega) λo64=>?_
 refine⟨(k+1,V-dgt V (i+k)*BB^(i+k)+(dgt V (i+k)+dgt a i*dgt b k+c)%BB*BB^(i+k),(dgt V (i+k)+dgt a i*dgt b k+c)/BB),by
  exact⟨hst,hm.1,(Nat.eq_zero_or_pos _).elim .inr (λh=>.inl (OM (by omega) hst h)),by omega⟩,by
  omega,?_⟩
 refine⟨rfl,rfl,rfl,rfl,?_,?_,rfl,rfl,?_⟩;rw[hn,DU,Bk (Nat.le_trans (Nat.le_of_lt hm.1) (by decide))];exact AU (AB (by omega) (by omega));rw[hn,Du,hw,Int.toNat_natCast,Mv a5];simp only[nrm]at aA;refine And.symm ⟨λaB=>?_,λaB=>?_⟩;simp only[nrm]at aB;have hc0:c=0:=by omega
 have e:=a0.1;rw[hc0,Nat.zero_mul,Nat.add_zero,GV (a:=b) (i:=k) (by omega),Sq]at e
 refine⟨i+1,by
  omega,by
  omega,?_⟩
 refine⟨rfl,?_,rfl,rfl,?_⟩;exact AU (AB (by omega) (by omega));rw[e];simp only[nrm]at aB;have a5:i+k<nl a+nl b:=by omega
 have hw:IntKind.i64.wrap (((i:Nat):Int)+((k:Nat):Int))=((i+k:Nat):Int):=by rw[AB (by omega) (by omega)];omega
 have hm:=KM (Bb a i) (Bb b k) (Bb V (i+k)) a0.2.1;have hn:IntKind.i64.wrap (IntKind.i64.wrap (((((AF (AS (nl a+nl b) V)).getD ((IntKind.i64.wrap (((i:Nat):Int)+((k:Nat):Int))).toNat) []).getD 0 (.int 0))).n+(IntKind.i64.wrap (((((L a).getD i []).getD 0 (.int 0))).n*((dgt b k:Nat):Int))))+((c:Nat):Int))=((dgt V (i+k)+dgt a i*dgt b k+c:Nat):Int):=by rw[hw,Int.toNat_natCast,PQ a5,L_n,← Int.natCast_mul,Bk (by omega),← Int.natCast_add,Bk (by omega),← Int.natCast_add,Bk (by omega)]
 have hst:=PL a0.1;refine ao (by dsimp only;omega) λo27=>?_;refine ao (by omega) λo28=>?_
 refine⟨(b,k),by
  rfl,by
  show nl b<=1048576/\k<=4194304;exact⟨by omega,by omega⟩,?_⟩
 refine ao (by omega) λo32=>?_;refine ao (by omega) λo33=>?_;refine ao (by omega) λo34=>?_;refine ao (by omega) λo35=>?_
 refine⟨(k+1,V-dgt V (i+k)*BB^(i+k)+(dgt V (i+k)+dgt a i*dgt b k+c)%BB*BB^(i+k),(dgt V (i+k)+dgt a i*dgt b k+c)/BB),by
  exact⟨hst,hm.1,(Nat.eq_zero_or_pos _).elim .inr (λh=>.inl (OM (by omega) hst h)),by omega⟩,by
  omega,?_⟩
 refine⟨rfl,rfl,rfl,rfl,?_,?_,rfl,rfl,?_⟩;rw[hn,DU,Bk (Nat.le_trans (Nat.le_of_lt hm.1) (by decide))];exact AU (AB (by omega) (by omega));rw[hn,Du,hw,Int.toNat_natCast,Mv a5]
def Bc:Con:={ι:=Nat×Nat,pre:=λi=>nl i.1<=1048576/\0<i.2/\i.2<BB,args:=λi=>[.one (cS (L i.1)),.one (cI ((i.2:Nat):Int))],mono:=true,res:=λi=>⟨true,[none,none],[.view 3 [.int] (L (i.1/i.2)),rcI ((i.1%i.2:Nat):Int)]⟩}
theorem Hm:Bc.Ok Tryz.prog 205:=by
 refine fok (X:=⟨tt,[(178,A3)],[],38,[]⟩) mixed AG (CTok.cons GT (CTok.nil _)) Tryz.func205 (λ(i:Nat×Nat)=>[(4,.mk 3 (Nat) (λx1=>{tm:=[(0,tX 1),(1,tI (nI i.2)),(6,tX 2),(7,tI (nI (i.1/BB^x1%i.2))),(8,tI ((nI x1)-1))],en:=[(1,eV (L i.1)),(2,.own 3 [.int] (AF (AS (nl i.1) (hi (i.1/i.2) x1))))]}) (λx1=>x1<=nl i.1) (λx1=>x1) (λ_=>[]))]) ?_;rintro⟨a,n⟩ a0;have a0:nl a<=1048576/\0<n/\n<BB:=a0;refine AH (q:=let Z4:=nI ((L a).length);(0<=Z4)/\((Z4<=Z4)/\((Z4<=1073741824)/\((∃x1:Nat,(x1<=nl a)/\((rf (vI (nI n)))/\(vI (0:Int)=vI (nI (a/BB^x1%n)))/\(vI (wR (Z4-(1:Int)))=vI ((nI x1)-1))/\(rf (L a))/\((List.replicate ((L a).length) [Dat.int (0:Int)])=(AF (AS (nl a) (hi (a/n) x1))))))/\∀x1:Nat,let Z5:=nI (a/BB^x1%n);let Z3:=(nI x1)-1;let Z2:=wR ((wR (Z5*(1000000000:Int)))+((((L a).getD (Z3.toNat) []).getD 0 (.int 0))).n);let Z1:=AF (AS (nl a) (hi (a/n) x1));(x1<=nl a)->(ifB ((decide (Z3>=(0:Int)))) ((0<=Z3/\Z3<((L a).length:Int))/\((Z3.toNat<(L a).length)/\(((nI n)≠0)/\((0<=Z3/\Z3<(Z1.length:Int))/\((Z3.toNat<Z1.length)/\(((nI n)≠0)/\(∃y2:Nat,(y2<=nl a)/\(y2<x1)/\((rf (vI (nI n)))/\(vI (Int.tmod Z2 (nI n))=vI (nI (a/BB^y2%n)))/\(vI (wR (Z3-(1:Int)))=vI ((nI y2)-1))/\(rf (L a))/\((Z1.set (Z3.toNat) ((Z1.getD (Z3.toNat) []).set 0 (Dat.int (wR (Int.tdiv Z2 (nI n))))))=(AF (AS (nl a) (hi (a/n) y2)))))))))))) (∃i1:(List Nat),[DA.one (cS Z1)]=A3.args i1/\A3.pre i1/\((L (Ah i1)=L (a/n))/\(vI Z5=vI (nI (a%n)))))))))) (by kernel_rfl) ?_;conv=>zeta
 delta ifB vI wR nI;have ha:=AJ a;refine ao (by omega) λo1=>?_;refine ao (by omega) λo2=>?_;refine ao (by omega) λo3=>?_;refine⟨⟨nl a,by omega,?_⟩,?_⟩;refine⟨rfl,?_,?_,rfl,?_⟩;rw[PN n (C3 a)];rfl;rw[ha,AB (by omega) (by omega)];rw[ha,Lh (Nat.div_le_self _ _)];intro (j:Nat) a1;have a1:j<=nl a:=a1;have hlv:(AF (AS (nl a) (hi (a/n) j))).length=nl a:=by rw[BJ,Ai]
 refine And.symm ⟨λa2=>?_,λa2=>?_⟩;simp only[nrm]at a2
 refine⟨(AS (nl a) (hi (a/n) j)),by
  rfl,by
  exact⟨by rw[Ai];omega,FP _ _⟩,?_⟩
 refine⟨?_,?_⟩;rw[show j=0 by omega];exact Xx (Nat.div_le_self _ _);rw[show j=0 by omega,Nat.pow_zero,Nat.div_one];simp only[nrm]at a2;have hj:((((j:Nat):Int)-1).toNat)=j-1:=by omega
 have hj1:j-1+1=j:=by omega
 have hd:=PM a n (j-1) a0.2.1;rw[hj1]at hd;have hn:IntKind.i64.wrap (IntKind.i64.wrap (((a/BB^j%n:Nat):Int)*(1000000000:Int))+((((L a).getD ((((j:Nat):Int)-1).toNat) []).getD 0 (.int 0))).n)=((a/BB^j%n*BB+dgt a (j-1):Nat):Int):=by rw[hj,L_n,KN (Nat.lt_trans (Nat.mod_lt _ a0.2.1) a0.2.2) (Bb _ _)]
 refine ao (by omega) λo12=>?_;refine ao (by omega) λo13=>?_;refine ao (by omega) λo14=>?_;refine ao (by omega) λo15=>?_;refine ao (by omega) λo16=>?_;refine ao (by omega) λo17=>?_
 refine⟨j-1,by
  omega,by
  omega,?_⟩
 refine⟨rfl,?_,?_,rfl,?_⟩;rw[hn,Xk,hd.2];rw[Cz (by omega) (by omega)];rw[hn,Xj,hd.1,Bk (by have:=Bb (a/n) (j-1);unfold BB at this;omega),hj];exact Li (by omega) (by omega) rfl
def IL:Con:={ι:=Nat×Nat,pre:=λi=>2<=nl i.2/\i.2<=i.1/\i.1<i.2*BB/\nl i.2<=131072,args:=λi=>[.one (cS (L i.1)),.one (cS (L i.2))],mono:=true,res:=λi=>⟨false,[none],[rcI ((i.1/i.2:Nat):Int)]⟩}
theorem Xz:IL.Ok Tryz.prog 206:=by
 refine fok (X:=⟨tt,[(177,An),(154,A2),(153,Aq),(151,Ap)],[],84,[]⟩) mixed AG (CTok.cons Lf (CTok.cons Ms (CTok.cons Ei (CTok.cons IK (CTok.nil _))))) Tryz.func206 (λ(i:Nat×Nat)=>[(7,.mk 3 (Nat×Nat) (λx1=>{tm:=[(0,tX 1),(1,tX 2),(5,tI (nI x1.1)),(6,tI (nI x1.2))],en:=[(1,eV (L i.1)),(2,eV (L i.2))]}) (λx1=>x1.1<=i.1/i.2/\i.1/i.2<=x1.2/\x1.2<=999999999) (λx1=>x1.2-x1.1) (λ_=>[]))]) ?_;rintro⟨a,b⟩ a0;have a0:2<=nl b/\b<=a/\a<b*BB/\nl b<=131072:=a0
 refine AH (q:=let a2:=cS (L a);let Z4:=nI ((L b).length);let a3:=wR (Z4-(2:Int));let a4:=wR (Z4-(1:Int));let Z3:=floatBits .mul .f64 (FloatKind.nearest .f64 (((((L b).getD (a4.toNat) []).getD 0 (.int 0))).n)) 4741671816366391296;let Z8:=floatBits .add .f64 (Z3.getD 0) (FloatKind.nearest .f64 (((((L b).getD (a3.toNat) []).getD 0 (.int 0))).n));ifB ((decide ((nI ((L a).length))<=(wR (Z4+(1:Int)))))) (∃i1:Nat×Nat,let Z5:=floatBits .mul .f64 (FloatKind.nearest .f64 (nI (dgt i1.1 i1.2))) 4741671816366391296;let a8:=floatBits .mul .f64 (Z5.getD 0) 4741671816366391296;[DA.one a2,DA.one (cI Z4)]=An.args i1/\An.pre i1/\((Z5.isSome=true)/\((a8.isSome=true)/\(∃i2:Nat×Nat,let Z9:=floatBits .mul .f64 (FloatKind.nearest .f64 (nI (dgt i2.1 i2.2))) 4741671816366391296;let Z2:=floatBits .add .f64 (a8.getD 0) (Z9.getD 0);[DA.one a2,DA.one (cI a4)]=An.args i2/\An.pre i2/\((Z9.isSome=true)/\((Z2.isSome=true)/\(∃i3:Nat×Nat,let a9:=floatBits .add .f64 (Z2.getD 0) (FloatKind.nearest .f64 (nI (dgt i3.1 i3.2)));let Z1:=floatBits .quo .f64 (a9.getD 0) (Z8.getD 0);let a6:=floatToIntVal .f64 (Z1.getD 0) .i64;[DA.one a2,DA.one (cI a3)]=An.args i3/\An.pre i3/\((a9.isSome=true)/\((0<=a4/\a4<((L b).length:Int))/\((a4.toNat<(L b).length)/\((Z3.isSome=true)/\((0<=a3/\a3<((L b).length:Int))/\((a3.toNat<(L b).length)/\((Z8.isSome=true)/\((Z1.isSome=true)/\((a6.isSome=true)/\((∃x1:Nat×Nat,(x1.1<=a/b/\a/b<=x1.2/\x1.2<=999999999)/\((vI (max (0:Int) (wR ((a6.getD 0)-(2000:Int))))=vI (nI x1.1))/\(vI (min (999999999:Int) (wR ((a6.getD 0)+(2000:Int))))=vI (nI x1.2))/\(rf (L a))/\(rf (L b))))/\∀x1:Nat×Nat,let Z6:=wR (Int.tdiv (wR ((wR ((nI x1.1)+(nI x1.2)))+(1:Int))) (2:Int));(x1.1<=a/b/\a/b<=x1.2/\x1.2<=999999999)->(ifB ((decide ((nI x1.1)<(nI x1.2)))) (((2:Int)≠0)/\(∃i4:Nat,[DA.one (cI Z6)]=A2.args i4/\A2.pre i4/\(∃i5:Nat×Nat,[DA.one (cS (L b)),DA.one (cS (L i4))]=Aq.args i5/\Aq.pre i5/\(∃i6:Nat×Nat,[DA.one (cS (L (i5.1*i5.2))),DA.one a2]=Ap.args i6/\Ap.pre i6/\(ifB ((decide ((Br i6.1 i6.2)<=(0:Int)))) (∃y2:Nat×Nat,(y2.1<=a/b/\a/b<=y2.2/\y2.2<=999999999)/\(y2.2-y2.1<x1.2-x1.1)/\((vI Z6=vI (nI y2.1))/\(vI (nI x1.2)=vI (nI y2.2))/\(rf (L a))/\(rf (L b)))) (∃y3:Nat×Nat,(y3.1<=a/b/\a/b<=y3.2/\y3.2<=999999999)/\(y3.2-y3.1<x1.2-x1.1)/\((vI (nI x1.1)=vI (nI y3.1))/\(vI (wR (Z6-(1:Int)))=vI (nI y3.2))/\(rf (L a))/\(rf (L b))))))))) ((vI (nI x1.1)=vI (nI (a/b)))))))))))))))))))))) ((∃x1:Nat×Nat,(x1.1<=a/b/\a/b<=x1.2/\x1.2<=999999999)/\((vI (0:Int)=vI (nI x1.1))/\(vI (999999999:Int)=vI (nI x1.2))/\(rf (L a))/\(rf (L b))))/\∀x1:Nat×Nat,let Z7:=wR (Int.tdiv (wR ((wR ((nI x1.1)+(nI x1.2)))+(1:Int))) (2:Int));(x1.1<=a/b/\a/b<=x1.2/\x1.2<=999999999)->(ifB ((decide ((nI x1.1)<(nI x1.2)))) (((2:Int)≠0)/\(∃i7:Nat,[DA.one (cI Z7)]=A2.args i7/\A2.pre i7/\(∃i8:Nat×Nat,[DA.one (cS (L b)),DA.one (cS (L i7))]=Aq.args i8/\Aq.pre i8/\(∃i9:Nat×Nat,[DA.one (cS (L (i8.1*i8.2))),DA.one a2]=Ap.args i9/\Ap.pre i9/\(ifB ((decide ((Br i9.1 i9.2)<=(0:Int)))) (∃y5:Nat×Nat,(y5.1<=a/b/\a/b<=y5.2/\y5.2<=999999999)/\(y5.2-y5.1<x1.2-x1.1)/\((vI Z7=vI (nI y5.1))/\(vI (nI x1.2)=vI (nI y5.2))/\(rf (L a))/\(rf (L b)))) (∃y6:Nat×Nat,(y6.1<=a/b/\a/b<=y6.2/\y6.2<=999999999)/\(y6.2-y6.1<x1.2-x1.1)/\((vI (nI x1.1)=vI (nI y6.1))/\(vI (wR (Z7-(1:Int)))=vI (nI y6.2))/\(rf (L a))/\(rf (L b))))))))) ((vI (nI x1.1)=vI (nI (a/b))))))) (by kernel_rfl) ?_
 conv=>zeta
 delta ifB vI wR nI;have ha:=AJ a;have hb:=AJ b;have hnl:=JZ a0.2.2.1;have hb0:b≠0:=by rintro rfl;rw[CP]at a0;omega
 have hq:a/b<BB:=Nat.div_lt_of_lt_mul a0.2.2.1;have hq0:0<=((a/b:Nat):Int):=Int.natCast_nonneg _;unfold BB at hq;have hv1:IntKind.i64.wrap (((nl b:Nat):Int)-(1:Int))=((nl b-1:Nat):Int):=by rw[AB (by omega) (by omega)];omega
 have hw1:IntKind.i64.wrap ((((L b).length:Nat):Int)-(1:Int))=((nl b-1:Nat):Int):=by rw[hb,hv1]
 have hv2:IntKind.i64.wrap (((nl b:Nat):Int)-(2:Int))=((nl b-2:Nat):Int):=by rw[AB (by omega) (by omega)];omega
 have hw2:IntKind.i64.wrap ((((L b).length:Nat):Int)-(2:Int))=((nl b-2:Nat):Int):=by rw[hb,hv2]
 obtain⟨m1,m2,c1,s1,t,d1,y,q,G,e1,e2,e3,e4,e5,e6,e7,e8,e9,g1,g2⟩:=AA1 a0.1 a0.2.1 a0.2.2.1;refine And.symm ⟨λc1=>?_,λc1=>?_⟩;simp only[nrm]at c1;rw[ha,hb,AB (by omega) (by omega)]at c1;exfalso;omega;simp only[nrm]at c1
 refine⟨(a,nl b),by
  rw[hb];rfl,by
  show nl a<=1048576/\(nl b)<=4194304;exact⟨by omega,by omega⟩,?_⟩
 refine ao (by simp only[hv1,hv2,Int.toNat_natCast,L_n,hb,e1,e2,e3,e4,e5,e6,e7,e8,e9,Option.getD_some,Option.isSome_some]) λo5=>?_;refine ao (by simp only[hv1,hv2,Int.toNat_natCast,L_n,hb,e1,e2,e3,e4,e5,e6,e7,e8,e9,Option.getD_some,Option.isSome_some]) λo6=>?_
 refine⟨(a,nl b-1),by
  rw[hw1];rfl,by
  show nl a<=1048576/\(nl b-1)<=4194304;exact⟨by omega,by omega⟩,?_⟩
 refine ao (by simp only[hv1,hv2,Int.toNat_natCast,L_n,hb,e1,e2,e3,e4,e5,e6,e7,e8,e9,Option.getD_some,Option.isSome_some]) λo10=>?_;refine ao (by simp only[hv1,hv2,Int.toNat_natCast,L_n,hb,e1,e2,e3,e4,e5,e6,e7,e8,e9,Option.getD_some,Option.isSome_some]) λo11=>?_
 refine⟨(a,nl b-2),by
  rw[hw2];rfl,by
  show nl a<=1048576/\(nl b-2)<=4194304;exact⟨by omega,by omega⟩,?_⟩
 refine ao (by simp only[hv1,hv2,Int.toNat_natCast,L_n,hb,e1,e2,e3,e4,e5,e6,e7,e8,e9,Option.getD_some,Option.isSome_some]) λo15=>?_;refine ao (by omega) λo16=>?_;refine ao (by omega) λo17=>?_;refine ao (by simp only[hv1,hv2,Int.toNat_natCast,L_n,hb,e1,e2,e3,e4,e5,e6,e7,e8,e9,Option.getD_some,Option.isSome_some]) λo18=>?_;refine ao (by omega) λo19=>?_;refine ao (by omega) λo20=>?_;refine ao (by simp only[hv1,hv2,Int.toNat_natCast,L_n,hb,e1,e2,e3,e4,e5,e6,e7,e8,e9,Option.getD_some,Option.isSome_some]) λo21=>?_;refine ao (by simp only[hv1,hv2,Int.toNat_natCast,L_n,hb,e1,e2,e3,e4,e5,e6,e7,e8,e9,Option.getD_some,Option.isSome_some]) λo22=>?_;refine ao (by simp only[hv1,hv2,Int.toNat_natCast,L_n,hb,e1,e2,e3,e4,e5,e6,e7,e8,e9,Option.getD_some,Option.isSome_some]) λo23=>?_;refine⟨⟨(G-2000,min 999999999 (G+2000)),by omega,?_⟩,?_⟩;refine⟨?_,?_,rfl,rfl⟩;simp only[hv1,hv2,Int.toNat_natCast,L_n,hb,e1,e2,e3,e4,e5,e6,e7,e8,e9,Option.getD_some,Option.isSome_some];exact AU (by rw[AB (by omega) (by omega)];omega);simp only[hv1,hv2,Int.toNat_natCast,L_n,hb,e1,e2,e3,e4,e5,e6,e7,e8,e9,Option.getD_some,Option.isSome_some];exact AU (by rw[AB (by omega) (by omega)];omega);rintro⟨lo,hi⟩ a1;have a1:lo<=a/b/\a/b<=hi/\hi<=999999999:=a1;have hm:=RD (lo:=lo) (hi:=hi) (by omega) (by omega);refine And.symm ⟨λa7=>?_,λa7=>?_⟩;simp only[nrm]at a7;rw[show lo=a/b by omega];simp only[nrm]at a7;refine ao (by omega) λo31=>?_
 refine⟨((lo+hi+1)/2),by
  rw[hm];rfl,by
  show((lo+hi+1)/2)<=9223372036854775807;omega,?_⟩
 refine⟨(b,((lo+hi+1)/2)),by
  rfl,by
  show nl b<=524288/\nl ((lo+hi+1)/2)<=524288;have:=F7 (n:=(lo+hi+1)/2) (by unfold BB;omega);exact⟨by omega,by omega⟩,?_⟩
 refine⟨((b*((lo+hi+1)/2)),a),by
  rfl,by
  show nl (b*((lo+hi+1)/2))<=1048576/\nl a<=1048576;have:=F7 (n:=(lo+hi+1)/2) (by unfold BB;omega);have:=As b ((lo+hi+1)/2);exact⟨by omega,by omega⟩,?_⟩
 refine⟨λa5=>?_,λa5=>?_⟩;simp only[nrm]at a5
 refine⟨((lo+hi+1)/2,hi),by
  exact⟨F5 hb0 (Hk.1 a5),by omega,by omega⟩,by
  omega,?_⟩
 refine⟨?_,rfl,rfl,rfl⟩;rw[hm];simp only[nrm]at a5
 refine⟨(lo,(lo+hi+1)/2-1),by
  have h2:a/b<(lo+hi+1)/2:=div_lt_of_lt_mul (Nat.lt_of_not_le (λh=>by have:=Hk.2 h;omega));exact⟨by omega,by omega,by omega⟩,by
  omega,?_⟩
 refine⟨rfl,?_,rfl,rfl⟩;rw[hm];exact AU (by rw[AB (by omega) (by omega)];omega)
def CQ:Con:={ι:=Nat×Nat,pre:=λi=>i.2≠0/\nl i.1<=131072/\nl i.2<=131072,args:=λi=>[.one (cS (L i.1)),.one (cS (L i.2))],mono:=true,res:=λi=>⟨true,[none,none],[.view 3 [.int] (L (i.1/i.2)),.view 3 [.int] (L (i.1%i.2))]⟩}
theorem OP:CQ.Ok Tryz.prog 188:=by
 refine fok (X:=⟨tt,[(151,Ap),(205,Bc),(154,A2),(178,A3),(206,IL),(153,Aq),(190,B5)],[],71,[]⟩) mixed AG (CTok.cons IK (CTok.cons Hm (CTok.cons Ms (CTok.cons GT (CTok.cons Xz (CTok.cons Ei (CTok.cons OO (CTok.nil _)))))))) Tryz.func188 (λ(i:Nat×Nat)=>[(9,.mk 5 (Nat) (λx1=>{tm:=[(0,tX 1),(1,tX 2),(8,tX 3),(9,tX 4),(10,tI ((nI x1)-1))],en:=[(1,eV (L i.1)),(2,eV (L i.2)),(3,.own 3 [.int] (AF (AS (nl i.1) (hi (i.1/i.2) x1)))),(4,eV (L (i.1/BB^x1%i.2)))]}) (λx1=>x1<=nl i.1) (λx1=>x1) (λ_=>[]))]) ?_;rintro⟨a,b⟩ a0
 have a0:b≠0/\nl a<=131072/\nl b<=131072:=a0;refine AH (q:=let Z4:=nI ((L a).length);∃i1:Nat×Nat,[DA.one (cS (L a)),DA.one (cS (L b))]=Ap.args i1/\Ap.pre i1/\(ifB ((decide ((Br i1.1 i1.2)<(0:Int)))) ((([]:List (List Dat))=L (a/b))/\((L a)=L (a%b))) (ifB (((nI ((L b).length)) == (1:Int))) ((0<=(0:Int)/\(0:Int)<((L b).length:Int))/\((0<(L b).length)/\(∃i2:Nat×Nat,[DA.one (cS (L a)),DA.one (cI (((((L b).getD 0 []).getD 0 (.int 0))).n))]=Bc.args i2/\Bc.pre i2/\(∃i3:Nat,[DA.one (cI (nI (i2.1%i2.2)))]=A2.args i3/\A2.pre i3/\((L (i2.1/i2.2)=L (a/b))/\(L i3=L (a%b))))))) ((0<=Z4)/\((Z4<=Z4)/\((Z4<=1073741824)/\((∃x1:Nat,(x1<=nl a)/\((vI (wR (Z4-(1:Int)))=vI ((nI x1)-1))/\(rf (L a))/\(rf (L b))/\((List.replicate ((L a).length) [Dat.int (0:Int)])=(AF (AS (nl a) (hi (a/b) x1))))/\(([]:List (List Dat))=(L (a/BB^x1%b)))))/\∀x1:Nat,let Z6:=L (a/BB^x1%b);let Z3:=(nI x1)-1;let Z5:=((((L a).getD (Z3.toNat) []).getD 0 (.int 0))).n;let Z2:=AF (AS (nl a) (hi (a/b) x1));(x1<=nl a)->(ifB ((decide (Z3>=(0:Int)))) ((0<=Z3/\Z3<((L a).length:Int))/\((Z3.toNat<(L a).length)/\((([[Dat.int Z5]]:List (List Dat)).length+Z6.length<=2199023255552)/\(∃i4:(List Nat),let Z7:=cS (L (Ah i4));[DA.one (cS (([[Dat.int Z5]]:List (List Dat))++Z6))]=A3.args i4/\A3.pre i4/\(∃i5:Nat×Nat,[DA.one Z7,DA.one (cS (L b))]=Ap.args i5/\Ap.pre i5/\(ifB ((decide ((Br i5.1 i5.2)>=(0:Int)))) (∃i6:Nat×Nat,let Z1:=Z2.set (Z3.toNat) ((Z2.getD (Z3.toNat) []).set 0 (Dat.int (nI (i6.1/i6.2))));[DA.one Z7,DA.one (cS (L b))]=IL.args i6/\IL.pre i6/\((0<=Z3/\Z3<(Z2.length:Int))/\((Z3.toNat<Z2.length)/\((0<=Z3/\Z3<(Z1.length:Int))/\((Z3.toNat<Z1.length)/\(∃i7:Nat,[DA.one (cI ((((Z1.getD (Z3.toNat) []).getD 0 (.int 0))).n))]=A2.args i7/\A2.pre i7/\(∃i8:Nat×Nat,[DA.one (cS (L b)),DA.one (cS (L i7))]=Aq.args i8/\Aq.pre i8/\(∃i9:Nat×Nat,[DA.one Z7,DA.one (cS (L (i8.1*i8.2)))]=B5.args i9/\B5.pre i9/\(∃y2:Nat,(y2<=nl a)/\(y2<x1)/\((vI (wR (Z3-(1:Int)))=vI ((nI y2)-1))/\(rf (L a))/\(rf (L b))/\(Z1=(AF (AS (nl a) (hi (a/b) y2))))/\(L (i9.1-i9.2)=(L (a/BB^y2%b))))))))))))) (∃y3:Nat,(y3<=nl a)/\(y3<x1)/\((vI (wR (Z3-(1:Int)))=vI ((nI y3)-1))/\(rf (L a))/\(rf (L b))/\(Z2=(AF (AS (nl a) (hi (a/b) y3))))/\(L (Ah i4)=(L (a/BB^y3%b))))))))))) (∃a4:(List Nat),[DA.one (cS Z2)]=A3.args a4/\A3.pre a4/\((L (Ah a4)=L (a/b))/\(Z6=L (a%b)))))))))))) (by kernel_rfl) ?_;conv=>zeta
 delta ifB vI wR nI;have ha:=AJ a;have hb:=AJ b
 refine⟨(a,b),by
  rfl,by
  show nl a<=1048576/\nl b<=1048576;exact⟨by omega,by omega⟩,?_⟩
 refine⟨λc4=>?_,λc4=>?_⟩;simp only[nrm]at c4;refine⟨?_,?_⟩;rw[Nat.div_eq_of_lt (Dm.1 c4),Cj];rw[Nat.mod_eq_of_lt (Dm.1 c4)];simp only[nrm]at c4;refine⟨λc7=>?_,λc7=>?_⟩;simp only[nrm]at c7;have h1:=Hl (b:=b) (by omega);refine ao (by omega) λo8=>?_;refine ao (by omega) λo9=>?_
 refine⟨(a,b),by
  rw[L_n,h1.1];rfl,by
  show nl a<=1048576/\0<b/\b<BB;exact⟨by omega,by omega,h1.2.1⟩,?_⟩
 refine⟨(a%b),by
  rfl,by
  show(a%b)<=9223372036854775807;have:=Nat.mod_lt a (Nat.pos_of_ne_zero a0.1);have:=h1.2.1;unfold BB at this;omega,?_⟩
 exact⟨rfl,rfl⟩;simp only[nrm]at c7;have h2:2<=nl b:=by have:=Hi a0.1;omega
 have hba:b<=a:=E4.1 (by omega);refine ao (by omega) λo18=>?_;refine ao (by omega) λo19=>?_;refine ao (by omega) λo20=>?_;refine⟨⟨nl a,by omega,?_⟩,?_⟩;refine⟨?_,rfl,rfl,?_,?_⟩;rw[ha,AB (by omega) (by omega)];rw[ha,Lh (Nat.div_le_self _ _)];rw[PN b (C3 a),Cj];intro (j:Nat) a1;have a1:j<=nl a:=a1;have a7:(AF (AS (nl a) (hi (a/b) j))).length=nl a:=by rw[BJ,Ai]
 have hrl:=AJ (a/BB^j%b);have hrn:=F6 (a:=a/BB^j) a0.1;refine And.symm ⟨λa5=>?_,λa5=>?_⟩;simp only[nrm]at a5
 refine⟨(AS (nl a) (hi (a/b) j)),by
  rfl,by
  exact⟨by rw[Ai];omega,FP _ _⟩,?_⟩
 refine⟨?_,?_⟩;rw[show j=0 by omega];exact Xx (Nat.div_le_self _ _);rw[show j=0 by omega,Nat.pow_zero,Nat.div_one];simp only[nrm]at a5;have hj:((((j:Nat):Int)-1).toNat)=j-1:=by omega
 have hj1:j-1+1=j:=by omega
 have hs:=LK (a:=a) (j:=j-1) a0.1;have hq:=LL (a:=a) (j:=j-1) a0.1;rw[hj1]at hs hq;have hRn:=JZ hs;have hRb:(dgt a (j-1)+BB*(a/BB^j%b))/b<BB:=Nat.div_lt_of_lt_mul hs;have hRl:=F7 hRb;refine ao (by omega) λo29=>?_;refine ao (by omega) λo30=>?_;refine ao (by simp only[List.length_cons,List.length_nil];omega) λo31=>?_
 refine⟨(dgt a (j-1)::dig (a/BB^j%b)),by
  rw[hj,L_n];rfl,by
  exact⟨by show(dig _).length+1<=_;show nl _+1<=_;omega,LH (Bb _ _)⟩,?_⟩
 refine⟨(dgt a (j-1)+BB*(a/BB^j%b),b),by
  rw[E3];rfl,by
  show nl (dgt a (j-1)+BB*(a/BB^j%b))<=1048576/\nl b<=1048576;exact⟨by omega,by omega⟩,?_⟩
 refine And.symm ⟨λa3=>?_,λa3=>?_⟩;simp only[nrm]at a3;have a6:dgt a (j-1)+BB*(a/BB^j%b)<b:=Dm.1 (by omega);have hk:=Uc (q:=a/b) (i:=j-1) (by rw[← hq.1,Nat.div_eq_of_lt a6]);rw[hj1]at hk
 refine⟨j-1,by
  omega,by
  omega,?_⟩
 refine⟨?_,rfl,rfl,?_,?_⟩;rw[Cz (by omega) (by omega)];rw[hk];rw[E3,← hq.2,Nat.mod_eq_of_lt a6];simp only[nrm]at a3;have a2:(AF (AS (nl a) (hi (a/b) j))).set ((((j:Nat):Int)-1).toNat) (((AF (AS (nl a) (hi (a/b) j))).getD ((((j:Nat):Int)-1).toNat) []).set 0 (Dat.int (((dgt a (j-1)+BB*(a/BB^j%b))/b:Nat):Int)))=AF (AS (nl a) (hi (a/b) (j-1))):=by rw[hj];exact Li (by omega) (by omega) hq.1
 refine⟨(dgt a (j-1)+BB*(a/BB^j%b),b),by
  rw[E3];rfl,by
  show 2<=nl b/\b<=(dgt a (j-1)+BB*(a/BB^j%b))/\(dgt a (j-1)+BB*(a/BB^j%b))<b*BB/\nl b<=131072;exact⟨h2,E4.1 a3,hs,by omega⟩,?_⟩
 refine ao (by omega) λo42=>?_;refine ao (by omega) λo43=>?_;refine ao (by rw[List.length_set,a7];omega) λo44=>?_;refine ao (by omega) λo45=>?_
 refine⟨((dgt a (j-1)+BB*(a/BB^j%b))/b),by
  rw[a2,hj,PQ (by omega),ZH,← hq.1];rfl,by
  exact Nat.le_trans (Nat.le_of_lt hRb) (by decide),?_⟩
 refine⟨(b,((dgt a (j-1)+BB*(a/BB^j%b))/b)),by
  rfl,by
  show nl b<=524288/\nl ((dgt a (j-1)+BB*(a/BB^j%b))/b)<=524288;exact⟨by omega,by omega⟩,?_⟩
 refine⟨(dgt a (j-1)+BB*(a/BB^j%b),b*((dgt a (j-1)+BB*(a/BB^j%b))/b)),by
  rw[E3];rfl,by
  try dsimp only[B5]
  have:=As b ((dgt a (j-1)+BB*(a/BB^j%b))/b);exact⟨by omega,by omega,Nat.mul_div_le _ _⟩,?_⟩
 refine⟨j-1,by
  omega,by
  omega,?_⟩
 refine⟨?_,rfl,rfl,?_,?_⟩;rw[Cz (by omega) (by omega)];exact a2;rw[LJ,hq.2]
def GW:Con:={ι:=Nat×Nat,pre:=λi=>nl i.1<=131072/\nl i.2<=131072,args:=λi=>[.one (cS (L i.1)),.one (cS (L i.2))],mono:=true,res:=λi=>⟨false,[none],[.view 3 [.int] (L (i.1.gcd i.2))]⟩}
theorem Vw:GW.Ok Tryz.prog 187:=by
 refine fok (X:=⟨tt,[(188,CQ),(205,Bc)],[],44,[]⟩) mixed AG (CTok.cons OP (CTok.cons Hm (CTok.nil _))) Tryz.func187 (λ(i:Nat×Nat)=>[(8,.mk 1 (Nat×Nat) (λx3=>{tm:=[(9,tI (nI x3.1)),(8,tI (nI x3.2))],en:=[]}) (λx3=>x3.1.gcd x3.2=i.1.gcd i.2/\x3.1<BB/\0<x3.1/\x3.2<BB) (λx3=>x3.2) (λ_=>[])),(1,.mk 3 (Nat×Nat) (λx1=>{tm:=[(0,tX 1),(1,tX 2)],en:=[(1,eV (L x1.1)),(2,eV (L x1.2))]}) (λx1=>x1.1.gcd x1.2=i.1.gcd i.2/\nl x1.1<=131072/\nl x1.2<=131072) (λx1=>x1.2) (λ_=>[]))]) ?_;rintro⟨a,b⟩ a2;have a2:nl a<=131072/\nl b<=131072:=a2;refine AH (q:=(∃x1:Nat×Nat,(x1.1.gcd x1.2=a.gcd b/\nl x1.1<=131072/\nl x1.2<=131072)/\(((L a)=(L x1.1))/\((L b)=(L x1.2))))/\∀x1:Nat×Nat,let Z1:=(((L x1.2).getD 0 []).getD 0 (.int 0));(x1.1.gcd x1.2=a.gcd b/\nl x1.1<=131072/\nl x1.2<=131072)->(ifB ((decide ((nI ((L x1.2).length))>(1:Int)))) (∃i1:Nat×Nat,[DA.one (cS (L x1.1)),DA.one (cS (L x1.2))]=CQ.args i1/\CQ.pre i1/\(∃y2:Nat×Nat,(y2.1.gcd y2.2=a.gcd b/\nl y2.1<=131072/\nl y2.2<=131072)/\(y2.2<x1.2)/\(((L x1.2)=(L y2.1))/\(L (i1.1%i1.2)=(L y2.2))))) (ifB (((nI ((L x1.2).length)) == (0:Int))) (((L x1.1)=L (a.gcd b))) ((0<=(0:Int)/\(0:Int)<((L x1.2).length:Int))/\((0<(L x1.2).length)/\(∃i2:Nat×Nat,[DA.one (cS (L x1.1)),DA.one (cI (Z1.n))]=Bc.args i2/\Bc.pre i2/\((0<=(0:Int)/\(0:Int)<((L x1.2).length:Int))/\((0<(L x1.2).length)/\((∃x3:Nat×Nat,(x3.1.gcd x3.2=a.gcd b/\x3.1<BB/\0<x3.1/\x3.2<BB)/\((vI Z1.n=vI (nI x3.1))/\(vI (nI (i2.1%i2.2))=vI (nI x3.2))))/\∀x3:Nat×Nat,(x3.1.gcd x3.2=a.gcd b/\x3.1<BB/\0<x3.1/\x3.2<BB)->(ifB ((decide ((nI x3.2)>(0:Int)))) (((nI x3.2)≠0)/\(∃y4:Nat×Nat,(y4.1.gcd y4.2=a.gcd b/\y4.1<BB/\0<y4.1/\y4.2<BB)/\(y4.2<x3.2)/\((vI (nI x3.2)=vI (nI y4.1))/\(vI (Int.tmod (nI x3.1) (nI x3.2))=vI (nI y4.2))))) ((([[Dat.int (nI x3.1)]]:List (List Dat))=L (a.gcd b))))))))))))) (by kernel_rfl) ?_;conv=>zeta
 delta ifB vI nI;refine⟨⟨(a,b),by exact⟨rfl,a2.1,a2.2⟩,?_⟩,?_⟩;exact⟨rfl,rfl⟩;rintro⟨x,y⟩ a1;have a1:x.gcd y=a.gcd b/\nl x<=131072/\nl y<=131072:=a1;have hy:=AJ y;have hy0:y≠0<->0<nl y:=⟨Hi,λh e=>by rw[e,CP]at h;omega⟩;refine⟨λc5=>?_,λc5=>?_⟩;simp only[nrm]at c5;have a3:y≠0:=hy0.2 (by omega)
 refine⟨(x,y),by
  rfl,by
  exact⟨a3,a1.2.1,a1.2.2⟩,?_⟩
 refine⟨(y,x%y),by
  exact⟨(F8 x y).trans a1.1,a1.2.2,Nat.le_trans (F6 a3) a1.2.2⟩,by
  exact Nat.mod_lt _ (Nat.pos_of_ne_zero a3),?_⟩
 exact⟨rfl,rfl⟩;simp only[nrm]at c5;refine⟨λa4=>?_,λa4=>?_⟩;simp only[nrm]at a4;have h0:y=0:=Ck.1 (by omega);subst h0;rw[← a1.1,Nat.gcd_zero_right];simp only[nrm]at a4;have h1:=Hl (b:=y) (by omega);refine ao (by dsimp only;omega) λo16=>?_;refine ao (by omega) λo17=>?_
 refine⟨(x,y),by
  rw[L_n,h1.1];rfl,by
  exact⟨by omega,h1.2.2,h1.2.1⟩,?_⟩
 refine ao (by omega) λo21=>?_;refine ao (by omega) λo22=>?_;refine⟨⟨(y,x%y),by exact⟨(F8 x y).trans a1.1,h1.2.1,h1.2.2,Nat.lt_trans (Nat.mod_lt _ h1.2.2) h1.2.1⟩,?_⟩,?_⟩;refine⟨?_,?_⟩;rw[L_n,h1.1];rfl;rintro⟨n,r⟩ a0;have a0:n.gcd r=a.gcd b/\n<BB/\0<n/\r<BB:=a0;refine And.symm ⟨λa5=>?_,λa5=>?_⟩;simp only[nrm]at a5;have hr0:r=0:=by omega
 subst hr0;rw[← a0.1,Nat.gcd_zero_right];exact Xy a0.2.2.1 a0.2.1;simp only[nrm]at a5;refine ao (by omega) λo28=>?_
 refine⟨(r,n%r),by
  have hr0:0<r:=by omega
  exact⟨(F8 n r).trans a0.1,a0.2.2.2,hr0,Nat.lt_trans (Nat.mod_lt _ hr0) a0.2.2.2⟩,by
  exact Nat.mod_lt _ (by omega),?_⟩
 refine⟨rfl,?_⟩;rfl
end Go.Proofs.YthoidhehmmcgnaaGreat
