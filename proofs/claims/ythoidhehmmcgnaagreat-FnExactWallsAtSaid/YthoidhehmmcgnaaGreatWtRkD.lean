import Derived.Test.YthoidhehmmcgnaaGreatWtRkC
namespace Go.Proofs.YthoidhehmmcgnaaGreat
set_option maxRecDepth 100000
set_option linter.unusedVariables false
set_option linter.unusedSimpArgs false
open Go.RowKit
theorem ZI{x:Int}(h:0<=x/\x<=999999999):inB x=true:=by unfold inB;rw[decide_eq_true h.1,decide_eq_true h.2];rfl
theorem AA4{x:Int}(h:x<0\/999999999<x):inB x=false:=by unfold inB;rcases h with h|h;rw[decide_eq_false (show ¬0<=x by omega)];rfl;rw[decide_eq_false (show ¬x<=999999999 by omega),Bool.and_false]
theorem X4{l:List (List Dat)}(h:∀j,j<l.length->inB (rn (l.getD j []))=true):(l.any λr=>!(inB (rn r)))=false:=by rw[List.any_eq_false];intro r hr;obtain⟨k,hk,rfl⟩:=List.getElem_of_mem hr;have:=h k hk;rw[List.getD,List.getElem?_eq_getElem hk]at this;simp only[Option.getD_some]at this;rw[this];simp
theorem S8{l:List (List Dat)}{k:Nat}(hk:k<l.length)(h:inB (rn (l.getD k []))=false):BG l=false:=by apply Mz;rw[List.any_eq_true];refine⟨l[k],List.getElem_mem hk,?_⟩;rw[List.getD,List.getElem?_eq_getElem hk]at h;simp only[Option.getD_some]at h;rw[h];rfl
theorem ZJ:dig 9223372036854775807=[854775807,223372036,9]:=by rw[CO (by decide),CO (by decide),CO (by decide),show 9223372036854775807/BB/BB/BB=0 from by decide,Bv];rfl
theorem ZK:dig 9223372036854775808=[854775808,223372036,9]:=by rw[CO (by decide),CO (by decide),CO (by decide),show 9223372036854775808/BB/BB/BB=0 from by decide,Bv];rfl
theorem ACt:[[Dat.int (854775807:Int)],[Dat.int (223372036:Int)],[Dat.int (9:Int)]]=L 9223372036854775807:=by unfold L;rw[ZJ];rfl
theorem ACu:[[Dat.int (854775808:Int)],[Dat.int (223372036:Int)],[Dat.int (9:Int)]]=L 9223372036854775808:=by unfold L;rw[ZK];rfl
theorem Hn{n:Nat}(h:(L n).length=0):n=0:=Ck.1 (by rw[← AJ];exact h)
theorem S9{a b i:Nat} : a%BB^i*b<BB^(i+nl b):=by rw[Nat.pow_add];exact Nat.mul_lt_mul'' (Nat.mod_lt _ (BBp i)) (C3 b)
theorem AA5{V p d N:Nat}(hp:p<N)(hV:V<BB^N)(hd:d<BB):V-dgt V p*BB^p+d*BB^p<BB^N:=by
 have e1:=F3 V p;have e2:=Nat.div_add_mod V (BB^(p+1));have eN:BB^N=BB^(p+1)*BB^(N-p-1):=by rw[← Nat.pow_add];congr 1;omega
 have hQ:V/BB^(p+1)<BB^(N-p-1):=Nat.div_lt_of_lt_mul (by rw[← eN];exact hV);have h1:BB^(p+1)*(V/BB^(p+1)+1)<=BB^N:=by rw[eN];exact Nat.mul_le_mul_left _ hQ
 have hr:=Nat.mod_lt V (BBp p);have h2:(d+1)*BB^p<=BB^(p+1):=by rw[Nat.pow_succ,Nat.mul_comm (BB^p)];exact Nat.mul_le_mul_right _ hd
 rw[Nat.add_mul,Nat.one_mul]at h2;rw[Nat.mul_add,Nat.mul_one]at h1;rw[Nat.mul_comm (BB^p)]at e1;generalize V%BB^p=r at *;generalize V/BB^(p+1)=q at *;generalize V%BB^(p+1)=s at *;omega
def B7:Con:={ι:=(List (List Dat)),pre:=λi=>i.length<=9223372036854775807,args:=λi=>[.one (cS i)],res:=λi=>⟨false,[none],[rcB (BG i)]⟩}
theorem KQ:B7.Ok Tryz.prog 131:=by
 refine fok (X:=⟨tt,[(46,Ca)],[],32,[]⟩) mixed AG (CTok.cons Mi (CTok.nil _)) Tryz.func131 (λ(i:(List (List Dat)))=>[(2,.mk 2 (Nat) (λx1=>{tm:=[(0,tX 1),(5,tX 1),(6,tI (nI i.length)),(7,tI (nI x1))],en:=[(1,eV i)]}) (λx1=>x1<=i.length/\∀j,j<x1->inB (rn (i.getD j []))=true) (λx1=>i.length-x1) (λ_=>[]))]) ?_;intro (l:List (List Dat)) a1;have a1:l.length<=9223372036854775807:=a1;refine AH (q:=let Z3:=(vB false=vB (BG l));let Z2:=nI l.length;let Z1:=wR (Z2-(1:Int));(∃x1:Nat,(x1<=l.length/\∀j,j<x1->inB (rn (l.getD j []))=true)/\((rf (vI Z2))/\(vI (0:Int)=vI (nI x1))/\(rf (l))))/\∀x1:Nat,(x1<=l.length/\∀j,j<x1->inB (rn (l.getD j []))=true)->(ifB ((decide ((nI x1)<Z2))) ((0<=(nI x1)/\(nI x1)<(l.length:Int))/\((x1<l.length)/\(∃i1:Int×Int×Int,[DA.one (cI ((((l.getD x1 []).getD 0 (.int 0))).n)),DA.one (cI (0:Int)),DA.one (cI (999999999:Int))]=Ca.args i1/\Ca.pre i1/\(ifB ((!(decide (i1.1>=i1.2.1) && decide (i1.1<=i1.2.2)))) Z3 (∃y2:Nat,(y2<=l.length/\∀j,j<y2->inB (rn (l.getD j []))=true)/\(l.length-y2<l.length-x1)/\((rf (vI Z2))/\(vI (wR ((nI x1)+(1:Int)))=vI (nI y2))/\(rf (l)))))))) (ifB ((decide (Z2<=(60:Int)))) (ifB ((!(Z2 == (0:Int)))) ((0<=Z1/\Z1<(l.length:Int))/\((Z1.toNat<l.length)/\((vB ((((l.getD (Z1.toNat) []).getD 0 (.int 0))).n != (0:Int))=vB (BG l))))) ((vB true=vB (BG l)))) Z3))) (by kernel_rfl) ?_;conv=>zeta
 delta ifB vB vI wR nI;refine⟨⟨0,by exact⟨Nat.zero_le _,λj hj=>absurd hj (Nat.not_lt_zero j)⟩,?_⟩,?_⟩;refine⟨rfl,?_,rfl⟩;rfl;intro (k:Nat) a0;have a0:k<=l.length/\∀j,j<k->inB (rn (l.getD j []))=true:=a0;refine⟨λc6=>?_,λc6=>?_⟩;simp only[nrm]at c6;refine ao (by omega) λo7=>?_;refine ao (by omega) λo8=>?_
 refine⟨((((l.getD k []).getD 0 (.int 0))).n,(0:Int),(999999999:Int)),by
  rfl,by
  trivial,?_⟩
 refine⟨λa2=>?_,λa2=>?_⟩;simp only[nrm]at a2;have hE:=S8 o8 (AA4 a2);rw[hE];simp only[nrm]at a2
 refine⟨k+1,by
  exact⟨by omega,JQ a0.2 (ZI a2)⟩,by
  omega,?_⟩
 refine⟨rfl,?_,rfl⟩;exact AU (AB (by omega) (by omega));simp only[nrm]at c6;have a3:=X4 (l:=l) (λj hj=>a0.2 j (by omega));refine And.symm ⟨λa4=>?_,λa4=>?_⟩;simp only[nrm]at a4;have hE:=My (l:=l) (by omega);rw[hE];simp only[nrm]at a4;refine And.symm ⟨λa5=>?_,λa5=>?_⟩;simp only[nrm]at a5;have hE:=M0 (l:=l) (by omega);rw[hE];simp only[nrm]at a5;have hE:=LM (l:=l) (by omega) a3 (by omega);have hw:(IntKind.i64.wrap (((l.length:Nat):Int)-(1:Int)))=((l.length-1:Nat):Int):=by rw[AB (by omega) (by omega)];omega
 refine ao (by omega) λo22=>?_;refine ao (by omega) λo23=>?_;rw[hw,Int.toNat_natCast,hE];rfl
def Ab:Con:={ι:=(List Nat)×Nat,pre:=λi=>i.1.length<=1048576/\(∀q ∈ i.1,q<BB)/\Ah i.1=i.2,args:=λi=>[.one (cS (AF i.1))],res:=λi=>⟨false,[none],[.view 3 [.int] (L i.2)]⟩}
theorem D4:Ab.Ok Tryz.prog 157:=by
 refine fok (X:=⟨tt,[],[],21,[]⟩) mixed AG (CTok.nil _) Tryz.func157 (λ(i:(List Nat)×Nat)=>[(2,.mk 2 (Nat) (λx1=>{tm:=[(0,tX 1),(3,tI (nI x1))],en:=[(1,eV (AF i.1))]}) (λx1=>x1<=i.1.length/\Ah (i.1.take x1)=Ah i.1) (λx1=>x1) (λ_=>[]))]) ?_;rintro⟨l,n⟩ a1;have a1:l.length<=1048576/\(∀q ∈ l,q<BB)/\Ah l=n:=a1;refine AH (q:=let Z3:=((AF l).length:Int);(∃x1:Nat,(x1<=l.length/\Ah (l.take x1)=Ah l)/\((vI (nI ((AF l).length))=vI (nI x1))/\(rf (AF l))))/\∀x1:Nat,let Z2:=wR ((nI x1)-(1:Int));let Z1:=(Nat.beq 1 1=true)/\((0<=(0:Int))/\(((0:Int)<=(nI x1))/\(((nI x1)<=Z3)/\((((AF l).take x1)=L n)))));(x1<=l.length/\Ah (l.take x1)=Ah l)->(ifB ((decide ((nI x1)>(0:Int)))) ((0<=Z2/\Z2<Z3)/\((Z2.toNat<(AF l).length)/\(ifB ((((((AF l).getD (Z2.toNat) []).getD 0 (.int 0))).n == (0:Int))) (∃y2:Nat,(y2<=l.length/\Ah (l.take y2)=Ah l)/\(y2<x1)/\((vI Z2=vI (nI y2))/\(rf (AF l)))) Z1))) Z1)) (by kernel_rfl) ?_;conv=>zeta
 delta ifB vI wR nI;have hl:=BJ l;refine⟨⟨l.length,by exact⟨Nat.le_refl _,by rw[List.take_length]⟩,?_⟩,?_⟩;refine⟨?_,rfl⟩;rw[hl];intro (k:Nat) a0;have a0:k<=l.length/\Ah (l.take k)=Ah l:=a0;have hw:k≠0->IntKind.i64.wrap ((k:Int)-(1:Int))=((k-1:Nat):Int):=λh=>by rw[AB (by omega) (by omega)];omega
 refine And.symm ⟨λc5=>?_,λc5=>?_⟩;simp only[nrm]at c5;refine ao (by rfl) λo19=>?_;refine ao (by omega) λo20=>?_;refine ao (by omega) λo21=>?_;refine ao (by omega) λo22=>?_;rw[← a1.2.2];exact JR a1.2.1 a0.1 a0.2 (.inl (by omega));simp only[nrm]at c5;refine ao (by omega) λo6=>?_;refine ao (by omega) λo7=>?_;refine⟨λc8=>?_,λc8=>?_⟩;simp only[nrm]at c8;rw[hw (by omega),Int.toNat_natCast,JP]at c8
 refine⟨k-1,by
  exact⟨by omega,(OK (by omega) (by omega) (by exact_mod_cast c8)).trans a0.2⟩,by
  omega,?_⟩
 refine⟨?_,rfl⟩;rw[hw (by omega)];simp only[nrm]at c8;rw[hw (by omega),Int.toNat_natCast,JP]at c8;refine ao (by rfl) λo14=>?_;refine ao (by omega) λo15=>?_;refine ao (by omega) λo16=>?_;refine ao (by omega) λo17=>?_;rw[← a1.2.2];exact JR a1.2.1 a0.1 a0.2 (.inr (by exact_mod_cast c8))
def Gf:Con:={ι:=Nat,pre:=λi=>nl i<=60,args:=λi=>[.one (cS (L i))],res:=λi=>⟨false,[none],[.view 3 [.int] (L i)]⟩}
theorem V6:Gf.Ok Tryz.prog 156:=by
 refine fok (X:=⟨tt,[(157,Ab)],[],10,[]⟩) mixed AG (CTok.cons D4 (CTok.nil _)) Tryz.func156 (λ_=>[]) ?_;intro (n:Nat) a0;have a0:nl n<=60:=a0;refine AH (q:=∃i1:(List Nat)×Nat,[DA.one (cS (L n))]=Ab.args i1/\Ab.pre i1/\(ifB ((decide ((nI ((L i1.2).length))>(60:Int)))) ((([]:List (List Dat))=L n)) ((L i1.2=L n)))) (by kernel_rfl) ?_;delta ifB nI
 refine⟨(dig n,n),by
  rfl,by
  exact⟨by show nl _<=_;omega,Mj _,Fz _⟩,?_⟩
 refine⟨λc4=>?_,λc4=>?_⟩;simp only[nrm]at c4;exfalso;rw[AJ]at c4;omega;simp only[nrm]at c4;exact rfl
def A7:Con:={ι:=Nat,pre:=λi=>i<=9223372036854775807,args:=λi=>[.one (cI ((i:Nat):Int))],res:=λi=>⟨false,[none],[.own 3 [.int] (L i)]⟩}
theorem IO:A7.Ok Tryz.prog 123:=by
 refine fok (X:=⟨tt,[],[],15,[]⟩) mixed AG (CTok.nil _) Tryz.func123 (λ(i:Nat)=>[(2,.mk 2 (Nat×(List Nat)) (λx1=>{tm:=[(0,tI (nI x1.1)),(3,tX 1)],en:=[(1,.own 3 [.int] (AF x1.2))]}) (λx1=>x1.2++dig x1.1=dig i/\x1.1<=i) (λx1=>x1.1) (λ_=>[]))]) ?_;intro (n:Nat) a1;have a1:n<=9223372036854775807:=a1;refine AH (q:=let Z2:=(1000000000:Int)≠0;(∃x1:Nat×(List Nat),(x1.2++dig x1.1=dig n/\x1.1<=n)/\((vI (nI n)=vI (nI x1.1))/\(([]:List (List Dat))=(AF x1.2))))/\∀x1:Nat×(List Nat),let Z3:=AF x1.2;let Z1:=Int.tmod (nI x1.1) (1000000000:Int);(x1.2++dig x1.1=dig n/\x1.1<=n)->(ifB ((decide ((nI x1.1)>(0:Int)))) (Z2/\((Z3.length+([[Dat.int Z1]]:List (List Dat)).length<=2199023255552)/\(Z2/\(∃y2:Nat×(List Nat),(y2.2++dig y2.1=dig n/\y2.1<=n)/\(y2.1<x1.1)/\((vI (wR (Int.tdiv (nI x1.1) (1000000000:Int)))=vI (nI y2.1))/\((Z3++([[Dat.int Z1]]:List (List Dat)))=(AF y2.2))))))) ((Z3=L n)))) (by kernel_rfl) ?_;conv=>zeta
 delta ifB vI wR nI;refine⟨⟨(n,[]),by exact⟨rfl,Nat.le_refl _⟩,?_⟩,?_⟩;refine⟨rfl,?_⟩;rfl;rintro⟨m,o⟩ a0;have a0:o++dig m=dig n/\m<=n:=a0;have hol:o.length<=64:=by have h1:=congrArg List.length a0.1;rw[List.length_append]at h1;have h2:nl n<=64:=(Di _ _).2 (Nat.lt_of_le_of_lt a1 (by decide));unfold nl at h2;omega
 have hrl:=BJ o;refine And.symm ⟨λc5=>?_,λc5=>?_⟩;simp only[nrm]at c5;have hm:m=0:=by omega
 rw[← Q7 (by rw[← a0.1,hm,Bv,List.append_nil])];simp only[nrm]at c5;refine ao (by omega) λo6=>?_;refine ao (by simp only[List.length_cons,List.length_nil];omega) λo7=>?_;refine ao (by omega) λo8=>?_
 refine⟨(m/BB,o++[m%BB]),by
  refine⟨?_,Nat.le_trans (Nat.div_le_self _ _) a0.2⟩;rw[← a0.1,CO (n:=m) (by omega),List.append_assoc];rfl,by
  exact Nat.div_lt_self (by omega) (by decide),?_⟩
 refine⟨?_,?_⟩;rw[DU,Bk (Nat.le_trans (Nat.div_le_self _ _) (by omega))];exact Ak _ _
def AW:Con:={ι:=Nat×Nat,pre:=λi=>nl i.1<=1048576/\nl i.2<=1048576,args:=λi=>[.one (cS (L i.1)),.one (cS (L i.2))],res:=λi=>⟨false,[none],[rcI (Br i.1 i.2)]⟩}
theorem GB:AW.Ok Tryz.prog 163:=by
 refine fok (X:=⟨tt,[],[],41,[]⟩) mixed AG (CTok.nil _) Tryz.func163 (λ(i:Nat×Nat)=>[(6,.mk 3 (Nat) (λx1=>{tm:=[(0,tX 1),(1,tX 2),(5,tI ((nI x1)-1))],en:=[(1,eV (L i.1)),(2,eV (L i.2))]}) (λx1=>x1<=nl i.1/\nl i.1=nl i.2/\i.1/BB^x1=i.2/BB^x1) (λx1=>x1) (λ_=>[]))]) ?_;rintro⟨a,b⟩ a1;have a1:nl a<=1048576/\nl b<=1048576:=a1;refine AH (q:=let Z6:=(vI (1:Int)=vI (Br a b));let Z5:=(vI (-1:Int)=vI (Br a b));let Z4:=nI ((L a).length);ifB ((Z4 != (nI ((L b).length)))) (ifB ((decide (Z4<(nI ((L b).length))))) Z5 Z6) ((∃x1:Nat,(x1<=nl a/\nl a=nl b/\a/BB^x1=b/BB^x1)/\((vI (wR (Z4-(1:Int)))=vI ((nI x1)-1))/\(rf (L a))/\(rf (L b))))/\∀x1:Nat,let Z1:=(nI x1)-1;let Z8:=Z1.toNat<(L b).length;let Z7:=Z1.toNat<(L a).length;let Z3:=(((L b).getD (Z1.toNat) []).getD 0 (.int 0));let Z2:=(((L a).getD (Z1.toNat) []).getD 0 (.int 0));(x1<=nl a/\nl a=nl b/\a/BB^x1=b/BB^x1)->(ifB ((decide (Z1>=(0:Int)))) ((0<=Z1/\Z1<((L a).length:Int))/\(Z7/\((0<=Z1/\Z1<((L b).length:Int))/\(Z8/\(ifB ((decide (Z2.n<Z3.n))) Z5 ((0<=Z1/\Z1<((L a).length:Int))/\(Z7/\((0<=Z1/\Z1<((L b).length:Int))/\(Z8/\(ifB ((decide (Z2.n>Z3.n))) Z6 (∃y2:Nat,(y2<=nl a/\nl a=nl b/\a/BB^y2=b/BB^y2)/\(y2<x1)/\((vI (wR (Z1-(1:Int)))=vI ((nI y2)-1))/\(rf (L a))/\(rf (L b)))))))))))))) ((vI (0:Int)=vI (Br a b)))))) (by kernel_rfl) ?_;conv=>zeta
 delta ifB vI wR nI;have ha:=AJ a;have hb:=AJ b;refine⟨λc1=>?_,λc1=>?_⟩;simp only[nrm]at c1;refine⟨λc2=>?_,λc2=>?_⟩;simp only[nrm]at c2;rw[Ld (JO (by omega))];simp only[nrm]at c2;rw[Le (JO (by omega))];simp only[nrm]at c1;refine⟨⟨nl a,by exact⟨Nat.le_refl _,by omega,by rw[Nat.div_eq_of_lt (C3 a),show nl a=nl b by omega,Nat.div_eq_of_lt (C3 b)]⟩,?_⟩,?_⟩;refine⟨?_,rfl,rfl⟩;rw[ha,AB (by omega) (by omega)];intro (j:Nat) a0;have a0:j<=nl a/\nl a=nl b/\a/BB^j=b/BB^j:=a0;refine And.symm ⟨λa4=>?_,λa4=>?_⟩;simp only[nrm]at a4;have hj0:j=0:=by omega
 subst hj0;have e:=a0.2.2;rw[Nat.pow_zero,Nat.div_one,Nat.div_one]at e;rw[e,UV];simp only[nrm]at a4;have hj:((((j:Nat):Int)-1).toNat)=j-1:=by omega
 have hj1:j-1+1=j:=by omega
 have he:a/BB^(j-1+1)=b/BB^(j-1+1):=by rw[hj1];exact a0.2.2
 refine ao (by omega) λo11=>?_;refine ao (by omega) λo12=>?_;refine ao (by omega) λo13=>?_;refine ao (by omega) λo14=>?_;refine⟨λa2=>?_,λa2=>?_⟩;simp only[nrm]at a2;rw[hj,L_n,L_n]at a2;rw[Ld (ID (k:=j-1) he (by omega))];simp only[nrm]at a2;rw[hj,L_n,L_n]at a2;refine ao (by omega) λo17=>?_;refine ao (by omega) λo18=>?_;refine ao (by omega) λo19=>?_;refine ao (by omega) λo20=>?_;refine⟨λa3=>?_,λa3=>?_⟩;simp only[nrm]at a3;rw[hj,L_n,L_n]at a3;rw[Le (ID (k:=j-1) he.symm (by omega))];simp only[nrm]at a3;rw[hj,L_n,L_n]at a3
 refine⟨j-1,by
  exact⟨by omega,a0.2.1,UP (k:=j-1) he (by omega)⟩,by
  omega,?_⟩
 refine⟨?_,rfl,rfl⟩;rw[Cz (by omega) (by omega)]
def C2:Con:={ι:=Nat,pre:=λi=>nl i<=2,args:=λi=>[.one (cS (L i))],res:=λi=>⟨true,[none,none],[rcI ((i:Nat):Int),rcB true]⟩}
theorem RH:C2.Ok Tryz.prog 161:=by
 refine fok (X:=⟨tt,[(131,B7),(163,AW)],[],30,[]⟩) mixed AG (CTok.cons KQ (CTok.cons GB (CTok.nil _))) Tryz.func161 (λ(i:Nat)=>[(5,.mk 2 (Nat) (λx1=>{tm:=[(0,tX 1),(4,tI (nI (i/BB^x1))),(5,tI ((nI x1)-1))],en:=[(1,eV (L i))]}) (λx1=>x1<=nl i) (λx1=>x1) (λ_=>[]))]) ?_;intro (a:Nat) a1;have a1:nl a<=2:=a1;refine AH (q:=let Z2:=(vI (0:Int)=vI (nI a))/\(vB false=vB true);∃i1:(List (List Dat)),[DA.one (cS (L a))]=B7.args i1/\B7.pre i1/\(ifB ((!(!(BG i1)))) (∃i2:Nat×Nat,[DA.one (cS (L a)),DA.one (cS ([[Dat.int (854775807:Int)],[Dat.int (223372036:Int)],[Dat.int (9:Int)]]:List (List Dat)))]=AW.args i2/\AW.pre i2/\(ifB ((decide ((Br i2.1 i2.2)>(0:Int)))) Z2 ((∃x1:Nat,(x1<=nl a)/\((vI (0:Int)=vI (nI (a/BB^x1)))/\(vI (wR ((nI ((L a).length))-(1:Int)))=vI ((nI x1)-1))/\(rf (L a))))/\∀x1:Nat,let Z1:=(nI x1)-1;(x1<=nl a)->(ifB ((decide (Z1>=(0:Int)))) ((0<=Z1/\Z1<((L a).length:Int))/\((Z1.toNat<(L a).length)/\(∃y2:Nat,(y2<=nl a)/\(y2<x1)/\((vI (wR ((wR ((nI (a/BB^x1))*(1000000000:Int)))+((((L a).getD (Z1.toNat) []).getD 0 (.int 0))).n))=vI (nI (a/BB^y2)))/\(vI (wR (Z1-(1:Int)))=vI ((nI y2)-1))/\(rf (L a)))))) ((vI (nI (a/BB^x1))=vI (nI a))/\(vB true=vB true)))))) Z2)) (by kernel_rfl) ?_;conv=>zeta
 delta ifB vB vI wR nI;have ha:=AJ a;have a3:a<BB^2:=GU a1
 refine⟨(L a),by
  rfl,by
  show(L a).length<=9223372036854775807;omega,?_⟩
 refine And.symm ⟨λc4=>?_,λc4=>?_⟩;simp only[nrm]at c4;exfalso;rw[Mo,decide_eq_true (by omega)]at c4;cases c4;simp only[nrm]at c4
 refine⟨(a,9223372036854775807),by
  rw[ACt];rfl,by
  show nl a<=1048576/\nl 9223372036854775807<=1048576;exact⟨by omega,Nat.le_trans ((Di 3 _).2 (by decide)) (by decide)⟩,?_⟩
 refine⟨λc8=>?_,λc8=>?_⟩;simp only[nrm]at c8;exfalso;have:=Hk.2 (show a<=9223372036854775807 from Nat.le_of_lt (Nat.lt_trans a3 (by decide)));omega;simp only[nrm]at c8;refine⟨⟨nl a,by omega,?_⟩,?_⟩;refine⟨?_,?_,rfl⟩;rw[Nat.div_eq_of_lt (C3 a)];rfl;rw[ha,AB (by omega) (by omega)];intro (j:Nat) a0;have a0:j<=nl a:=a0;refine And.symm ⟨λa2=>?_,λa2=>?_⟩;simp only[nrm]at a2;refine⟨?_,rfl⟩;rw[show j=0 by omega,Nat.pow_zero,Nat.div_one];simp only[nrm]at a2;have hj:((((j:Nat):Int)-1).toNat)=j-1:=by omega
 have hj1:j-1+1=j:=by omega
 have hd:=Bf a (j-1);rw[hj1]at hd;have hr:a/BB^j<BB:=Nat.div_lt_of_lt_mul (Nat.lt_of_lt_of_le a3 (by rw[← Nat.pow_succ];exact Nat.pow_le_pow_right Dg (by omega)));refine ao (by omega) λo17=>?_;refine ao (by omega) λo18=>?_
 refine⟨j-1,by
  omega,by
  omega,?_⟩
 refine⟨?_,?_,rfl⟩;rw[hj,L_n,KN hr (Bb _ _),← hd];rw[Cz (by omega) (by omega)]
def Gg:Con:={ι:=Nat×Nat,pre:=λi=>nl i.1<=1048576/\nl i.2<=1048576,args:=λi=>[.one (cS (L i.1)),.one (cS (L i.2))],res:=λi=>⟨false,[none],[.own 3 [.int] (L (i.1+i.2))]⟩}
set_option maxHeartbeats 1600000 in
theorem V7:Gg.Ok Tryz.prog 182:=by
 refine fok (X:=⟨tt,[],[],55,[]⟩) mixed AG (CTok.nil _) Tryz.func182 (λ(i:Nat×Nat)=>[(4,.mk 4 (Nat) (λx1=>{tm:=[(0,tX 1),(1,tX 2),(5,tX 3),(6,tI (nI (BC i.1 i.2 x1))),(7,tI (nI x1))],en:=[(1,eV (L i.1)),(2,eV (L i.2)),(3,.own 3 [.int] (AF (AS x1 (i.1+i.2))))]}) (λx1=>x1<=max (nl i.1) (nl i.2)+1/\(x1=0\/BB^(x1-1)<=i.1+i.2)) (λx1=>max (nl i.1) (nl i.2)+2-x1) (λ_=>[]))]) ?_;rintro⟨a,b⟩ aC;have aC:nl a<=1048576/\nl b<=1048576:=aC
 refine AH (q:=let aE:=((L a).length:Int);let a0:=List Dat;let a9:=((L b).length:Int);let Z4:=(1000000000:Int)≠0;(∃x1:Nat,(x1<=max (nl a) (nl b)+1/\(x1=0\/BB^(x1-1)<=a+b))/\((vI (0:Int)=vI (nI (BC a b x1)))/\(vI (0:Int)=vI (nI x1))/\(rf (L a))/\(rf (L b))/\(([]:List a0)=(AF (AS x1 (a+b))))))/\∀x1:Nat,let aF:=x1<(L a).length;let aA:=x1<(L b).length;let aD:=decide ((nI x1)<(nI ((L a).length)));let aB:=nI (BC a b x1);let aX:=Int.tmod aB (1000000000:Int);let aG:=wR (Int.tdiv aB (1000000000:Int));let Z9:=decide ((nI x1)<(nI ((L b).length)));let Z6:=wR ((nI x1)+(1:Int));let Z3:=AF (AS x1 (a+b));let aH:=Z3++([[Dat.int aX]]:List a0);let Z7:=Z3.length+([[Dat.int aX]]:List a0).length<=2199023255552;let Z2:=(((L b).getD x1 []).getD 0 (.int 0));let aI:=wR (Int.tdiv (wR (aB+Z2.n)) (1000000000:Int));let Z5:=Int.tmod (wR (aB+Z2.n)) (1000000000:Int);let aJ:=Z3++([[Dat.int Z5]]:List a0);let aK:=Z3.length+([[Dat.int Z5]]:List a0).length<=2199023255552;let Z1:=wR (aB+((((L a).getD x1 []).getD 0 (.int 0))).n);let aY:=Int.tmod Z1 (1000000000:Int);let aZ:=Int.tmod (wR (Z1+Z2.n)) (1000000000:Int);let aL:=wR (Int.tdiv Z1 (1000000000:Int));let aM:=wR (Int.tdiv (wR (Z1+Z2.n)) (1000000000:Int));let aN:=Z3++([[Dat.int aY]]:List a0);let aO:=Z3++([[Dat.int aZ]]:List a0);let aP:=Z3.length+([[Dat.int aY]]:List a0).length<=2199023255552;let Z8:=Z3.length+([[Dat.int aZ]]:List a0).length<=2199023255552;(x1<=max (nl a) (nl b)+1/\(x1=0\/BB^(x1-1)<=a+b))->(ifB ((!aD)) (ifB ((!Z9)) (ifB ((decide (aB>(0:Int)))) (ifB (aD) ((0<=(nI x1)/\(nI x1)<aE)/\(aF/\(ifB (Z9) ((0<=(nI x1)/\(nI x1)<a9)/\(aA/\(Z4/\(Z8/\(Z4/\(∃y2:Nat,(y2<=max (nl a) (nl b)+1/\(y2=0\/BB^(y2-1)<=a+b))/\(max (nl a) (nl b)+2-y2<max (nl a) (nl b)+2-x1)/\((vI aM=vI (nI (BC a b y2)))/\(vI Z6=vI (nI y2))/\(rf (L a))/\(rf (L b))/\(aO=(AF (AS y2 (a+b))))))))))) (Z4/\(aP/\(Z4/\(∃y3:Nat,(y3<=max (nl a) (nl b)+1/\(y3=0\/BB^(y3-1)<=a+b))/\(max (nl a) (nl b)+2-y3<max (nl a) (nl b)+2-x1)/\((vI aL=vI (nI (BC a b y3)))/\(vI Z6=vI (nI y3))/\(rf (L a))/\(rf (L b))/\(aN=(AF (AS y3 (a+b)))))))))))) (ifB (Z9) ((0<=(nI x1)/\(nI x1)<a9)/\(aA/\(Z4/\(aK/\(Z4/\(∃y4:Nat,(y4<=max (nl a) (nl b)+1/\(y4=0\/BB^(y4-1)<=a+b))/\(max (nl a) (nl b)+2-y4<max (nl a) (nl b)+2-x1)/\((vI aI=vI (nI (BC a b y4)))/\(vI Z6=vI (nI y4))/\(rf (L a))/\(rf (L b))/\(aJ=(AF (AS y4 (a+b))))))))))) (Z4/\(Z7/\(Z4/\(∃y5:Nat,(y5<=max (nl a) (nl b)+1/\(y5=0\/BB^(y5-1)<=a+b))/\(max (nl a) (nl b)+2-y5<max (nl a) (nl b)+2-x1)/\((vI aG=vI (nI (BC a b y5)))/\(vI Z6=vI (nI y5))/\(rf (L a))/\(rf (L b))/\(aH=(AF (AS y5 (a+b))))))))))) ((Z3=L (a+b)))) (ifB (aD) ((0<=(nI x1)/\(nI x1)<aE)/\(aF/\(ifB (Z9) ((0<=(nI x1)/\(nI x1)<a9)/\(aA/\(Z4/\(Z8/\(Z4/\(∃y6:Nat,(y6<=max (nl a) (nl b)+1/\(y6=0\/BB^(y6-1)<=a+b))/\(max (nl a) (nl b)+2-y6<max (nl a) (nl b)+2-x1)/\((vI aM=vI (nI (BC a b y6)))/\(vI Z6=vI (nI y6))/\(rf (L a))/\(rf (L b))/\(aO=(AF (AS y6 (a+b))))))))))) (Z4/\(aP/\(Z4/\(∃y7:Nat,(y7<=max (nl a) (nl b)+1/\(y7=0\/BB^(y7-1)<=a+b))/\(max (nl a) (nl b)+2-y7<max (nl a) (nl b)+2-x1)/\((vI aL=vI (nI (BC a b y7)))/\(vI Z6=vI (nI y7))/\(rf (L a))/\(rf (L b))/\(aN=(AF (AS y7 (a+b)))))))))))) (ifB (Z9) ((0<=(nI x1)/\(nI x1)<a9)/\(aA/\(Z4/\(aK/\(Z4/\(∃y8:Nat,(y8<=max (nl a) (nl b)+1/\(y8=0\/BB^(y8-1)<=a+b))/\(max (nl a) (nl b)+2-y8<max (nl a) (nl b)+2-x1)/\((vI aI=vI (nI (BC a b y8)))/\(vI Z6=vI (nI y8))/\(rf (L a))/\(rf (L b))/\(aJ=(AF (AS y8 (a+b))))))))))) (Z4/\(Z7/\(Z4/\(∃y9:Nat,(y9<=max (nl a) (nl b)+1/\(y9=0\/BB^(y9-1)<=a+b))/\(max (nl a) (nl b)+2-y9<max (nl a) (nl b)+2-x1)/\((vI aG=vI (nI (BC a b y9)))/\(vI Z6=vI (nI y9))/\(rf (L a))/\(rf (L b))/\(aH=(AF (AS y9 (a+b)))))))))))) (ifB (aD) ((0<=(nI x1)/\(nI x1)<aE)/\(aF/\(ifB (Z9) ((0<=(nI x1)/\(nI x1)<a9)/\(aA/\(Z4/\(Z8/\(Z4/\(∃a1:Nat,(a1<=max (nl a) (nl b)+1/\(a1=0\/BB^(a1-1)<=a+b))/\(max (nl a) (nl b)+2-a1<max (nl a) (nl b)+2-x1)/\((vI aM=vI (nI (BC a b a1)))/\(vI Z6=vI (nI a1))/\(rf (L a))/\(rf (L b))/\(aO=(AF (AS a1 (a+b))))))))))) (Z4/\(aP/\(Z4/\(∃a2:Nat,(a2<=max (nl a) (nl b)+1/\(a2=0\/BB^(a2-1)<=a+b))/\(max (nl a) (nl b)+2-a2<max (nl a) (nl b)+2-x1)/\((vI aL=vI (nI (BC a b a2)))/\(vI Z6=vI (nI a2))/\(rf (L a))/\(rf (L b))/\(aN=(AF (AS a2 (a+b)))))))))))) (ifB (Z9) ((0<=(nI x1)/\(nI x1)<a9)/\(aA/\(Z4/\(aK/\(Z4/\(∃a3:Nat,(a3<=max (nl a) (nl b)+1/\(a3=0\/BB^(a3-1)<=a+b))/\(max (nl a) (nl b)+2-a3<max (nl a) (nl b)+2-x1)/\((vI aI=vI (nI (BC a b a3)))/\(vI Z6=vI (nI a3))/\(rf (L a))/\(rf (L b))/\(aJ=(AF (AS a3 (a+b))))))))))) (Z4/\(Z7/\(Z4/\(∃a4:Nat,(a4<=max (nl a) (nl b)+1/\(a4=0\/BB^(a4-1)<=a+b))/\(max (nl a) (nl b)+2-a4<max (nl a) (nl b)+2-x1)/\((vI aG=vI (nI (BC a b a4)))/\(vI Z6=vI (nI a4))/\(rf (L a))/\(rf (L b))/\(aH=(AF (AS a4 (a+b))))))))))))) (by kernel_rfl) ?_
 conv=>zeta
 delta ifB vI wR nI;have ha:=AJ a;have hb:=AJ b;refine⟨⟨0,by exact⟨Nat.zero_le _,.inl rfl⟩,?_⟩,?_⟩;refine⟨?_,?_,rfl,rfl,?_⟩;rw[OI];rfl;rfl;rfl;intro (i:Nat) a5;have a5:i<=max (nl a) (nl b)+1/\(i=0\/BB^(i-1)<=a+b):=a5;have da:=LD a i;have db:=LD b i;have hc:=Bw a b i;have za:nl a<=i->dgt a i=0:=λh=>F1 (GU h);have zb:nl b<=i->dgt b i=0:=λh=>F1 (GU h);have n1:IntKind.i64.wrap (IntKind.i64.wrap (((BC a b i:Nat):Int)+((((L a).getD i []).getD 0 (.int 0))).n)+((((L b).getD i []).getD 0 (.int 0))).n)=((dgt a i+dgt b i+BC a b i:Nat):Int):=by rw[L_n,L_n,AB (x:=((BC a b i:Nat):Int)+_) (by omega) (by omega),AB (by omega) (by omega)];omega
 have n2:nl b<=i->IntKind.i64.wrap (((BC a b i:Nat):Int)+((((L a).getD i []).getD 0 (.int 0))).n)=((dgt a i+dgt b i+BC a b i:Nat):Int):=λh=>by rw[L_n,zb h,AB (by omega) (by omega)];omega
 have n3:nl a<=i->IntKind.i64.wrap (((BC a b i:Nat):Int)+((((L b).getD i []).getD 0 (.int 0))).n)=((dgt a i+dgt b i+BC a b i:Nat):Int):=λh=>by rw[L_n,za h,AB (by omega) (by omega)];omega
 have n4:nl a<=i->nl b<=i->((BC a b i:Nat):Int)=((dgt a i+dgt b i+BC a b i:Nat):Int):=λh h2=>by rw[za h,zb h2];omega
 have h1:=UR a b i;have hl:(AF (AS i (a+b))).length=i:=by rw[BJ,Ai]
 refine And.symm ⟨λc8=>?_,λc8=>?_⟩;simp only[nrm]at c8;refine And.symm ⟨λa6=>?_,λa6=>?_⟩;simp only[nrm]at a6;refine And.symm ⟨λa7=>?_,λa7=>?_⟩;simp only[nrm]at a7;refine ao (by omega) λo160=>?_;refine ao (by omega) λo161=>?_;refine ao (by omega) λo162=>?_
 refine⟨i+1,by
  have hz:i<nl a\/i<nl b\/0<BC a b i:=by omega
  exact⟨by(rcases hz with h|h|h) <;> first|omega|(have:=Bn h;omega),.inr (A4 hz)⟩,by
  omega,?_⟩
 refine⟨?_,?_,rfl,rfl,?_⟩;rw[n4 (by omega) (by omega),DU,h1.2,Bk (by have:=Bw a b (i+1);omega)];exact AU (AB (by omega) (by omega));rw[n4 (by omega) (by omega),Du,h1.1,Ak,← At];simp only[nrm]at a7;refine ao (by omega) λo147=>?_;refine ao (by omega) λo148=>?_;refine ao (by omega) λo149=>?_;refine ao (by omega) λo150=>?_;refine ao (by omega) λo151=>?_
 refine⟨i+1,by
  have hz:i<nl a\/i<nl b\/0<BC a b i:=by omega
  exact⟨by(rcases hz with h|h|h) <;> first|omega|(have:=Bn h;omega),.inr (A4 hz)⟩,by
  omega,?_⟩
 refine⟨?_,?_,rfl,rfl,?_⟩;rw[n3 (by omega),DU,h1.2,Bk (by have:=Bw a b (i+1);omega)];exact AU (AB (by omega) (by omega));rw[n3 (by omega),Du,h1.1,Ak,← At];simp only[nrm]at a6;refine ao (by omega) λo119=>?_;refine ao (by omega) λo120=>?_;refine And.symm ⟨λa8=>?_,λa8=>?_⟩;simp only[nrm]at a8;refine ao (by omega) λo135=>?_;refine ao (by simp only[hl,List.length_cons,List.length_nil];omega) λo136=>?_;refine ao (by omega) λo137=>?_
 refine⟨i+1,by
  have hz:i<nl a\/i<nl b\/0<BC a b i:=by omega
  exact⟨by(rcases hz with h|h|h) <;> first|omega|(have:=Bn h;omega),.inr (A4 hz)⟩,by
  omega,?_⟩
 refine⟨?_,?_,rfl,rfl,?_⟩;rw[n2 (by omega),DU,h1.2,Bk (by have:=Bw a b (i+1);omega)];exact AU (AB (by omega) (by omega));rw[n2 (by omega),Du,h1.1,Ak,← At];simp only[nrm]at a8;refine ao (by omega) λo122=>?_;refine ao (by omega) λo123=>?_;refine ao (by omega) λo124=>?_;refine ao (by simp only[hl,List.length_cons,List.length_nil];omega) λo125=>?_;refine ao (by omega) λo126=>?_
 refine⟨i+1,by
  have hz:i<nl a\/i<nl b\/0<BC a b i:=by omega
  exact⟨by(rcases hz with h|h|h) <;> first|omega|(have:=Bn h;omega),.inr (A4 hz)⟩,by
  omega,?_⟩
 refine⟨?_,?_,rfl,rfl,?_⟩;rw[n1,DU,h1.2,Bk (by have:=Bw a b (i+1);omega)];exact AU (AB (by omega) (by omega));rw[n1,Du,h1.1,Ak,← At];simp only[nrm]at c8;refine And.symm ⟨λc9=>?_,λc9=>?_⟩;simp only[nrm]at c9;refine And.symm ⟨λaQ=>?_,λaQ=>?_⟩;simp only[nrm]at aQ;refine And.symm ⟨λaR=>?_,λaR=>?_⟩;simp only[nrm]at aR;refine ao (by omega) λo107=>?_;refine ao (by omega) λo108=>?_;refine ao (by omega) λo109=>?_
 refine⟨i+1,by
  have hz:i<nl a\/i<nl b\/0<BC a b i:=by omega
  exact⟨by(rcases hz with h|h|h) <;> first|omega|(have:=Bn h;omega),.inr (A4 hz)⟩,by
  omega,?_⟩
 refine⟨?_,?_,rfl,rfl,?_⟩;rw[n4 (by omega) (by omega),DU,h1.2,Bk (by have:=Bw a b (i+1);omega)];exact AU (AB (by omega) (by omega));rw[n4 (by omega) (by omega),Du,h1.1,Ak,← At];simp only[nrm]at aR;refine ao (by omega) λo94=>?_;refine ao (by omega) λo95=>?_;refine ao (by omega) λo96=>?_;refine ao (by simp only[hl,List.length_cons,List.length_nil];omega) λo97=>?_;refine ao (by omega) λo98=>?_
 refine⟨i+1,by
  have hz:i<nl a\/i<nl b\/0<BC a b i:=by omega
  exact⟨by(rcases hz with h|h|h) <;> first|omega|(have:=Bn h;omega),.inr (A4 hz)⟩,by
  omega,?_⟩
 refine⟨?_,?_,rfl,rfl,?_⟩;rw[n3 (by omega),DU,h1.2,Bk (by have:=Bw a b (i+1);omega)];exact AU (AB (by omega) (by omega));rw[n3 (by omega),Du,h1.1,Ak,← At];simp only[nrm]at aQ;refine ao (by omega) λo66=>?_;refine ao (by omega) λo67=>?_;refine And.symm ⟨λaS=>?_,λaS=>?_⟩;simp only[nrm]at aS;refine ao (by omega) λo82=>?_;refine ao (by omega) λo83=>?_;refine ao (by omega) λo84=>?_
 refine⟨i+1,by
  have hz:i<nl a\/i<nl b\/0<BC a b i:=by omega
  exact⟨by(rcases hz with h|h|h) <;> first|omega|(have:=Bn h;omega),.inr (A4 hz)⟩,by
  omega,?_⟩
 refine⟨?_,?_,rfl,rfl,?_⟩;rw[n2 (by omega),DU,h1.2,Bk (by have:=Bw a b (i+1);omega)];exact AU (AB (by omega) (by omega));rw[n2 (by omega),Du,h1.1,Ak,← At];simp only[nrm]at aS;refine ao (by omega) λo69=>?_;refine ao (by omega) λo70=>?_;refine ao (by omega) λo71=>?_;refine ao (by omega) λo72=>?_;refine ao (by omega) λo73=>?_
 refine⟨i+1,by
  have hz:i<nl a\/i<nl b\/0<BC a b i:=by omega
  exact⟨by(rcases hz with h|h|h) <;> first|omega|(have:=Bn h;omega),.inr (A4 hz)⟩,by
  omega,?_⟩
 refine⟨?_,?_,rfl,rfl,?_⟩;rw[n1,DU,h1.2,Bk (by have:=Bw a b (i+1);omega)];exact AU (AB (by omega) (by omega));rw[n1,Du,h1.1,Ak,← At];simp only[nrm]at c9;refine And.symm ⟨λaT=>?_,λaT=>?_⟩;simp only[nrm]at aT;exact Ub (by omega) (by omega) (by omega) a5.2;simp only[nrm]at aT;refine And.symm ⟨λaU=>?_,λaU=>?_⟩;simp only[nrm]at aU;refine And.symm ⟨λaV=>?_,λaV=>?_⟩;simp only[nrm]at aV;refine ao (by omega) λo53=>?_;refine ao (by simp only[hl,List.length_cons,List.length_nil];omega) λo54=>?_;refine ao (by omega) λo55=>?_
 refine⟨i+1,by
  have hz:i<nl a\/i<nl b\/0<BC a b i:=by omega
  exact⟨by(rcases hz with h|h|h) <;> first|omega|(have:=Bn h;omega),.inr (A4 hz)⟩,by
  omega,?_⟩
 refine⟨?_,?_,rfl,rfl,?_⟩;rw[n4 (by omega) (by omega),DU,h1.2,Bk (by have:=Bw a b (i+1);omega)];exact AU (AB (by omega) (by omega));rw[n4 (by omega) (by omega),Du,h1.1,Ak,← At];simp only[nrm]at aV;refine ao (by omega) λo40=>?_;refine ao (by omega) λo41=>?_;refine ao (by omega) λo42=>?_;refine ao (by omega) λo43=>?_;refine ao (by omega) λo44=>?_
 refine⟨i+1,by
  have hz:i<nl a\/i<nl b\/0<BC a b i:=by omega
  exact⟨by(rcases hz with h|h|h) <;> first|omega|(have:=Bn h;omega),.inr (A4 hz)⟩,by
  omega,?_⟩
 refine⟨?_,?_,rfl,rfl,?_⟩;rw[n3 (by omega),DU,h1.2,Bk (by have:=Bw a b (i+1);omega)];exact AU (AB (by omega) (by omega));rw[n3 (by omega),Du,h1.1,Ak,← At];simp only[nrm]at aU;refine ao (by omega) λo12=>?_;refine ao (by omega) λo13=>?_;refine And.symm ⟨λaW=>?_,λaW=>?_⟩;simp only[nrm]at aW;refine ao (by omega) λo28=>?_;refine ao (by omega) λo29=>?_;refine ao (by omega) λo30=>?_
 refine⟨i+1,by
  have hz:i<nl a\/i<nl b\/0<BC a b i:=by omega
  exact⟨by(rcases hz with h|h|h) <;> first|omega|(have:=Bn h;omega),.inr (A4 hz)⟩,by
  omega,?_⟩
 refine⟨?_,?_,rfl,rfl,?_⟩;rw[n2 (by omega),DU,h1.2,Bk (by have:=Bw a b (i+1);omega)];exact AU (AB (by omega) (by omega));rw[n2 (by omega),Du,h1.1,Ak,← At];simp only[nrm]at aW;refine ao (by omega) λo15=>?_;refine ao (by omega) λo16=>?_;refine ao (by omega) λo17=>?_;refine ao (by omega) λo18=>?_;refine ao (by omega) λo19=>?_
 refine⟨i+1,by
  have hz:i<nl a\/i<nl b\/0<BC a b i:=by omega
  exact⟨by(rcases hz with h|h|h) <;> first|omega|(have:=Bn h;omega),.inr (A4 hz)⟩,by
  omega,?_⟩
 refine⟨?_,?_,rfl,rfl,?_⟩;rw[n1,DU,h1.2,Bk (by have:=Bw a b (i+1);omega)];exact AU (AB (by omega) (by omega));rw[n1,Du,h1.1,Ak,← At]
def B8:Con:={ι:=Nat×Nat,pre:=λi=>nl i.1<=1048576/\nl i.2<=1048576/\i.2<=i.1,args:=λi=>[.one (cS (L i.1)),.one (cS (L i.2))],res:=λi=>⟨false,[none],[.view 3 [.int] (L (i.1-i.2))]⟩}
theorem OV:B8.Ok Tryz.prog 181:=by
 refine fok (X:=⟨tt,[(157,Ab)],[],42,[]⟩) mixed AG (CTok.cons D4 (CTok.nil _)) Tryz.func181 (λ(i:Nat×Nat)=>[(4,.mk 4 (Nat) (λx1=>{tm:=[(0,tX 1),(1,tX 2),(11,tI (nI ((L i.1).length))),(12,tI (nI x1)),(5,tX 3),(6,tI (nI (brw i.1 i.2 x1)))],en:=[(1,eV (L i.1)),(2,eV (L i.2)),(3,.own 3 [.int] (AF (AS x1 (i.1-i.2))))]}) (λx1=>x1<=nl i.1) (λx1=>nl i.1-x1) (λ_=>[]))]) ?_;rintro⟨a,b⟩ a1;have a1:nl a<=1048576/\nl b<=1048576/\b<=a:=a1;refine AH (q:=let Z6:=List Dat;let Z4:=vI (nI ((L a).length));(∃x1:Nat,(x1<=nl a)/\((rf Z4)/\(vI (0:Int)=vI (nI x1))/\(vI (0:Int)=vI (nI (brw a b x1)))/\(rf (L a))/\(rf (L b))/\(([]:List Z6)=(AF (AS x1 (a-b))))))/\∀x1:Nat,let Z5:=wR ((nI x1)+(1:Int));let Z3:=AF (AS x1 (a-b));let Z1:=wR (((((L a).getD x1 []).getD 0 (.int 0))).n-(nI (brw a b x1)));let Z8:=wR (Z1+(1000000000:Int));let Z2:=wR (Z1-((((L b).getD x1 []).getD 0 (.int 0))).n);let Z7:=wR (Z2+(1000000000:Int));(x1<=nl a)->(ifB ((decide ((nI x1)<(nI ((L a).length))))) ((0<=(nI x1)/\(nI x1)<((L a).length:Int))/\((x1<(L a).length)/\(ifB ((decide ((nI x1)<(nI ((L b).length))))) ((0<=(nI x1)/\(nI x1)<((L b).length:Int))/\((x1<(L b).length)/\(ifB ((decide (Z2<(0:Int)))) ((Z3.length+([[Dat.int Z7]]:List Z6).length<=2199023255552)/\(∃y2:Nat,(y2<=nl a)/\(nl a-y2<nl a-x1)/\((rf Z4)/\(vI Z5=vI (nI y2))/\(vI (1:Int)=vI (nI (brw a b y2)))/\(rf (L a))/\(rf (L b))/\((Z3++([[Dat.int Z7]]:List Z6))=(AF (AS y2 (a-b))))))) ((Z3.length+([[Dat.int Z2]]:List Z6).length<=2199023255552)/\(∃y3:Nat,(y3<=nl a)/\(nl a-y3<nl a-x1)/\((rf Z4)/\(vI Z5=vI (nI y3))/\(vI (0:Int)=vI (nI (brw a b y3)))/\(rf (L a))/\(rf (L b))/\((Z3++([[Dat.int Z2]]:List Z6))=(AF (AS y3 (a-b)))))))))) (ifB ((decide (Z1<(0:Int)))) ((Z3.length+([[Dat.int Z8]]:List Z6).length<=2199023255552)/\(∃y4:Nat,(y4<=nl a)/\(nl a-y4<nl a-x1)/\((rf Z4)/\(vI Z5=vI (nI y4))/\(vI (1:Int)=vI (nI (brw a b y4)))/\(rf (L a))/\(rf (L b))/\((Z3++([[Dat.int Z8]]:List Z6))=(AF (AS y4 (a-b))))))) ((Z3.length+([[Dat.int Z1]]:List Z6).length<=2199023255552)/\(∃y5:Nat,(y5<=nl a)/\(nl a-y5<nl a-x1)/\((rf Z4)/\(vI Z5=vI (nI y5))/\(vI (0:Int)=vI (nI (brw a b y5)))/\(rf (L a))/\(rf (L b))/\((Z3++([[Dat.int Z1]]:List Z6))=(AF (AS y5 (a-b))))))))))) (∃i1:(List Nat)×Nat,[DA.one (cS Z3)]=Ab.args i1/\Ab.pre i1/\((L i1.2=L (a-b)))))) (by kernel_rfl) ?_;conv=>zeta
 delta ifB vI wR nI;have ha:=AJ a;have hb:=AJ b;refine⟨⟨0,by omega,?_⟩,?_⟩;refine⟨rfl,?_,?_,rfl,rfl,?_⟩;rfl;rw[Q6];rfl;rfl;intro (i:Nat) a3;have a3:i<=nl a:=a3;have da:=LD a i;have db:=LD b i;have hc:=PK a b i;have h1:=UT a1.2.2 i;have zb:nl b<=i->dgt b i=0:=λh=>F1 (GU h);have n1:IntKind.i64.wrap (IntKind.i64.wrap (((((L a).getD i []).getD 0 (.int 0))).n-((brw a b i:Nat):Int))-((((L b).getD i []).getD 0 (.int 0))).n)=(dgt a i:Int)-dgt b i-brw a b i:=by rw[L_n,L_n,AB (x:=(dgt a i:Int)-_) (by omega) (by omega),AB (by omega) (by omega)];omega
 have n2:nl b<=i->IntKind.i64.wrap (((((L a).getD i []).getD 0 (.int 0))).n-((brw a b i:Nat):Int))=(dgt a i:Int)-dgt b i-brw a b i:=λh=>by rw[L_n,zb h,AB (by omega) (by omega)];omega
 have hl:(AF (AS i (a-b))).length=i:=by rw[BJ,Ai]
 refine And.symm ⟨λc9=>?_,λc9=>?_⟩;simp only[nrm]at c9
 refine⟨(AS i (a-b),a-b),by
  rfl,by
  exact⟨by rw[Ai];omega,FP _ _,by rw[Ci,GV (by have:=Cy (Nat.sub_le a b);omega)]⟩,?_⟩
 exact rfl;simp only[nrm]at c9;refine ao (by omega) λo10=>?_;refine ao (by omega) λo11=>?_;refine And.symm ⟨λa4=>?_,λa4=>?_⟩;simp only[nrm]at a4;refine And.symm ⟨λa2=>?_,λa2=>?_⟩;simp only[nrm]at a2;rw[n2 (by omega)]at a2;have hq:=h1.2 a2;refine ao (by simp only[hl,List.length_cons,List.length_nil];omega) λo47=>?_
 refine⟨i+1,by
  omega,by
  omega,?_⟩
 refine⟨rfl,?_,?_,rfl,rfl,?_⟩;exact AU (AB (by omega) (by omega));rw[hq.2];rfl;rw[n2 (by omega),hq.1,Ak,← At];simp only[nrm]at a2;rw[n2 (by omega)]at a2;have hq:=h1.1 a2;have hw:IntKind.i64.wrap ((dgt a i:Int)-dgt b i-brw a b i+(1000000000:Int))=(dgt a i:Int)-dgt b i-brw a b i+1000000000:=by rw[AB (by omega) (by omega)]
 refine ao (by simp only[hl,List.length_cons,List.length_nil];omega) λo37=>?_
 refine⟨i+1,by
  omega,by
  omega,?_⟩
 refine⟨rfl,?_,?_,rfl,rfl,?_⟩;exact AU (AB (by omega) (by omega));rw[hq.2];rfl;rw[n2 (by omega),hw,hq.1,Ak,← At];simp only[nrm]at a4;refine ao (by omega) λo13=>?_;refine ao (by omega) λo14=>?_;refine And.symm ⟨λa0=>?_,λa0=>?_⟩;try dsimp only at a0
 simp only[nrm]at a0;rw[n1]at a0;have hq:=h1.2 a0;refine ao (by simp only[hl,List.length_cons,List.length_nil];omega) λo26=>?_
 refine⟨i+1,by
  omega,by
  omega,?_⟩
 refine⟨rfl,?_,?_,rfl,rfl,?_⟩;exact AU (AB (by omega) (by omega));rw[hq.2];rfl;rw[n1,hq.1,Ak,← At];try dsimp only at a0
 simp only[nrm]at a0;rw[n1]at a0;have hq:=h1.1 a0;have hw:IntKind.i64.wrap ((dgt a i:Int)-dgt b i-brw a b i+(1000000000:Int))=(dgt a i:Int)-dgt b i-brw a b i+1000000000:=by rw[AB (by omega) (by omega)]
 refine ao (by simp only[hl,List.length_cons,List.length_nil];omega) λo16=>?_
 refine⟨i+1,by
  omega,by
  omega,?_⟩
 refine⟨rfl,?_,?_,rfl,rfl,?_⟩;exact AU (AB (by omega) (by omega));rw[hq.2];rfl;rw[n1,hw,hq.1,Ak,← At]
def AQ:Con:={ι:=Nat×Nat,pre:=λi=>nl i.1<=524288/\nl i.2<=524288,args:=λi=>[.one (cS (L i.1)),.one (cS (L i.2))],res:=λi=>⟨false,[none],[.view 3 [.int] (L (i.1*i.2))]⟩}
theorem El:AQ.Ok Tryz.prog 126:=by
 refine fok (X:=⟨tt,[(157,Ab)],[],72,[]⟩) mixed AG (CTok.cons D4 (CTok.nil _)) Tryz.func126 (λ(i:Nat×Nat)=>[(5,.mk 4 (Nat) (λx1=>{tm:=[(0,tX 1),(1,tX 2),(26,tX 1),(27,tI (nI ((L i.1).length))),(28,tI (nI x1)),(5,tX 3)],en:=[(1,eV (L i.1)),(2,eV (L i.2)),(3,.own 3 [.int] (AF (AS (nl i.1+nl i.2) (i.1%BB^x1*i.2))))]}) (λx1=>x1<=nl i.1) (λx1=>nl i.1-x1) (λx1=>[(9,.mk 4 (Nat×Nat×Nat) (λx2=>{tm:=[(0,tX 1),(1,tX 2),(26,tX 1),(27,tI (nI ((L i.1).length))),(28,tI (nI x1)),(33,tX 2),(34,tI (nI ((L i.2).length))),(6,tI (nI x1)),(7,tI (((((L i.1).getD x1 []).getD 0 (.int 0))).n)),(5,tX 3),(8,tI (nI x2.2.2)),(35,tI (nI x2.1))],en:=[(1,eV (L i.1)),(2,eV (L i.2)),(3,.own 3 [.int] (AF (AS (nl i.1+nl i.2) x2.2.1)))]}) (λx2=>x2.2.1+x2.2.2*BB^(x1+x2.1)=i.1%BB^x1*i.2+dgt i.1 x1*BB^x1*(i.2%BB^x2.1)/\x2.2.2<BB/\x2.1<=nl i.2/\x2.2.1<BB^(x1+nl i.2)) (λx2=>nl i.2-x2.1) (λ_=>[]))]))]) ?_;rintro⟨a,b⟩ a1
 have a1:nl a<=524288/\nl b<=524288:=a1;refine AH (q:=let a7:=(1000000000:Int)≠0;let a8:=(([]:List (List Dat))=L (a*b));let Z8:=nl a+nl b;let Z5:=nI ((L a).length);let Z3:=nI ((L b).length);let Z9:=wR (Z5+Z3);ifB ((!(Z5 == (0:Int)))) (ifB ((Z3 == (0:Int))) a8 ((0<=Z9)/\((Z9<=Z9)/\((Z9<=1073741824)/\((∃x1:Nat,(x1<=nl a)/\((rf (vI Z5))/\(vI (0:Int)=vI (nI x1))/\(rf (L a))/\(rf (L b))/\((List.replicate (Z9.toNat) [Dat.int (0:Int)])=(AF (AS Z8 (a%BB^x1*b))))))/\∀x1:Nat,let a3:=vI (nI x1);let a9:=AF (AS Z8 (a%BB^x1*b));let Z7:=wR ((nI x1)+Z3);let Z6:=(((L a).getD x1 []).getD 0 (.int 0));(x1<=nl a)->(ifB ((decide ((nI x1)<Z5))) ((0<=(nI x1)/\(nI x1)<((L a).length:Int))/\((x1<(L a).length)/\((∃x2:Nat×Nat×Nat,(x2.2.1+x2.2.2*BB^(x1+x2.1)=a%BB^x1*b+dgt a x1*BB^x1*(b%BB^x2.1)/\x2.2.2<BB/\x2.1<=nl b/\x2.2.1<BB^(x1+nl b))/\((rf (vI Z5))/\(rf a3)/\(rf (vI Z3))/\(rf a3)/\(rf (vI Z6.n))/\(vI (0:Int)=vI (nI x2.2.2))/\(vI (0:Int)=vI (nI x2.1))/\(rf (L a))/\(rf (L b))/\(a9=(AF (AS Z8 x2.2.1)))))/\∀x2:Nat×Nat×Nat,let Z2:=wR ((nI x1)+(nI x2.1));let Z1:=AF (AS Z8 x2.2.1);let a4:=(Z1.length:Int);let Z4:=wR ((wR ((((Z1.getD (Z2.toNat) []).getD 0 (.int 0))).n+(wR (Z6.n*((((L b).getD x2.1 []).getD 0 (.int 0))).n))))+(nI x2.2.2));(x2.2.1+x2.2.2*BB^(x1+x2.1)=a%BB^x1*b+dgt a x1*BB^x1*(b%BB^x2.1)/\x2.2.2<BB/\x2.1<=nl b/\x2.2.1<BB^(x1+nl b))->(ifB ((decide ((nI x2.1)<Z3))) ((0<=(nI x2.1)/\(nI x2.1)<((L b).length:Int))/\((x2.1<(L b).length)/\((0<=Z2/\Z2<a4)/\((Z2.toNat<Z1.length)/\(a7/\((0<=Z2/\Z2<a4)/\((Z2.toNat<Z1.length)/\(a7/\(∃y3:Nat×Nat×Nat,(y3.2.1+y3.2.2*BB^(x1+y3.1)=a%BB^x1*b+dgt a x1*BB^x1*(b%BB^y3.1)/\y3.2.2<BB/\y3.1<=nl b/\y3.2.1<BB^(x1+nl b))/\(nl b-y3.1<nl b-x2.1)/\((rf (vI Z5))/\(rf a3)/\(rf (vI Z3))/\(rf a3)/\(rf (vI Z6.n))/\(vI (wR (Int.tdiv Z4 (1000000000:Int)))=vI (nI y3.2.2))/\(vI (wR ((nI x2.1)+(1:Int)))=vI (nI y3.1))/\(rf (L a))/\(rf (L b))/\((Z1.set (Z2.toNat) ((Z1.getD (Z2.toNat) []).set 0 (Dat.int (Int.tmod Z4 (1000000000:Int)))))=(AF (AS Z8 y3.2.1))))))))))))) ((0<=Z7/\Z7<a4)/\((Z7.toNat<Z1.length)/\(∃y4:Nat,(y4<=nl a)/\(nl a-y4<nl a-x1)/\((rf (vI Z5))/\(vI (wR ((nI x1)+(1:Int)))=vI (nI y4))/\(rf (L a))/\(rf (L b))/\((Z1.set (Z7.toNat) ((Z1.getD (Z7.toNat) []).set 0 (Dat.int (nI x2.2.2))))=(AF (AS Z8 (a%BB^y4*b)))))))))))) (∃i1:(List Nat)×Nat,[DA.one (cS a9)]=Ab.args i1/\Ab.pre i1/\((L i1.2=L (a*b)))))))))) a8) (by kernel_rfl) ?_;conv=>zeta
 delta ifB vI wR nI;have ha:=AJ a;have hb:=AJ b;have hw0:IntKind.i64.wrap ((((L a).length:Nat):Int)+(((L b).length:Nat):Int))=((nl a+nl b:Nat):Int):=by rw[ha,hb,AB (by omega) (by omega)];omega
 refine And.symm ⟨λc1=>?_,λc1=>?_⟩;simp only[nrm]at c1;rw[Hn (n:=a) (by omega),Nat.zero_mul,Cj];simp only[nrm]at c1;refine⟨λc2=>?_,λc2=>?_⟩;simp only[nrm]at c2;rw[Hn (n:=b) (by omega),Nat.mul_zero,Cj];simp only[nrm]at c2;refine ao (by omega) λo4=>?_;refine ao (by omega) λo5=>?_;refine ao (by omega) λo6=>?_;refine⟨⟨0,by omega,?_⟩,?_⟩;refine⟨rfl,?_,rfl,rfl,?_⟩;rfl;rw[hw0,Int.toNat_natCast,Nat.pow_zero,Nat.mod_one,Nat.zero_mul,KG,← EQ];intro (i:Nat) a2;have a2:i<=nl a:=a2;refine And.symm ⟨λa5=>?_,λa5=>?_⟩;simp only[nrm]at a5
 refine⟨(AS (nl a+nl b) (a%BB^i*b),a*b),by
  rfl,by
  exact⟨by rw[Ai];omega,FP _ _,by rw[GV (a:=a) (i:=i) (by omega),Ci,GV (As _ _)]⟩,?_⟩
 exact rfl;simp only[nrm]at a5;refine ao (by omega) λo15=>?_;refine ao (by omega) λo16=>?_;refine⟨⟨(0,a%BB^i*b,0),by exact⟨by simp[Nat.mod_one],Dg,Nat.zero_le _,S9⟩,?_⟩,?_⟩;refine⟨rfl,rfl,rfl,rfl,rfl,?_,?_,rfl,rfl,rfl⟩;rfl;rfl;rintro⟨k,V,c⟩ a0;have a0:V+c*BB^(i+k)=a%BB^i*b+dgt a i*BB^i*(b%BB^k)/\c<BB/\k<=nl b/\V<BB^(i+nl b):=a0;have hlv:(AF (AS (nl a+nl b) V)).length=nl a+nl b:=by rw[BJ,Ai]
 refine And.symm ⟨λa6=>?_,λa6=>?_⟩;simp only[nrm]at a6;have hw' : IntKind.i64.wrap (((i:Nat):Int)+(((L b).length:Nat):Int))=((i+nl b:Nat):Int):=by rw[hb,AB (by omega) (by omega)];omega
 have e:=a0.1;rw[show k=nl b by omega,GV (a:=b) (Nat.le_refl _),Sq]at e;refine ao (by dsimp only;omega) λo51=>?_;refine ao (by omega) λo52=>?_
 refine⟨i+1,by
  omega,by
  omega,?_⟩
 refine⟨rfl,?_,rfl,rfl,?_⟩;exact AU (AB (by omega) (by omega));rw[hw',Int.toNat_natCast,KJ (by rw[Ai];omega),Ml (by omega) a0.2.1,F1 a0.2.2.2,Nat.zero_mul,Nat.sub_zero,e];simp only[nrm]at a6;have aA:i+k<nl a+nl b:=by omega
 have hw:IntKind.i64.wrap (((i:Nat):Int)+((k:Nat):Int))=((i+k:Nat):Int):=by rw[AB (by omega) (by omega)];omega
 have hm:=KM (Bb a i) (Bb b k) (Bb V (i+k)) a0.2.1;have hn:IntKind.i64.wrap (IntKind.i64.wrap (((((AF (AS (nl a+nl b) V)).getD ((IntKind.i64.wrap (((i:Nat):Int)+((k:Nat):Int))).toNat) []).getD 0 (.int 0))).n+(IntKind.i64.wrap (((((L a).getD i []).getD 0 (.int 0))).n*((((L b).getD k []).getD 0 (.int 0))).n)))+((c:Nat):Int))=((dgt V (i+k)+dgt a i*dgt b k+c:Nat):Int):=by rw[hw,Int.toNat_natCast,PQ aA,L_n,L_n,← Int.natCast_mul,Bk (by omega),← Int.natCast_add,Bk (by omega),← Int.natCast_add,Bk (by omega)]
 have hst:=PL a0.1;refine ao (by omega) λo30=>?_;refine ao (by omega) λo31=>?_;refine ao (by dsimp only;omega) λo32=>?_;refine ao (by omega) λo33=>?_;refine ao (by omega) λo34=>?_;refine ao (by omega) λo35=>?_;refine ao (by omega) λo36=>?_;refine ao (by omega) λo37=>?_
 refine⟨(k+1,V-dgt V (i+k)*BB^(i+k)+(dgt V (i+k)+dgt a i*dgt b k+c)%BB*BB^(i+k),(dgt V (i+k)+dgt a i*dgt b k+c)/BB),by
  exact⟨hst,hm.1,by omega,AA5 (by omega) a0.2.2.2 (Nat.mod_lt _ Dg)⟩,by
  omega,?_⟩
 refine⟨rfl,rfl,rfl,rfl,rfl,?_,?_,rfl,rfl,?_⟩;rw[hn,DU,Bk (Nat.le_trans (Nat.le_of_lt hm.1) (by decide))];exact AU (AB (by omega) (by omega));rw[hn,Du,hw,Int.toNat_natCast,Mv aA]
def EW:Con:={ι:=Nat×Nat,pre:=λi=>nl i.1<=1048576/\0<i.2/\i.2<BB,args:=λi=>[.one (cS (L i.1)),.one (cI ((i.2:Nat):Int))],res:=λi=>⟨true,[none,none],[.view 3 [.int] (L (i.1/i.2)),rcI ((i.1%i.2:Nat):Int)]⟩}
theorem RI:EW.Ok Tryz.prog 179:=by
 refine fok (X:=⟨tt,[(157,Ab)],[],39,[]⟩) mixed AG (CTok.cons D4 (CTok.nil _)) Tryz.func179 (λ(i:Nat×Nat)=>[(4,.mk 3 (Nat) (λx1=>{tm:=[(0,tX 1),(1,tI (nI i.2)),(6,tX 2),(7,tI (nI (i.1/BB^x1%i.2))),(8,tI ((nI x1)-1))],en:=[(1,eV (L i.1)),(2,.own 3 [.int] (AF (AS (nl i.1) (hi (i.1/i.2) x1))))]}) (λx1=>x1<=nl i.1) (λx1=>x1) (λ_=>[]))]) ?_;rintro⟨a,n⟩ a0;have a0:nl a<=1048576/\0<n/\n<BB:=a0;refine AH (q:=let Z4:=nI ((L a).length);(0<=Z4)/\((Z4<=Z4)/\((Z4<=1073741824)/\((∃x1:Nat,(x1<=nl a)/\((rf (vI (nI n)))/\(vI (0:Int)=vI (nI (a/BB^x1%n)))/\(vI (wR (Z4-(1:Int)))=vI ((nI x1)-1))/\(rf (L a))/\((List.replicate ((L a).length) [Dat.int (0:Int)])=(AF (AS (nl a) (hi (a/n) x1))))))/\∀x1:Nat,let Z5:=nI (a/BB^x1%n);let Z3:=(nI x1)-1;let Z2:=wR ((wR (Z5*(1000000000:Int)))+((((L a).getD (Z3.toNat) []).getD 0 (.int 0))).n);let Z1:=AF (AS (nl a) (hi (a/n) x1));(x1<=nl a)->(ifB ((decide (Z3>=(0:Int)))) ((0<=Z3/\Z3<((L a).length:Int))/\((Z3.toNat<(L a).length)/\(((nI n)≠0)/\((0<=Z3/\Z3<(Z1.length:Int))/\((Z3.toNat<Z1.length)/\(((nI n)≠0)/\(∃y2:Nat,(y2<=nl a)/\(y2<x1)/\((rf (vI (nI n)))/\(vI (Int.tmod Z2 (nI n))=vI (nI (a/BB^y2%n)))/\(vI (wR (Z3-(1:Int)))=vI ((nI y2)-1))/\(rf (L a))/\((Z1.set (Z3.toNat) ((Z1.getD (Z3.toNat) []).set 0 (Dat.int (wR (Int.tdiv Z2 (nI n))))))=(AF (AS (nl a) (hi (a/n) y2)))))))))))) (∃i1:(List Nat)×Nat,[DA.one (cS Z1)]=Ab.args i1/\Ab.pre i1/\((L i1.2=L (a/n))/\(vI Z5=vI (nI (a%n)))))))))) (by kernel_rfl) ?_;conv=>zeta
 delta ifB vI wR nI;have ha:=AJ a;refine ao (by omega) λo1=>?_;refine ao (by omega) λo2=>?_;refine ao (by omega) λo3=>?_;refine⟨⟨nl a,by omega,?_⟩,?_⟩;refine⟨rfl,?_,?_,rfl,?_⟩;rw[PN n (C3 a)];rfl;rw[ha,AB (by omega) (by omega)];rw[ha,Lh (Nat.div_le_self _ _)];intro (j:Nat) a1;have a1:j<=nl a:=a1;have hlv:(AF (AS (nl a) (hi (a/n) j))).length=nl a:=by rw[BJ,Ai]
 refine And.symm ⟨λa2=>?_,λa2=>?_⟩;simp only[nrm]at a2
 refine⟨(AS (nl a) (hi (a/n) j),a/n),by
  rfl,by
  exact⟨by rw[Ai];omega,FP _ _,by rw[show j=0 by omega,PO,Ci,GV (Cy (Nat.div_le_self _ _))]⟩,?_⟩
 refine⟨rfl,?_⟩;rw[show j=0 by omega,Nat.pow_zero,Nat.div_one];simp only[nrm]at a2;have hj:((((j:Nat):Int)-1).toNat)=j-1:=by omega
 have hj1:j-1+1=j:=by omega
 have hd:=PM a n (j-1) a0.2.1;rw[hj1]at hd;have hn:IntKind.i64.wrap (IntKind.i64.wrap (((a/BB^j%n:Nat):Int)*(1000000000:Int))+((((L a).getD ((((j:Nat):Int)-1).toNat) []).getD 0 (.int 0))).n)=((a/BB^j%n*BB+dgt a (j-1):Nat):Int):=by rw[hj,L_n,KN (Nat.lt_trans (Nat.mod_lt _ a0.2.1) a0.2.2) (Bb _ _)]
 refine ao (by omega) λo12=>?_;refine ao (by omega) λo13=>?_;refine ao (by omega) λo14=>?_;refine ao (by omega) λo15=>?_;refine ao (by omega) λo16=>?_;refine ao (by omega) λo17=>?_
 refine⟨j-1,by
  omega,by
  omega,?_⟩
 refine⟨rfl,?_,?_,rfl,?_⟩;rw[hn,Xk,hd.2];rw[Cz (by omega) (by omega)];rw[hn,Xj,hd.1,Bk (by have:=Bb (a/n) (j-1);unfold BB at this;omega),hj];exact Li (by omega) (by omega) rfl
def EX:Con:={ι:=Nat×Nat,pre:=λi=>i.2≠0/\i.1<i.2*BB/\nl i.2<=131072,args:=λi=>[.one (cS (L i.1)),.one (cS (L i.2))],res:=λi=>⟨false,[none],[rcI ((i.1/i.2:Nat):Int)]⟩}
theorem RJ:EX.Ok Tryz.prog 180:=by
 refine fok (X:=⟨tt,[(123,A7),(126,AQ),(163,AW)],[],27,[]⟩) mixed AG (CTok.cons IO (CTok.cons El (CTok.cons GB (CTok.nil _)))) Tryz.func180 (λ(i:Nat×Nat)=>[(3,.mk 3 (Nat×Nat) (λx1=>{tm:=[(0,tX 1),(1,tX 2),(5,tI (nI x1.1)),(6,tI (nI x1.2))],en:=[(1,eV (L i.1)),(2,eV (L i.2))]}) (λx1=>x1.1<=i.1/i.2/\i.1/i.2<=x1.2/\x1.2<=999999999) (λx1=>x1.2-x1.1) (λ_=>[]))]) ?_;rintro⟨a,b⟩ a0;have a0:b≠0/\a<b*BB/\nl b<=131072:=a0;refine AH (q:=(∃x1:Nat×Nat,(x1.1<=a/b/\a/b<=x1.2/\x1.2<=999999999)/\((vI (0:Int)=vI (nI x1.1))/\(vI (999999999:Int)=vI (nI x1.2))/\(rf (L a))/\(rf (L b))))/\∀x1:Nat×Nat,let Z1:=wR (Int.tdiv (wR ((wR ((nI x1.1)+(nI x1.2)))+(1:Int))) (2:Int));(x1.1<=a/b/\a/b<=x1.2/\x1.2<=999999999)->(ifB ((decide ((nI x1.1)<(nI x1.2)))) (((2:Int)≠0)/\(∃i1:Nat,[DA.one (cI Z1)]=A7.args i1/\A7.pre i1/\(∃i2:Nat×Nat,[DA.one (cS (L b)),DA.one (cS (L i1))]=AQ.args i2/\AQ.pre i2/\(∃i3:Nat×Nat,[DA.one (cS (L (i2.1*i2.2))),DA.one (cS (L a))]=AW.args i3/\AW.pre i3/\(ifB ((decide ((Br i3.1 i3.2)<=(0:Int)))) (∃y2:Nat×Nat,(y2.1<=a/b/\a/b<=y2.2/\y2.2<=999999999)/\(y2.2-y2.1<x1.2-x1.1)/\((vI Z1=vI (nI y2.1))/\(vI (nI x1.2)=vI (nI y2.2))/\(rf (L a))/\(rf (L b)))) (∃y3:Nat×Nat,(y3.1<=a/b/\a/b<=y3.2/\y3.2<=999999999)/\(y3.2-y3.1<x1.2-x1.1)/\((vI (nI x1.1)=vI (nI y3.1))/\(vI (wR (Z1-(1:Int)))=vI (nI y3.2))/\(rf (L a))/\(rf (L b))))))))) ((vI (nI x1.1)=vI (nI (a/b)))))) (by kernel_rfl) ?_;conv=>zeta
 delta ifB vI wR nI;have ha:=AJ a;have hb:=AJ b;have hnl:=JZ a0.2.1;have hq:a/b<BB:=Nat.div_lt_of_lt_mul a0.2.1;have hq0:0<=((a/b:Nat):Int):=Int.natCast_nonneg _;unfold BB at hq;refine⟨⟨(0,999999999),by exact⟨Nat.zero_le _,by omega,Nat.le_refl _⟩,?_⟩,?_⟩;refine⟨?_,?_,rfl,rfl⟩;rfl;rfl;rintro⟨lo,hi⟩ a1;have a1:lo<=a/b/\a/b<=hi/\hi<=999999999:=a1;have hm:=RD (lo:=lo) (hi:=hi) (by omega) (by omega);refine And.symm ⟨λc7=>?_,λc7=>?_⟩;simp only[nrm]at c7;rw[show lo=a/b by omega];simp only[nrm]at c7;refine ao (by omega) λo8=>?_
 refine⟨((lo+hi+1)/2),by
  rw[hm];rfl,by
  show((lo+hi+1)/2)<=9223372036854775807;omega,?_⟩
 refine⟨(b,((lo+hi+1)/2)),by
  rfl,by
  show nl b<=524288/\nl ((lo+hi+1)/2)<=524288;have:=F7 (n:=(lo+hi+1)/2) (by unfold BB;omega);exact⟨by omega,by omega⟩,?_⟩
 refine⟨((b*((lo+hi+1)/2)),a),by
  rfl,by
  show nl (b*((lo+hi+1)/2))<=1048576/\nl a<=1048576;have:=F7 (n:=(lo+hi+1)/2) (by unfold BB;omega);have:=As b ((lo+hi+1)/2);exact⟨by omega,by omega⟩,?_⟩
 refine⟨λa2=>?_,λa2=>?_⟩;simp only[nrm]at a2
 refine⟨((lo+hi+1)/2,hi),by
  exact⟨F5 a0.1 (Hk.1 a2),by omega,by omega⟩,by
  omega,?_⟩
 refine⟨?_,rfl,rfl,rfl⟩;rw[hm];simp only[nrm]at a2
 refine⟨(lo,(lo+hi+1)/2-1),by
  have h2:a/b<(lo+hi+1)/2:=div_lt_of_lt_mul (Nat.lt_of_not_le (λh=>by have:=Hk.2 h;omega));exact⟨by omega,by omega,by omega⟩,by
  omega,?_⟩
 refine⟨rfl,?_,rfl,rfl⟩;rw[hm];exact AU (by rw[AB (by omega) (by omega)];omega)
def Bp:Con:={ι:=Nat×Nat,pre:=λi=>i.2≠0/\nl i.1<=131072/\nl i.2<=131072,args:=λi=>[.one (cS (L i.1)),.one (cS (L i.2))],res:=λi=>⟨true,[none,none],[.view 3 [.int] (L (i.1/i.2)),.view 3 [.int] (L (i.1%i.2))]⟩}
theorem OX:Bp.Ok Tryz.prog 158:=by
 refine fok (X:=⟨tt,[(179,EW),(123,A7),(157,Ab),(163,AW),(180,EX),(126,AQ),(181,B8)],[],65,[]⟩) mixed AG (CTok.cons RI (CTok.cons IO (CTok.cons D4 (CTok.cons GB (CTok.cons RJ (CTok.cons El (CTok.cons OV (CTok.nil _)))))))) Tryz.func158 (λ(i:Nat×Nat)=>[(7,.mk 5 (Nat) (λx1=>{tm:=[(0,tX 1),(1,tX 2),(8,tX 3),(9,tX 4),(10,tI ((nI x1)-1))],en:=[(1,eV (L i.1)),(2,eV (L i.2)),(3,.own 3 [.int] (AF (AS (nl i.1) (hi (i.1/i.2) x1)))),(4,eV (L (i.1/BB^x1%i.2)))]}) (λx1=>x1<=nl i.1) (λx1=>x1) (λ_=>[]))]) ?_;rintro⟨a,b⟩ a0;have a0:b≠0/\nl a<=131072/\nl b<=131072:=a0;refine AH (q:=let Z3:=nI ((L a).length);ifB (((nI ((L b).length)) == (1:Int))) ((0<=(0:Int)/\(0:Int)<((L b).length:Int))/\((0<(L b).length)/\(∃i1:Nat×Nat,[DA.one (cS (L a)),DA.one (cI (((((L b).getD 0 []).getD 0 (.int 0))).n))]=EW.args i1/\EW.pre i1/\(∃i2:Nat,[DA.one (cI (nI (i1.1%i1.2)))]=A7.args i2/\A7.pre i2/\((L (i1.1/i1.2)=L (a/b))/\(L i2=L (a%b))))))) ((0<=Z3)/\((Z3<=Z3)/\((Z3<=1073741824)/\((∃x1:Nat,(x1<=nl a)/\((vI (wR (Z3-(1:Int)))=vI ((nI x1)-1))/\(rf (L a))/\(rf (L b))/\((List.replicate ((L a).length) [Dat.int (0:Int)])=(AF (AS (nl a) (hi (a/b) x1))))/\(([]:List (List Dat))=(L (a/BB^x1%b)))))/\∀x1:Nat,let Z5:=L (a/BB^x1%b);let Z2:=(nI x1)-1;let Z4:=((((L a).getD (Z2.toNat) []).getD 0 (.int 0))).n;let Z1:=AF (AS (nl a) (hi (a/b) x1));(x1<=nl a)->(ifB ((decide (Z2>=(0:Int)))) ((0<=Z2/\Z2<((L a).length:Int))/\((Z2.toNat<(L a).length)/\((([[Dat.int Z4]]:List (List Dat)).length+Z5.length<=2199023255552)/\(∃i3:(List Nat)×Nat,[DA.one (cS (([[Dat.int Z4]]:List (List Dat))++Z5))]=Ab.args i3/\Ab.pre i3/\(∃i4:Nat×Nat,[DA.one (cS (L i3.2)),DA.one (cS (L b))]=AW.args i4/\AW.pre i4/\(ifB ((decide ((Br i4.1 i4.2)<(0:Int)))) (∃y2:Nat,(y2<=nl a)/\(y2<x1)/\((vI (wR (Z2-(1:Int)))=vI ((nI y2)-1))/\(rf (L a))/\(rf (L b))/\(Z1=(AF (AS (nl a) (hi (a/b) y2))))/\(L i3.2=(L (a/BB^y2%b))))) (∃i5:Nat×Nat,[DA.one (cS (L i3.2)),DA.one (cS (L b))]=EX.args i5/\EX.pre i5/\((0<=Z2/\Z2<(Z1.length:Int))/\((Z2.toNat<Z1.length)/\(∃i6:Nat,[DA.one (cI (nI (i5.1/i5.2)))]=A7.args i6/\A7.pre i6/\(∃i7:Nat×Nat,[DA.one (cS (L b)),DA.one (cS (L i6))]=AQ.args i7/\AQ.pre i7/\(∃i8:Nat×Nat,[DA.one (cS (L i3.2)),DA.one (cS (L (i7.1*i7.2)))]=B8.args i8/\B8.pre i8/\(∃y3:Nat,(y3<=nl a)/\(y3<x1)/\((vI (wR (Z2-(1:Int)))=vI ((nI y3)-1))/\(rf (L a))/\(rf (L b))/\((Z1.set (Z2.toNat) ((Z1.getD (Z2.toNat) []).set 0 (Dat.int (nI (i5.1/i5.2)))))=(AF (AS (nl a) (hi (a/b) y3))))/\(L (i8.1-i8.2)=(L (a/BB^y3%b))))))))))))))))) (∃i9:(List Nat)×Nat,[DA.one (cS Z1)]=Ab.args i9/\Ab.pre i9/\((L i9.2=L (a/b))/\(Z5=L (a%b)))))))))) (by kernel_rfl) ?_;conv=>zeta
 delta ifB vI wR nI;have ha:=AJ a;have hb:=AJ b;refine⟨λc1=>?_,λc1=>?_⟩;simp only[nrm]at c1;have h1:=Hl (b:=b) (by omega);refine ao (by omega) λo2=>?_;refine ao (by omega) λo3=>?_
 refine⟨(a,b),by
  rw[L_n,h1.1];rfl,by
  show nl a<=1048576/\0<b/\b<BB;exact⟨by omega,h1.2.2,h1.2.1⟩,?_⟩
 refine⟨(a%b),by
  rfl,by
  exact Nat.le_trans (Nat.le_of_lt (Nat.lt_trans (Nat.mod_lt a h1.2.2) h1.2.1)) (by decide),?_⟩
 exact⟨rfl,rfl⟩;simp only[nrm]at c1;refine ao (by omega) λo12=>?_;refine ao (by omega) λo13=>?_;refine ao (by omega) λo14=>?_;refine⟨⟨nl a,by omega,?_⟩,?_⟩;refine⟨?_,rfl,rfl,?_,?_⟩;rw[ha,AB (by omega) (by omega)];rw[ha,Lh (Nat.div_le_self _ _)];rw[PN b (C3 a),Cj];intro (j:Nat) a1;have a1:j<=nl a:=a1;have hlv:(AF (AS (nl a) (hi (a/b) j))).length=nl a:=by rw[BJ,Ai]
 have hrl:=AJ (a/BB^j%b);have hrn:=F6 (a:=a/BB^j) a0.1;refine And.symm ⟨λa3=>?_,λa3=>?_⟩;simp only[nrm]at a3
 refine⟨(AS (nl a) (hi (a/b) j),a/b),by
  rfl,by
  exact⟨by rw[Ai];omega,FP _ _,by rw[show j=0 by omega,PO,Ci,GV (Cy (Nat.div_le_self _ _))]⟩,?_⟩
 refine⟨rfl,?_⟩;rw[show j=0 by omega,Nat.pow_zero,Nat.div_one];simp only[nrm]at a3;have hj:((((j:Nat):Int)-1).toNat)=j-1:=by omega
 have hj1:j-1+1=j:=by omega
 have hs:=LK (a:=a) (j:=j-1) a0.1;have hq:=LL (a:=a) (j:=j-1) a0.1;rw[hj1]at hs hq;have hRn:=JZ hs;have hRb:(dgt a (j-1)+BB*(a/BB^j%b))/b<BB:=Nat.div_lt_of_lt_mul hs;have hRl:=F7 hRb;refine ao (by omega) λo23=>?_;refine ao (by omega) λo24=>?_;refine ao (by simp only[List.length_cons,List.length_nil];omega) λo25=>?_
 refine⟨(dgt a (j-1)::dig (a/BB^j%b),dgt a (j-1)+BB*(a/BB^j%b)),by
  rw[hj,L_n];rfl,by
  try dsimp only[Ab]
  exact⟨by show(dig _).length+1<=_;show nl _+1<=_;omega,LH (Bb _ _),E3 _ _⟩,?_⟩
 refine⟨((dgt a (j-1)+BB*(a/BB^j%b)),b),by
  rfl,by
  show nl (dgt a (j-1)+BB*(a/BB^j%b))<=1048576/\nl b<=1048576;first|exact⟨by omega,by omega⟩,?_⟩
 refine⟨λa2=>?_,λa2=>?_⟩;simp only[nrm]at a2;have a5:dgt a (j-1)+BB*(a/BB^j%b)<b:=Dm.1 a2;have hk:=Uc (q:=a/b) (i:=j-1) (by rw[← hq.1,Nat.div_eq_of_lt a5]);rw[hj1]at hk
 refine⟨j-1,by
  omega,by
  omega,?_⟩
 refine⟨?_,rfl,rfl,?_,?_⟩;rw[Cz (by omega) (by omega)];rw[hk];rw[← hq.2,Nat.mod_eq_of_lt a5];simp only[nrm]at a2;have a4:(AF (AS (nl a) (hi (a/b) j))).set ((((j:Nat):Int)-1).toNat) (((AF (AS (nl a) (hi (a/b) j))).getD ((((j:Nat):Int)-1).toNat) []).set 0 (Dat.int (((dgt a (j-1)+BB*(a/BB^j%b))/b:Nat):Int)))=AF (AS (nl a) (hi (a/b) (j-1))):=by rw[hj];exact Li (by omega) (by omega) hq.1
 refine⟨((dgt a (j-1)+BB*(a/BB^j%b)),b),by
  rfl,by
  show b≠0/\(dgt a (j-1)+BB*(a/BB^j%b))<b*BB/\nl b<=131072;exact⟨a0.1,hs,by omega⟩,?_⟩
 refine ao (by omega) λo44=>?_;refine ao (by omega) λo45=>?_
 refine⟨((dgt a (j-1)+BB*(a/BB^j%b))/b),by
  rfl,by
  exact Nat.le_trans (Nat.le_of_lt hRb) (by decide),?_⟩
 refine⟨(b,((dgt a (j-1)+BB*(a/BB^j%b))/b)),by
  rfl,by
  show nl b<=524288/\nl ((dgt a (j-1)+BB*(a/BB^j%b))/b)<=524288;first|exact⟨by omega,by omega⟩,?_⟩
 refine⟨((dgt a (j-1)+BB*(a/BB^j%b)),(b*((dgt a (j-1)+BB*(a/BB^j%b))/b))),by
  rfl,by
  try dsimp only[B8]
  have:=As b ((dgt a (j-1)+BB*(a/BB^j%b))/b);exact⟨by omega,by omega,Nat.mul_div_le _ _⟩,?_⟩
 refine⟨j-1,by
  omega,by
  omega,?_⟩
 refine⟨?_,rfl,rfl,?_,?_⟩;rw[Cz (by omega) (by omega)];exact a4;rw[LJ,hq.2]
def EY:Con:={ι:=Nat×Nat,pre:=λi=>i.1<=9223372036854775807/\i.2<=9223372036854775807,args:=λi=>[.one (cI ((i.1:Nat):Int)),.one (cI ((i.2:Nat):Int))],res:=λi=>⟨false,[none],[.own 3 [.int] (L (i.1.gcd i.2))]⟩}
theorem RK:EY.Ok Tryz.prog 162:=by
 refine fok (X:=⟨tt,[(123,A7)],[],15,[]⟩) mixed AG (CTok.cons IO (CTok.nil _)) Tryz.func162 (λ(i:Nat×Nat)=>[(1,.mk 1 (Nat×Nat) (λx1=>{tm:=[(0,tI (nI x1.1)),(1,tI (nI x1.2))],en:=[]}) (λx1=>x1.1.gcd x1.2=i.1.gcd i.2/\x1.1<=9223372036854775807/\x1.2<=9223372036854775807) (λx1=>x1.2) (λ_=>[]))]) ?_;rintro⟨x,y⟩ a1;have a1:x<=9223372036854775807/\y<=9223372036854775807:=a1;refine AH (q:=(∃x1:Nat×Nat,(x1.1.gcd x1.2=x.gcd y/\x1.1<=9223372036854775807/\x1.2<=9223372036854775807)/\((vI (nI x)=vI (nI x1.1))/\(vI (nI y)=vI (nI x1.2))))/\∀x1:Nat×Nat,(x1.1.gcd x1.2=x.gcd y/\x1.1<=9223372036854775807/\x1.2<=9223372036854775807)->(ifB ((decide ((nI x1.2)>(0:Int)))) (((nI x1.2)≠0)/\(∃y2:Nat×Nat,(y2.1.gcd y2.2=x.gcd y/\y2.1<=9223372036854775807/\y2.2<=9223372036854775807)/\(y2.2<x1.2)/\((vI (nI x1.2)=vI (nI y2.1))/\(vI (Int.tmod (nI x1.1) (nI x1.2))=vI (nI y2.2))))) (∃i1:Nat,[DA.one (cI (nI x1.1))]=A7.args i1/\A7.pre i1/\((L i1=L (x.gcd y)))))) (by kernel_rfl) ?_;delta ifB vI nI;refine⟨⟨(x,y),by exact⟨rfl,a1.1,a1.2⟩,?_⟩,?_⟩;exact⟨rfl,rfl⟩;rintro⟨n,r⟩ a0;have a0:n.gcd r=x.gcd y/\n<=9223372036854775807/\r<=9223372036854775807:=a0;refine And.symm ⟨λc5=>?_,λc5=>?_⟩;simp only[nrm]at c5
 refine⟨n,by
  rfl,by
  show n<=9223372036854775807;omega,?_⟩
 rw[← a0.1,show r=0 by omega,Nat.gcd_zero_right];simp only[nrm]at c5;refine ao (by omega) λo6=>?_
 refine⟨(r,n%r),by
  exact⟨(F8 n r).trans a0.1,a0.2.2,Nat.le_trans (Nat.mod_le _ _) a0.2.1⟩,by
  exact Nat.mod_lt _ (by omega),?_⟩
 refine⟨rfl,?_⟩;rfl
def DK:Con:={ι:=Nat×Nat,pre:=λi=>nl i.1<=131072/\nl i.2<=131072,args:=λi=>[.one (cS (L i.1)),.one (cS (L i.2))],res:=λi=>⟨false,[none],[.view 3 [.int] (L (i.1.gcd i.2))]⟩}
theorem OY:DK.Ok Tryz.prog 133:=by
 refine fok (X:=⟨tt,[(161,C2),(162,EY),(158,Bp)],[],52,[]⟩) mixed AG (CTok.cons RH (CTok.cons RK (CTok.cons OX (CTok.nil _)))) Tryz.func133 (λ(i:Nat×Nat)=>[(3,.mk 3 (Nat×Nat) (λx1=>{tm:=[(5,tX 1),(6,tX 2)],en:=[(1,eV (L x1.1)),(2,eV (L x1.2))]}) (λx1=>x1.1.gcd x1.2=i.1.gcd i.2/\nl x1.1<=131072/\nl x1.2<=131072) (λx1=>x1.2) (λ_=>[]))]) ?_;rintro⟨a,b⟩ a1;have a1:nl a<=131072/\nl b<=131072:=a1;refine AH (q:=(([]:List (List Dat)).length+(L a).length<=2199023255552)/\((([]:List (List Dat)).length+(L b).length<=2199023255552)/\((∃x1:Nat×Nat,(x1.1.gcd x1.2=a.gcd b/\nl x1.1<=131072/\nl x1.2<=131072)/\(((([]:List (List Dat))++(L a))=(L x1.1))/\((([]:List (List Dat))++(L b))=(L x1.2))))/\∀x1:Nat×Nat,(x1.1.gcd x1.2=a.gcd b/\nl x1.1<=131072/\nl x1.2<=131072)->(ifB ((decide ((nI ((L x1.2).length))>(0:Int)))) (ifB ((decide ((nI ((L x1.1).length))<(3:Int)))) (ifB ((decide ((nI ((L x1.2).length))<(3:Int)))) (∃i1:Nat,[DA.one (cS (L x1.1))]=C2.args i1/\C2.pre i1/\(∃i2:Nat,[DA.one (cS (L x1.2))]=C2.args i2/\C2.pre i2/\(∃i3:Nat×Nat,[DA.one (cI (nI i1)),DA.one (cI (nI i2))]=EY.args i3/\EY.pre i3/\((L (i3.1.gcd i3.2)=L (a.gcd b)))))) (∃i4:Nat×Nat,[DA.one (cS (L x1.1)),DA.one (cS (L x1.2))]=Bp.args i4/\Bp.pre i4/\(∃y2:Nat×Nat,(y2.1.gcd y2.2=a.gcd b/\nl y2.1<=131072/\nl y2.2<=131072)/\(y2.2<x1.2)/\(((L x1.2)=(L y2.1))/\(L (i4.1%i4.2)=(L y2.2)))))) (∃i5:Nat×Nat,[DA.one (cS (L x1.1)),DA.one (cS (L x1.2))]=Bp.args i5/\Bp.pre i5/\(∃y3:Nat×Nat,(y3.1.gcd y3.2=a.gcd b/\nl y3.1<=131072/\nl y3.2<=131072)/\(y3.2<x1.2)/\(((L x1.2)=(L y3.1))/\(L (i5.1%i5.2)=(L y3.2)))))) (((L x1.1)=L (a.gcd b))))))) (by kernel_rfl) ?_;delta ifB nI;have ha:=AJ a;have hb:=AJ b;refine ao (by first|(simp only[List.length_nil];omega)) λo1=>?_;refine ao (by first|(simp only[List.length_nil];omega)) λo2=>?_;refine⟨⟨(a,b),by exact⟨rfl,a1.1,a1.2⟩,?_⟩,?_⟩;refine⟨?_,?_⟩;exact List.nil_append _;exact List.nil_append _;rintro⟨x,y⟩ a0;have a0:x.gcd y=a.gcd b/\nl x<=131072/\nl y<=131072:=a0;have hx:=AJ x;have hy:=AJ y;have hy0:y≠0<->0<nl y:=⟨Hi,λh e=>by rw[e,CP]at h;omega⟩;have a3:∀n,nl n<=2->n<=9223372036854775807:=λn h=>Nat.le_of_lt (Nat.lt_trans (GU h) (by decide));refine And.symm ⟨λc7=>?_,λc7=>?_⟩;simp only[nrm]at c7;rw[← a0.1,Ck.1 (show nl y=0 by omega),Nat.gcd_zero_right];simp only[nrm]at c7;have a2:y≠0:=hy0.2 (by omega);refine And.symm ⟨λc8=>?_,λc8=>?_⟩;simp only[nrm]at c8
 refine⟨(x,y),by
  rfl,by
  exact⟨a2,a0.2.1,a0.2.2⟩,?_⟩
 refine⟨(y,x%y),by
  exact⟨(F8 x y).trans a0.1,a0.2.2,Nat.le_trans (F6 a2) a0.2.2⟩,by
  exact Nat.mod_lt _ (Nat.pos_of_ne_zero a2),?_⟩
 exact⟨rfl,rfl⟩;simp only[nrm]at c8;refine And.symm ⟨λc9=>?_,λc9=>?_⟩;simp only[nrm]at c9
 refine⟨(x,y),by
  rfl,by
  exact⟨a2,a0.2.1,a0.2.2⟩,?_⟩
 refine⟨(y,x%y),by
  exact⟨(F8 x y).trans a0.1,a0.2.2,Nat.le_trans (F6 a2) a0.2.2⟩,by
  exact Nat.mod_lt _ (Nat.pos_of_ne_zero a2),?_⟩
 exact⟨rfl,rfl⟩;simp only[nrm]at c9
 refine⟨x,by
  rfl,by
  show nl x<=2;omega,?_⟩
 refine⟨y,by
  rfl,by
  show nl y<=2;omega,?_⟩
 refine⟨(x,y),by
  rfl,by
  exact⟨a3 x (by omega),a3 y (by omega)⟩,?_⟩
 rw[a0.1]
end Go.Proofs.YthoidhehmmcgnaaGreat
