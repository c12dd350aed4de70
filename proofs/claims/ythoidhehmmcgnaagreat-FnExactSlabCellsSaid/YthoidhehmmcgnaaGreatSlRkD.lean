import Derived.Test.YthoidhehmmcgnaaGreatSlRkC
namespace Go.Proofs.YthoidhehmmcgnaaGreat
set_option maxRecDepth 100000
set_option linter.unusedVariables false
set_option linter.unusedSimpArgs false
open Go.RowKit
theorem Zq{x:Int}(h:0<=x/\x<=999999999):inB x=true:=by unfold inB;rw[decide_eq_true h.1,decide_eq_true h.2];rfl
theorem ABY{x:Int}(h:x<0\/999999999<x):inB x=false:=by unfold inB;rcases h with h|h;rw[decide_eq_false (show ¬0<=x by omega)];rfl;rw[decide_eq_false (show ¬x<=999999999 by omega),Bool.and_false]
theorem YL{l:List (List Dat)}(h:∀j,j<l.length->inB (rn (l.getD j []))=true):(l.any λr=>!(inB (rn r)))=false:=by rw[List.any_eq_false];intro r hr;obtain⟨k,hk,rfl⟩:=List.getElem_of_mem hr;have:=h k hk;rw[List.getD,List.getElem?_eq_getElem hk]at this;simp only[Option.getD_some]at this;rw[this];simp
theorem TW{l:List (List Dat)}{k:Nat}(hk:k<l.length)(h:inB (rn (l.getD k []))=false):BO l=false:=by apply NJ;rw[List.any_eq_true];refine⟨l[k],List.getElem_mem hk,?_⟩;rw[List.getD,List.getElem?_eq_getElem hk]at h;simp only[Option.getD_some]at h;rw[h];rfl
theorem Zr:dig 9223372036854775807=[854775807,223372036,9]:=by rw[CZ (by decide),CZ (by decide),CZ (by decide),show 9223372036854775807/BB/BB/BB=0 from by decide,CD];rfl
theorem Zs:dig 9223372036854775808=[854775808,223372036,9]:=by rw[CZ (by decide),CZ (by decide),CZ (by decide),show 9223372036854775808/BB/BB/BB=0 from by decide,CD];rfl
theorem ADP:[[Dat.int (854775807:Int)],[Dat.int (223372036:Int)],[Dat.int (9:Int)]]=L 9223372036854775807:=by unfold L;rw[Zr];rfl
theorem ADQ:[[Dat.int (854775808:Int)],[Dat.int (223372036:Int)],[Dat.int (9:Int)]]=L 9223372036854775808:=by unfold L;rw[Zs];rfl
theorem H8{n:Nat}(h:(L n).length=0):n=0:=Co.1 (by rw[← AK];exact h)
theorem TX{a b i:Nat} : a%BB^i*b<BB^(i+nl b):=by rw[Nat.pow_add];exact Nat.mul_lt_mul'' (Nat.mod_lt _ (BBp i)) (C4 b)
theorem ABZ{V p d N:Nat}(hp:p<N)(hV:V<BB^N)(hd:d<BB):V-dgt V p*BB^p+d*BB^p<BB^N:=by
 have e1:=GH V p;have e2:=Nat.div_add_mod V (BB^(p+1));have eN:BB^N=BB^(p+1)*BB^(N-p-1):=by rw[← Nat.pow_add];congr 1;omega
 have hQ:V/BB^(p+1)<BB^(N-p-1):=Nat.div_lt_of_lt_mul (by rw[← eN];exact hV);have h1:BB^(p+1)*(V/BB^(p+1)+1)<=BB^N:=by rw[eN];exact Nat.mul_le_mul_left _ hQ
 have hr:=Nat.mod_lt V (BBp p);have h2:(d+1)*BB^p<=BB^(p+1):=by rw[Nat.pow_succ,Nat.mul_comm (BB^p)];exact Nat.mul_le_mul_right _ hd
 rw[Nat.add_mul,Nat.one_mul]at h2;rw[Nat.mul_add,Nat.mul_one]at h1;rw[Nat.mul_comm (BB^p)]at e1;generalize V%BB^p=r at *;generalize V/BB^(p+1)=q at *;generalize V%BB^(p+1)=s at *;omega
def CJ:Con:={ι:=(List (List Dat)),pre:=λi=>i.length<=9223372036854775807,args:=λi=>[.one (cS i)],res:=λi=>⟨false,[none],[rcB (BO i)]⟩}
theorem Ki:CJ.Ok Tryz.prog 131:=by
 refine fok (X:=⟨tt,[(46,EA)],[],32,[]⟩) mixed AF (CTok.cons RS (CTok.nil _)) Tryz.func131 (λ(i:(List (List Dat)))=>[(2,.mk 2 (Nat) (λx1=>{tm:=[(0,tX 1),(5,tX 1),(6,tI (nI i.length)),(7,tI (nI x1))],en:=[(1,eV i)]}) (λx1=>x1<=i.length/\∀j,j<x1->inB (rn (i.getD j []))=true) (λx1=>i.length-x1) (λ_=>[]))]) ?_;intro (l:List (List Dat)) a1;have a1:l.length<=9223372036854775807:=a1;refine AG (q:=let Z3:=(vB false=vB (BO l));let Z2:=nI l.length;let Z1:=wR (Z2-(1:Int));(∃x1:Nat,(x1<=l.length/\∀j,j<x1->inB (rn (l.getD j []))=true)/\((rf (vI Z2))/\(vI (0:Int)=vI (nI x1))/\(rf (l))))/\∀x1:Nat,(x1<=l.length/\∀j,j<x1->inB (rn (l.getD j []))=true)->(ifB ((decide ((nI x1)<Z2))) ((0<=(nI x1)/\(nI x1)<(l.length:Int))/\((x1<l.length)/\(∃i1:Int×Int×Int,[DA.one (cI ((((l.getD x1 []).getD 0 (.int 0))).n)),DA.one (cI (0:Int)),DA.one (cI (999999999:Int))]=EA.args i1/\EA.pre i1/\(ifB ((!(decide (i1.1>=i1.2.1) && decide (i1.1<=i1.2.2)))) Z3 (∃y2:Nat,(y2<=l.length/\∀j,j<y2->inB (rn (l.getD j []))=true)/\(l.length-y2<l.length-x1)/\((rf (vI Z2))/\(vI (wR ((nI x1)+(1:Int)))=vI (nI y2))/\(rf (l)))))))) (ifB ((decide (Z2<=(60:Int)))) (ifB ((!(Z2 == (0:Int)))) ((0<=Z1/\Z1<(l.length:Int))/\((Z1.toNat<l.length)/\((vB ((((l.getD (Z1.toNat) []).getD 0 (.int 0))).n != (0:Int))=vB (BO l))))) ((vB true=vB (BO l)))) Z3))) (by kernel_rfl) ?_;conv=>zeta
 delta ifB vB vI wR nI;refine⟨⟨0,by exact⟨Nat.zero_le _,λj hj=>absurd hj (Nat.not_lt_zero j)⟩,?_⟩,?_⟩;refine⟨rfl,?_,rfl⟩;rfl;intro (k:Nat) a0;have a0:k<=l.length/\∀j,j<k->inB (rn (l.getD j []))=true:=a0;refine⟨λc6=>?_,λc6=>?_⟩;simp only[nrm]at c6;refine ao (by omega) λo7=>?_;refine ao (by omega) λo8=>?_
 refine⟨((((l.getD k []).getD 0 (.int 0))).n,(0:Int),(999999999:Int)),by
  rfl,by
  trivial,?_⟩
 refine⟨λa2=>?_,λa2=>?_⟩;simp only[nrm]at a2;have hE:=TW o8 (ABY a2);rw[hE];simp only[nrm]at a2
 refine⟨k+1,by
  exact⟨by omega,Jj a0.2 (Zq a2)⟩,by
  omega,?_⟩
 refine⟨rfl,?_,rfl⟩;exact AS (AC (by omega) (by omega));simp only[nrm]at c6;have a3:=YL (l:=l) (λj hj=>a0.2 j (by omega));refine And.symm ⟨λa4=>?_,λa4=>?_⟩;simp only[nrm]at a4;have hE:=NI (l:=l) (by omega);rw[hE];simp only[nrm]at a4;refine And.symm ⟨λa5=>?_,λa5=>?_⟩;simp only[nrm]at a5;have hE:=NK (l:=l) (by omega);rw[hE];simp only[nrm]at a5;have hE:=Lf (l:=l) (by omega) a3 (by omega);have hw:(IntKind.i64.wrap (((l.length:Nat):Int)-(1:Int)))=((l.length-1:Nat):Int):=by rw[AC (by omega) (by omega)];omega
 refine ao (by omega) λo22=>?_;refine ao (by omega) λo23=>?_;rw[hw,Int.toNat_natCast,hE];rfl
def Ae:Con:={ι:=(List Nat)×Nat,pre:=λi=>i.1.length<=1048576/\(∀q ∈ i.1,q<BB)/\Al i.1=i.2,args:=λi=>[.one (cS (AE i.1))],res:=λi=>⟨false,[none],[.view 3 [.int] (L i.2)]⟩}
theorem EG:Ae.Ok Tryz.prog 157:=by
 refine fok (X:=⟨tt,[],[],21,[]⟩) mixed AF (CTok.nil _) Tryz.func157 (λ(i:(List Nat)×Nat)=>[(2,.mk 2 (Nat) (λx1=>{tm:=[(0,tX 1),(3,tI (nI x1))],en:=[(1,eV (AE i.1))]}) (λx1=>x1<=i.1.length/\Al (i.1.take x1)=Al i.1) (λx1=>x1) (λ_=>[]))]) ?_;rintro⟨l,n⟩ a1;have a1:l.length<=1048576/\(∀q ∈ l,q<BB)/\Al l=n:=a1;refine AG (q:=let Z3:=((AE l).length:Int);(∃x1:Nat,(x1<=l.length/\Al (l.take x1)=Al l)/\((vI (nI ((AE l).length))=vI (nI x1))/\(rf (AE l))))/\∀x1:Nat,let Z2:=wR ((nI x1)-(1:Int));let Z1:=(Nat.beq 1 1=true)/\((0<=(0:Int))/\(((0:Int)<=(nI x1))/\(((nI x1)<=Z3)/\((((AE l).take x1)=L n)))));(x1<=l.length/\Al (l.take x1)=Al l)->(ifB ((decide ((nI x1)>(0:Int)))) ((0<=Z2/\Z2<Z3)/\((Z2.toNat<(AE l).length)/\(ifB ((((((AE l).getD (Z2.toNat) []).getD 0 (.int 0))).n == (0:Int))) (∃y2:Nat,(y2<=l.length/\Al (l.take y2)=Al l)/\(y2<x1)/\((vI Z2=vI (nI y2))/\(rf (AE l)))) Z1))) Z1)) (by kernel_rfl) ?_;conv=>zeta
 delta ifB vI wR nI;have hl:=BR l;refine⟨⟨l.length,by exact⟨Nat.le_refl _,by rw[List.take_length]⟩,?_⟩,?_⟩;refine⟨?_,rfl⟩;rw[hl];intro (k:Nat) a0;have a0:k<=l.length/\Al (l.take k)=Al l:=a0;have hw:k≠0->IntKind.i64.wrap ((k:Int)-(1:Int))=((k-1:Nat):Int):=λh=>by rw[AC (by omega) (by omega)];omega
 refine And.symm ⟨λc5=>?_,λc5=>?_⟩;simp only[nrm]at c5;refine ao (by rfl) λo19=>?_;refine ao (by omega) λo20=>?_;refine ao (by omega) λo21=>?_;refine ao (by omega) λo22=>?_;rw[← a1.2.2];exact Jk a1.2.1 a0.1 a0.2 (.inl (by omega));simp only[nrm]at c5;refine ao (by omega) λo6=>?_;refine ao (by omega) λo7=>?_;refine⟨λc8=>?_,λc8=>?_⟩;simp only[nrm]at c8;rw[hw (by omega),Int.toNat_natCast,Ji]at c8
 refine⟨k-1,by
  exact⟨by omega,(OY (by omega) (by omega) (by exact_mod_cast c8)).trans a0.2⟩,by
  omega,?_⟩
 refine⟨?_,rfl⟩;rw[hw (by omega)];simp only[nrm]at c8;rw[hw (by omega),Int.toNat_natCast,Ji]at c8;refine ao (by rfl) λo14=>?_;refine ao (by omega) λo15=>?_;refine ao (by omega) λo16=>?_;refine ao (by omega) λo17=>?_;rw[← a1.2.2];exact Jk a1.2.1 a0.1 a0.2 (.inr (by exact_mod_cast c8))
def Gs:Con:={ι:=Nat,pre:=λi=>nl i<=60,args:=λi=>[.one (cS (L i))],res:=λi=>⟨false,[none],[.view 3 [.int] (L i)]⟩}
theorem WH:Gs.Ok Tryz.prog 156:=by
 refine fok (X:=⟨tt,[(157,Ae)],[],10,[]⟩) mixed AF (CTok.cons EG (CTok.nil _)) Tryz.func156 (λ_=>[]) ?_;intro (n:Nat) a0;have a0:nl n<=60:=a0;refine AG (q:=∃i1:(List Nat)×Nat,[DA.one (cS (L n))]=Ae.args i1/\Ae.pre i1/\(ifB ((decide ((nI ((L i1.2).length))>(60:Int)))) ((([]:List (List Dat))=L n)) ((L i1.2=L n)))) (by kernel_rfl) ?_;delta ifB nI
 refine⟨(dig n,n),by
  rfl,by
  exact⟨by show nl _<=_;omega,M0 _,EB _⟩,?_⟩
 refine⟨λc4=>?_,λc4=>?_⟩;simp only[nrm]at c4;exfalso;rw[AK]at c4;omega;simp only[nrm]at c4;exact rfl
def BC:Con:={ι:=Nat,pre:=λi=>i<=9223372036854775807,args:=λi=>[.one (cI ((i:Nat):Int))],res:=λi=>⟨false,[none],[.own 3 [.int] (L i)]⟩}
theorem Ig:BC.Ok Tryz.prog 123:=by
 refine fok (X:=⟨tt,[],[],15,[]⟩) mixed AF (CTok.nil _) Tryz.func123 (λ(i:Nat)=>[(2,.mk 2 (Nat×(List Nat)) (λx1=>{tm:=[(0,tI (nI x1.1)),(3,tX 1)],en:=[(1,.own 3 [.int] (AE x1.2))]}) (λx1=>x1.2++dig x1.1=dig i/\x1.1<=i) (λx1=>x1.1) (λ_=>[]))]) ?_;intro (n:Nat) a1;have a1:n<=9223372036854775807:=a1;refine AG (q:=let Z2:=(1000000000:Int)≠0;(∃x1:Nat×(List Nat),(x1.2++dig x1.1=dig n/\x1.1<=n)/\((vI (nI n)=vI (nI x1.1))/\(([]:List (List Dat))=(AE x1.2))))/\∀x1:Nat×(List Nat),let Z3:=AE x1.2;let Z1:=Int.tmod (nI x1.1) (1000000000:Int);(x1.2++dig x1.1=dig n/\x1.1<=n)->(ifB ((decide ((nI x1.1)>(0:Int)))) (Z2/\((Z3.length+([[Dat.int Z1]]:List (List Dat)).length<=2199023255552)/\(Z2/\(∃y2:Nat×(List Nat),(y2.2++dig y2.1=dig n/\y2.1<=n)/\(y2.1<x1.1)/\((vI (wR (Int.tdiv (nI x1.1) (1000000000:Int)))=vI (nI y2.1))/\((Z3++([[Dat.int Z1]]:List (List Dat)))=(AE y2.2))))))) ((Z3=L n)))) (by kernel_rfl) ?_;conv=>zeta
 delta ifB vI wR nI;refine⟨⟨(n,[]),by exact⟨rfl,Nat.le_refl _⟩,?_⟩,?_⟩;refine⟨rfl,?_⟩;rfl;rintro⟨m,o⟩ a0;have a0:o++dig m=dig n/\m<=n:=a0;have hol:o.length<=64:=by have h1:=congrArg List.length a0.1;rw[List.length_append]at h1;have h2:nl n<=64:=(Do _ _).2 (Nat.lt_of_le_of_lt a1 (by decide));unfold nl at h2;omega
 have hrl:=BR o;refine And.symm ⟨λc5=>?_,λc5=>?_⟩;simp only[nrm]at c5;have hm:m=0:=by omega
 rw[← RX (by rw[← a0.1,hm,CD,List.append_nil])];simp only[nrm]at c5;refine ao (by omega) λo6=>?_;refine ao (by simp only[List.length_cons,List.length_nil];omega) λo7=>?_;refine ao (by omega) λo8=>?_
 refine⟨(m/BB,o++[m%BB]),by
  refine⟨?_,Nat.le_trans (Nat.div_le_self _ _) a0.2⟩;rw[← a0.1,CZ (n:=m) (by omega),List.append_assoc];rfl,by
  exact Nat.div_lt_self (by omega) (by decide),?_⟩
 refine⟨?_,?_⟩;rw[DX,Bu (Nat.le_trans (Nat.div_le_self _ _) (by omega))];exact Ao _ _
def AX:Con:={ι:=Nat×Nat,pre:=λi=>nl i.1<=1048576/\nl i.2<=1048576,args:=λi=>[.one (cS (L i.1)),.one (cS (L i.2))],res:=λi=>⟨false,[none],[rcI (B7 i.1 i.2)]⟩}
theorem GQ:AX.Ok Tryz.prog 163:=by
 refine fok (X:=⟨tt,[],[],41,[]⟩) mixed AF (CTok.nil _) Tryz.func163 (λ(i:Nat×Nat)=>[(6,.mk 3 (Nat) (λx1=>{tm:=[(0,tX 1),(1,tX 2),(5,tI ((nI x1)-1))],en:=[(1,eV (L i.1)),(2,eV (L i.2))]}) (λx1=>x1<=nl i.1/\nl i.1=nl i.2/\i.1/BB^x1=i.2/BB^x1) (λx1=>x1) (λ_=>[]))]) ?_;rintro⟨a,b⟩ a1;have a1:nl a<=1048576/\nl b<=1048576:=a1;refine AG (q:=let Z6:=(vI (1:Int)=vI (B7 a b));let Z5:=(vI (-1:Int)=vI (B7 a b));let Z4:=nI ((L a).length);ifB ((Z4 != (nI ((L b).length)))) (ifB ((decide (Z4<(nI ((L b).length))))) Z5 Z6) ((∃x1:Nat,(x1<=nl a/\nl a=nl b/\a/BB^x1=b/BB^x1)/\((vI (wR (Z4-(1:Int)))=vI ((nI x1)-1))/\(rf (L a))/\(rf (L b))))/\∀x1:Nat,let Z1:=(nI x1)-1;let Z8:=Z1.toNat<(L b).length;let Z7:=Z1.toNat<(L a).length;let Z3:=(((L b).getD (Z1.toNat) []).getD 0 (.int 0));let Z2:=(((L a).getD (Z1.toNat) []).getD 0 (.int 0));(x1<=nl a/\nl a=nl b/\a/BB^x1=b/BB^x1)->(ifB ((decide (Z1>=(0:Int)))) ((0<=Z1/\Z1<((L a).length:Int))/\(Z7/\((0<=Z1/\Z1<((L b).length:Int))/\(Z8/\(ifB ((decide (Z2.n<Z3.n))) Z5 ((0<=Z1/\Z1<((L a).length:Int))/\(Z7/\((0<=Z1/\Z1<((L b).length:Int))/\(Z8/\(ifB ((decide (Z2.n>Z3.n))) Z6 (∃y2:Nat,(y2<=nl a/\nl a=nl b/\a/BB^y2=b/BB^y2)/\(y2<x1)/\((vI (wR (Z1-(1:Int)))=vI ((nI y2)-1))/\(rf (L a))/\(rf (L b)))))))))))))) ((vI (0:Int)=vI (B7 a b)))))) (by kernel_rfl) ?_;conv=>zeta
 delta ifB vI wR nI;have ha:=AK a;have hb:=AK b;refine⟨λc1=>?_,λc1=>?_⟩;simp only[nrm]at c1;refine⟨λc2=>?_,λc2=>?_⟩;simp only[nrm]at c2;rw[Lv (Jh (by omega))];simp only[nrm]at c2;rw[Lw (Jh (by omega))];simp only[nrm]at c1;refine⟨⟨nl a,by exact⟨Nat.le_refl _,by omega,by rw[Nat.div_eq_of_lt (C4 a),show nl a=nl b by omega,Nat.div_eq_of_lt (C4 b)]⟩,?_⟩,?_⟩;refine⟨?_,rfl,rfl⟩;rw[ha,AC (by omega) (by omega)];intro (j:Nat) a0;have a0:j<=nl a/\nl a=nl b/\a/BB^j=b/BB^j:=a0;refine And.symm ⟨λa4=>?_,λa4=>?_⟩;simp only[nrm]at a4;have hj0:j=0:=by omega
 subst hj0;have e:=a0.2.2;rw[Nat.pow_zero,Nat.div_one,Nat.div_one]at e;rw[e,Uo];simp only[nrm]at a4;have hj:((((j:Nat):Int)-1).toNat)=j-1:=by omega
 have hj1:j-1+1=j:=by omega
 have he:a/BB^(j-1+1)=b/BB^(j-1+1):=by rw[hj1];exact a0.2.2
 refine ao (by omega) λo11=>?_;refine ao (by omega) λo12=>?_;refine ao (by omega) λo13=>?_;refine ao (by omega) λo14=>?_;refine⟨λa2=>?_,λa2=>?_⟩;simp only[nrm]at a2;rw[hj,L_n,L_n]at a2;rw[Lv (IV (k:=j-1) he (by omega))];simp only[nrm]at a2;rw[hj,L_n,L_n]at a2;refine ao (by omega) λo17=>?_;refine ao (by omega) λo18=>?_;refine ao (by omega) λo19=>?_;refine ao (by omega) λo20=>?_;refine⟨λa3=>?_,λa3=>?_⟩;simp only[nrm]at a3;rw[hj,L_n,L_n]at a3;rw[Lw (IV (k:=j-1) he.symm (by omega))];simp only[nrm]at a3;rw[hj,L_n,L_n]at a3
 refine⟨j-1,by
  exact⟨by omega,a0.2.1,Ui (k:=j-1) he (by omega)⟩,by
  omega,?_⟩
 refine⟨?_,rfl,rfl⟩;rw[C0 (by omega) (by omega)]
def C3:Con:={ι:=Nat,pre:=λi=>nl i<=2,args:=λi=>[.one (cS (L i))],res:=λi=>⟨true,[none,none],[rcI ((i:Nat):Int),rcB true]⟩}
theorem Rh:C3.Ok Tryz.prog 161:=by
 refine fok (X:=⟨tt,[(131,CJ),(163,AX)],[],30,[]⟩) mixed AF (CTok.cons Ki (CTok.cons GQ (CTok.nil _))) Tryz.func161 (λ(i:Nat)=>[(5,.mk 2 (Nat) (λx1=>{tm:=[(0,tX 1),(4,tI (nI (i/BB^x1))),(5,tI ((nI x1)-1))],en:=[(1,eV (L i))]}) (λx1=>x1<=nl i) (λx1=>x1) (λ_=>[]))]) ?_;intro (a:Nat) a1;have a1:nl a<=2:=a1;refine AG (q:=let Z2:=(vI (0:Int)=vI (nI a))/\(vB false=vB true);∃i1:(List (List Dat)),[DA.one (cS (L a))]=CJ.args i1/\CJ.pre i1/\(ifB ((!(!(BO i1)))) (∃i2:Nat×Nat,[DA.one (cS (L a)),DA.one (cS ([[Dat.int (854775807:Int)],[Dat.int (223372036:Int)],[Dat.int (9:Int)]]:List (List Dat)))]=AX.args i2/\AX.pre i2/\(ifB ((decide ((B7 i2.1 i2.2)>(0:Int)))) Z2 ((∃x1:Nat,(x1<=nl a)/\((vI (0:Int)=vI (nI (a/BB^x1)))/\(vI (wR ((nI ((L a).length))-(1:Int)))=vI ((nI x1)-1))/\(rf (L a))))/\∀x1:Nat,let Z1:=(nI x1)-1;(x1<=nl a)->(ifB ((decide (Z1>=(0:Int)))) ((0<=Z1/\Z1<((L a).length:Int))/\((Z1.toNat<(L a).length)/\(∃y2:Nat,(y2<=nl a)/\(y2<x1)/\((vI (wR ((wR ((nI (a/BB^x1))*(1000000000:Int)))+((((L a).getD (Z1.toNat) []).getD 0 (.int 0))).n))=vI (nI (a/BB^y2)))/\(vI (wR (Z1-(1:Int)))=vI ((nI y2)-1))/\(rf (L a)))))) ((vI (nI (a/BB^x1))=vI (nI a))/\(vB true=vB true)))))) Z2)) (by kernel_rfl) ?_;conv=>zeta
 delta ifB vB vI wR nI;have ha:=AK a;have a3:a<BB^2:=Gf a1
 refine⟨(L a),by
  rfl,by
  show(L a).length<=9223372036854775807;omega,?_⟩
 refine And.symm ⟨λc4=>?_,λc4=>?_⟩;simp only[nrm]at c4;exfalso;rw[M9,decide_eq_true (by omega)]at c4;cases c4;simp only[nrm]at c4
 refine⟨(a,9223372036854775807),by
  rw[ADP];rfl,by
  show nl a<=1048576/\nl 9223372036854775807<=1048576;exact⟨by omega,Nat.le_trans ((Do 3 _).2 (by decide)) (by decide)⟩,?_⟩
 refine⟨λc8=>?_,λc8=>?_⟩;simp only[nrm]at c8;exfalso;have:=H5.2 (show a<=9223372036854775807 from Nat.le_of_lt (Nat.lt_trans a3 (by decide)));omega;simp only[nrm]at c8;refine⟨⟨nl a,by omega,?_⟩,?_⟩;refine⟨?_,?_,rfl⟩;rw[Nat.div_eq_of_lt (C4 a)];rfl;rw[ha,AC (by omega) (by omega)];intro (j:Nat) a0;have a0:j<=nl a:=a0;refine And.symm ⟨λa2=>?_,λa2=>?_⟩;simp only[nrm]at a2;refine⟨?_,rfl⟩;rw[show j=0 by omega,Nat.pow_zero,Nat.div_one];simp only[nrm]at a2;have hj:((((j:Nat):Int)-1).toNat)=j-1:=by omega
 have hj1:j-1+1=j:=by omega
 have hd:=Bq a (j-1);rw[hj1]at hd;have hr:a/BB^j<BB:=Nat.div_lt_of_lt_mul (Nat.lt_of_lt_of_le a3 (by rw[← Nat.pow_succ];exact Nat.pow_le_pow_right Dm (by omega)));refine ao (by omega) λo17=>?_;refine ao (by omega) λo18=>?_
 refine⟨j-1,by
  omega,by
  omega,?_⟩
 refine⟨?_,?_,rfl⟩;rw[hj,L_n,Kh hr (Bn _ _),← hd];rw[C0 (by omega) (by omega)]
def Gt:Con:={ι:=Nat×Nat,pre:=λi=>nl i.1<=1048576/\nl i.2<=1048576,args:=λi=>[.one (cS (L i.1)),.one (cS (L i.2))],res:=λi=>⟨false,[none],[.own 3 [.int] (L (i.1+i.2))]⟩}
set_option maxHeartbeats 1600000 in
theorem WI:Gt.Ok Tryz.prog 182:=by
 refine fok (X:=⟨tt,[],[],55,[]⟩) mixed AF (CTok.nil _) Tryz.func182 (λ(i:Nat×Nat)=>[(4,.mk 4 (Nat) (λx1=>{tm:=[(0,tX 1),(1,tX 2),(5,tX 3),(6,tI (nI (BJ i.1 i.2 x1))),(7,tI (nI x1))],en:=[(1,eV (L i.1)),(2,eV (L i.2)),(3,.own 3 [.int] (AE (AU x1 (i.1+i.2))))]}) (λx1=>x1<=max (nl i.1) (nl i.2)+1/\(x1=0\/BB^(x1-1)<=i.1+i.2)) (λx1=>max (nl i.1) (nl i.2)+2-x1) (λ_=>[]))]) ?_;rintro⟨a,b⟩ aC;have aC:nl a<=1048576/\nl b<=1048576:=aC
 refine AG (q:=let aE:=((L a).length:Int);let a0:=List Dat;let a9:=((L b).length:Int);let Z4:=(1000000000:Int)≠0;(∃x1:Nat,(x1<=max (nl a) (nl b)+1/\(x1=0\/BB^(x1-1)<=a+b))/\((vI (0:Int)=vI (nI (BJ a b x1)))/\(vI (0:Int)=vI (nI x1))/\(rf (L a))/\(rf (L b))/\(([]:List a0)=(AE (AU x1 (a+b))))))/\∀x1:Nat,let aF:=x1<(L a).length;let aA:=x1<(L b).length;let aD:=decide ((nI x1)<(nI ((L a).length)));let aB:=nI (BJ a b x1);let aX:=Int.tmod aB (1000000000:Int);let aG:=wR (Int.tdiv aB (1000000000:Int));let Z9:=decide ((nI x1)<(nI ((L b).length)));let Z6:=wR ((nI x1)+(1:Int));let Z3:=AE (AU x1 (a+b));let aH:=Z3++([[Dat.int aX]]:List a0);let Z7:=Z3.length+([[Dat.int aX]]:List a0).length<=2199023255552;let Z2:=(((L b).getD x1 []).getD 0 (.int 0));let aI:=wR (Int.tdiv (wR (aB+Z2.n)) (1000000000:Int));let Z5:=Int.tmod (wR (aB+Z2.n)) (1000000000:Int);let aJ:=Z3++([[Dat.int Z5]]:List a0);let aK:=Z3.length+([[Dat.int Z5]]:List a0).length<=2199023255552;let Z1:=wR (aB+((((L a).getD x1 []).getD 0 (.int 0))).n);let aY:=Int.tmod Z1 (1000000000:Int);let aZ:=Int.tmod (wR (Z1+Z2.n)) (1000000000:Int);let aL:=wR (Int.tdiv Z1 (1000000000:Int));let aM:=wR (Int.tdiv (wR (Z1+Z2.n)) (1000000000:Int));let aN:=Z3++([[Dat.int aY]]:List a0);let aO:=Z3++([[Dat.int aZ]]:List a0);let aP:=Z3.length+([[Dat.int aY]]:List a0).length<=2199023255552;let Z8:=Z3.length+([[Dat.int aZ]]:List a0).length<=2199023255552;(x1<=max (nl a) (nl b)+1/\(x1=0\/BB^(x1-1)<=a+b))->(ifB ((!aD)) (ifB ((!Z9)) (ifB ((decide (aB>(0:Int)))) (ifB (aD) ((0<=(nI x1)/\(nI x1)<aE)/\(aF/\(ifB (Z9) ((0<=(nI x1)/\(nI x1)<a9)/\(aA/\(Z4/\(Z8/\(Z4/\(∃y2:Nat,(y2<=max (nl a) (nl b)+1/\(y2=0\/BB^(y2-1)<=a+b))/\(max (nl a) (nl b)+2-y2<max (nl a) (nl b)+2-x1)/\((vI aM=vI (nI (BJ a b y2)))/\(vI Z6=vI (nI y2))/\(rf (L a))/\(rf (L b))/\(aO=(AE (AU y2 (a+b))))))))))) (Z4/\(aP/\(Z4/\(∃y3:Nat,(y3<=max (nl a) (nl b)+1/\(y3=0\/BB^(y3-1)<=a+b))/\(max (nl a) (nl b)+2-y3<max (nl a) (nl b)+2-x1)/\((vI aL=vI (nI (BJ a b y3)))/\(vI Z6=vI (nI y3))/\(rf (L a))/\(rf (L b))/\(aN=(AE (AU y3 (a+b)))))))))))) (ifB (Z9) ((0<=(nI x1)/\(nI x1)<a9)/\(aA/\(Z4/\(aK/\(Z4/\(∃y4:Nat,(y4<=max (nl a) (nl b)+1/\(y4=0\/BB^(y4-1)<=a+b))/\(max (nl a) (nl b)+2-y4<max (nl a) (nl b)+2-x1)/\((vI aI=vI (nI (BJ a b y4)))/\(vI Z6=vI (nI y4))/\(rf (L a))/\(rf (L b))/\(aJ=(AE (AU y4 (a+b))))))))))) (Z4/\(Z7/\(Z4/\(∃y5:Nat,(y5<=max (nl a) (nl b)+1/\(y5=0\/BB^(y5-1)<=a+b))/\(max (nl a) (nl b)+2-y5<max (nl a) (nl b)+2-x1)/\((vI aG=vI (nI (BJ a b y5)))/\(vI Z6=vI (nI y5))/\(rf (L a))/\(rf (L b))/\(aH=(AE (AU y5 (a+b))))))))))) ((Z3=L (a+b)))) (ifB (aD) ((0<=(nI x1)/\(nI x1)<aE)/\(aF/\(ifB (Z9) ((0<=(nI x1)/\(nI x1)<a9)/\(aA/\(Z4/\(Z8/\(Z4/\(∃y6:Nat,(y6<=max (nl a) (nl b)+1/\(y6=0\/BB^(y6-1)<=a+b))/\(max (nl a) (nl b)+2-y6<max (nl a) (nl b)+2-x1)/\((vI aM=vI (nI (BJ a b y6)))/\(vI Z6=vI (nI y6))/\(rf (L a))/\(rf (L b))/\(aO=(AE (AU y6 (a+b))))))))))) (Z4/\(aP/\(Z4/\(∃y7:Nat,(y7<=max (nl a) (nl b)+1/\(y7=0\/BB^(y7-1)<=a+b))/\(max (nl a) (nl b)+2-y7<max (nl a) (nl b)+2-x1)/\((vI aL=vI (nI (BJ a b y7)))/\(vI Z6=vI (nI y7))/\(rf (L a))/\(rf (L b))/\(aN=(AE (AU y7 (a+b)))))))))))) (ifB (Z9) ((0<=(nI x1)/\(nI x1)<a9)/\(aA/\(Z4/\(aK/\(Z4/\(∃y8:Nat,(y8<=max (nl a) (nl b)+1/\(y8=0\/BB^(y8-1)<=a+b))/\(max (nl a) (nl b)+2-y8<max (nl a) (nl b)+2-x1)/\((vI aI=vI (nI (BJ a b y8)))/\(vI Z6=vI (nI y8))/\(rf (L a))/\(rf (L b))/\(aJ=(AE (AU y8 (a+b))))))))))) (Z4/\(Z7/\(Z4/\(∃y9:Nat,(y9<=max (nl a) (nl b)+1/\(y9=0\/BB^(y9-1)<=a+b))/\(max (nl a) (nl b)+2-y9<max (nl a) (nl b)+2-x1)/\((vI aG=vI (nI (BJ a b y9)))/\(vI Z6=vI (nI y9))/\(rf (L a))/\(rf (L b))/\(aH=(AE (AU y9 (a+b)))))))))))) (ifB (aD) ((0<=(nI x1)/\(nI x1)<aE)/\(aF/\(ifB (Z9) ((0<=(nI x1)/\(nI x1)<a9)/\(aA/\(Z4/\(Z8/\(Z4/\(∃a1:Nat,(a1<=max (nl a) (nl b)+1/\(a1=0\/BB^(a1-1)<=a+b))/\(max (nl a) (nl b)+2-a1<max (nl a) (nl b)+2-x1)/\((vI aM=vI (nI (BJ a b a1)))/\(vI Z6=vI (nI a1))/\(rf (L a))/\(rf (L b))/\(aO=(AE (AU a1 (a+b))))))))))) (Z4/\(aP/\(Z4/\(∃a2:Nat,(a2<=max (nl a) (nl b)+1/\(a2=0\/BB^(a2-1)<=a+b))/\(max (nl a) (nl b)+2-a2<max (nl a) (nl b)+2-x1)/\((vI aL=vI (nI (BJ a b a2)))/\(vI Z6=vI (nI a2))/\(rf (L a))/\(rf (L b))/\(aN=(AE (AU a2 (a+b)))))))))))) (ifB (Z9) ((0<=(nI x1)/\(nI x1)<a9)/\(aA/\(Z4/\(aK/\(Z4/\(∃a3:Nat,(a3<=max (nl a) (nl b)+1/\(a3=0\/BB^(a3-1)<=a+b))/\(max (nl a) (nl b)+2-a3<max (nl a) (nl b)+2-x1)/\((vI aI=vI (nI (BJ a b a3)))/\(vI Z6=vI (nI a3))/\(rf (L a))/\(rf (L b))/\(aJ=(AE (AU a3 (a+b))))))))))) (Z4/\(Z7/\(Z4/\(∃a4:Nat,(a4<=max (nl a) (nl b)+1/\(a4=0\/BB^(a4-1)<=a+b))/\(max (nl a) (nl b)+2-a4<max (nl a) (nl b)+2-x1)/\((vI aG=vI (nI (BJ a b a4)))/\(vI Z6=vI (nI a4))/\(rf (L a))/\(rf (L b))/\(aH=(AE (AU a4 (a+b))))))))))))) (by kernel_rfl) ?_
 conv=>zeta
 delta ifB vI wR nI;have ha:=AK a;have hb:=AK b;refine⟨⟨0,by exact⟨Nat.zero_le _,.inl rfl⟩,?_⟩,?_⟩;refine⟨?_,?_,rfl,rfl,?_⟩;rw[OV];rfl;rfl;rfl;intro (i:Nat) a5;have a5:i<=max (nl a) (nl b)+1/\(i=0\/BB^(i-1)<=a+b):=a5;have da:=LY a i;have db:=LY b i;have hc:=CE a b i;have za:nl a<=i->dgt a i=0:=λh=>GG (Gf h);have zb:nl b<=i->dgt b i=0:=λh=>GG (Gf h);have n1:IntKind.i64.wrap (IntKind.i64.wrap (((BJ a b i:Nat):Int)+((((L a).getD i []).getD 0 (.int 0))).n)+((((L b).getD i []).getD 0 (.int 0))).n)=((dgt a i+dgt b i+BJ a b i:Nat):Int):=by rw[L_n,L_n,AC (x:=((BJ a b i:Nat):Int)+_) (by omega) (by omega),AC (by omega) (by omega)];omega
 have n2:nl b<=i->IntKind.i64.wrap (((BJ a b i:Nat):Int)+((((L a).getD i []).getD 0 (.int 0))).n)=((dgt a i+dgt b i+BJ a b i:Nat):Int):=λh=>by rw[L_n,zb h,AC (by omega) (by omega)];omega
 have n3:nl a<=i->IntKind.i64.wrap (((BJ a b i:Nat):Int)+((((L b).getD i []).getD 0 (.int 0))).n)=((dgt a i+dgt b i+BJ a b i:Nat):Int):=λh=>by rw[L_n,za h,AC (by omega) (by omega)];omega
 have n4:nl a<=i->nl b<=i->((BJ a b i:Nat):Int)=((dgt a i+dgt b i+BJ a b i:Nat):Int):=λh h2=>by rw[za h,zb h2];omega
 have h1:=Uk a b i;have hl:(AE (AU i (a+b))).length=i:=by rw[BR,Am]
 refine And.symm ⟨λc8=>?_,λc8=>?_⟩;simp only[nrm]at c8;refine And.symm ⟨λa6=>?_,λa6=>?_⟩;simp only[nrm]at a6;refine And.symm ⟨λa7=>?_,λa7=>?_⟩;simp only[nrm]at a7;refine ao (by omega) λo160=>?_;refine ao (by omega) λo161=>?_;refine ao (by omega) λo162=>?_
 refine⟨i+1,by
  have hz:i<nl a\/i<nl b\/0<BJ a b i:=by omega
  exact⟨by(rcases hz with h|h|h) <;> first|omega|(have:=Bz h;omega),.inr (A9 hz)⟩,by
  omega,?_⟩
 refine⟨?_,?_,rfl,rfl,?_⟩;rw[n4 (by omega) (by omega),DX,h1.2,Bu (by have:=CE a b (i+1);omega)];exact AS (AC (by omega) (by omega));rw[n4 (by omega) (by omega),D5,h1.1,Ao,← A0];simp only[nrm]at a7;refine ao (by omega) λo147=>?_;refine ao (by omega) λo148=>?_;refine ao (by omega) λo149=>?_;refine ao (by omega) λo150=>?_;refine ao (by omega) λo151=>?_
 refine⟨i+1,by
  have hz:i<nl a\/i<nl b\/0<BJ a b i:=by omega
  exact⟨by(rcases hz with h|h|h) <;> first|omega|(have:=Bz h;omega),.inr (A9 hz)⟩,by
  omega,?_⟩
 refine⟨?_,?_,rfl,rfl,?_⟩;rw[n3 (by omega),DX,h1.2,Bu (by have:=CE a b (i+1);omega)];exact AS (AC (by omega) (by omega));rw[n3 (by omega),D5,h1.1,Ao,← A0];simp only[nrm]at a6;refine ao (by omega) λo119=>?_;refine ao (by omega) λo120=>?_;refine And.symm ⟨λa8=>?_,λa8=>?_⟩;simp only[nrm]at a8;refine ao (by omega) λo135=>?_;refine ao (by simp only[hl,List.length_cons,List.length_nil];omega) λo136=>?_;refine ao (by omega) λo137=>?_
 refine⟨i+1,by
  have hz:i<nl a\/i<nl b\/0<BJ a b i:=by omega
  exact⟨by(rcases hz with h|h|h) <;> first|omega|(have:=Bz h;omega),.inr (A9 hz)⟩,by
  omega,?_⟩
 refine⟨?_,?_,rfl,rfl,?_⟩;rw[n2 (by omega),DX,h1.2,Bu (by have:=CE a b (i+1);omega)];exact AS (AC (by omega) (by omega));rw[n2 (by omega),D5,h1.1,Ao,← A0];simp only[nrm]at a8;refine ao (by omega) λo122=>?_;refine ao (by omega) λo123=>?_;refine ao (by omega) λo124=>?_;refine ao (by simp only[hl,List.length_cons,List.length_nil];omega) λo125=>?_;refine ao (by omega) λo126=>?_
 refine⟨i+1,by
  have hz:i<nl a\/i<nl b\/0<BJ a b i:=by omega
  exact⟨by(rcases hz with h|h|h) <;> first|omega|(have:=Bz h;omega),.inr (A9 hz)⟩,by
  omega,?_⟩
 refine⟨?_,?_,rfl,rfl,?_⟩;rw[n1,DX,h1.2,Bu (by have:=CE a b (i+1);omega)];exact AS (AC (by omega) (by omega));rw[n1,D5,h1.1,Ao,← A0];simp only[nrm]at c8;refine And.symm ⟨λc9=>?_,λc9=>?_⟩;simp only[nrm]at c9;refine And.symm ⟨λaQ=>?_,λaQ=>?_⟩;simp only[nrm]at aQ;refine And.symm ⟨λaR=>?_,λaR=>?_⟩;simp only[nrm]at aR;refine ao (by omega) λo107=>?_;refine ao (by omega) λo108=>?_;refine ao (by omega) λo109=>?_
 refine⟨i+1,by
  have hz:i<nl a\/i<nl b\/0<BJ a b i:=by omega
  exact⟨by(rcases hz with h|h|h) <;> first|omega|(have:=Bz h;omega),.inr (A9 hz)⟩,by
  omega,?_⟩
 refine⟨?_,?_,rfl,rfl,?_⟩;rw[n4 (by omega) (by omega),DX,h1.2,Bu (by have:=CE a b (i+1);omega)];exact AS (AC (by omega) (by omega));rw[n4 (by omega) (by omega),D5,h1.1,Ao,← A0];simp only[nrm]at aR;refine ao (by omega) λo94=>?_;refine ao (by omega) λo95=>?_;refine ao (by omega) λo96=>?_;refine ao (by simp only[hl,List.length_cons,List.length_nil];omega) λo97=>?_;refine ao (by omega) λo98=>?_
 refine⟨i+1,by
  have hz:i<nl a\/i<nl b\/0<BJ a b i:=by omega
  exact⟨by(rcases hz with h|h|h) <;> first|omega|(have:=Bz h;omega),.inr (A9 hz)⟩,by
  omega,?_⟩
 refine⟨?_,?_,rfl,rfl,?_⟩;rw[n3 (by omega),DX,h1.2,Bu (by have:=CE a b (i+1);omega)];exact AS (AC (by omega) (by omega));rw[n3 (by omega),D5,h1.1,Ao,← A0];simp only[nrm]at aQ;refine ao (by omega) λo66=>?_;refine ao (by omega) λo67=>?_;refine And.symm ⟨λaS=>?_,λaS=>?_⟩;simp only[nrm]at aS;refine ao (by omega) λo82=>?_;refine ao (by omega) λo83=>?_;refine ao (by omega) λo84=>?_
 refine⟨i+1,by
  have hz:i<nl a\/i<nl b\/0<BJ a b i:=by omega
  exact⟨by(rcases hz with h|h|h) <;> first|omega|(have:=Bz h;omega),.inr (A9 hz)⟩,by
  omega,?_⟩
 refine⟨?_,?_,rfl,rfl,?_⟩;rw[n2 (by omega),DX,h1.2,Bu (by have:=CE a b (i+1);omega)];exact AS (AC (by omega) (by omega));rw[n2 (by omega),D5,h1.1,Ao,← A0];simp only[nrm]at aS;refine ao (by omega) λo69=>?_;refine ao (by omega) λo70=>?_;refine ao (by omega) λo71=>?_;refine ao (by omega) λo72=>?_;refine ao (by omega) λo73=>?_
 refine⟨i+1,by
  have hz:i<nl a\/i<nl b\/0<BJ a b i:=by omega
  exact⟨by(rcases hz with h|h|h) <;> first|omega|(have:=Bz h;omega),.inr (A9 hz)⟩,by
  omega,?_⟩
 refine⟨?_,?_,rfl,rfl,?_⟩;rw[n1,DX,h1.2,Bu (by have:=CE a b (i+1);omega)];exact AS (AC (by omega) (by omega));rw[n1,D5,h1.1,Ao,← A0];simp only[nrm]at c9;refine And.symm ⟨λaT=>?_,λaT=>?_⟩;simp only[nrm]at aT;exact Ut (by omega) (by omega) (by omega) a5.2;simp only[nrm]at aT;refine And.symm ⟨λaU=>?_,λaU=>?_⟩;simp only[nrm]at aU;refine And.symm ⟨λaV=>?_,λaV=>?_⟩;simp only[nrm]at aV;refine ao (by omega) λo53=>?_;refine ao (by simp only[hl,List.length_cons,List.length_nil];omega) λo54=>?_;refine ao (by omega) λo55=>?_
 refine⟨i+1,by
  have hz:i<nl a\/i<nl b\/0<BJ a b i:=by omega
  exact⟨by(rcases hz with h|h|h) <;> first|omega|(have:=Bz h;omega),.inr (A9 hz)⟩,by
  omega,?_⟩
 refine⟨?_,?_,rfl,rfl,?_⟩;rw[n4 (by omega) (by omega),DX,h1.2,Bu (by have:=CE a b (i+1);omega)];exact AS (AC (by omega) (by omega));rw[n4 (by omega) (by omega),D5,h1.1,Ao,← A0];simp only[nrm]at aV;refine ao (by omega) λo40=>?_;refine ao (by omega) λo41=>?_;refine ao (by omega) λo42=>?_;refine ao (by omega) λo43=>?_;refine ao (by omega) λo44=>?_
 refine⟨i+1,by
  have hz:i<nl a\/i<nl b\/0<BJ a b i:=by omega
  exact⟨by(rcases hz with h|h|h) <;> first|omega|(have:=Bz h;omega),.inr (A9 hz)⟩,by
  omega,?_⟩
 refine⟨?_,?_,rfl,rfl,?_⟩;rw[n3 (by omega),DX,h1.2,Bu (by have:=CE a b (i+1);omega)];exact AS (AC (by omega) (by omega));rw[n3 (by omega),D5,h1.1,Ao,← A0];simp only[nrm]at aU;refine ao (by omega) λo12=>?_;refine ao (by omega) λo13=>?_;refine And.symm ⟨λaW=>?_,λaW=>?_⟩;simp only[nrm]at aW;refine ao (by omega) λo28=>?_;refine ao (by omega) λo29=>?_;refine ao (by omega) λo30=>?_
 refine⟨i+1,by
  have hz:i<nl a\/i<nl b\/0<BJ a b i:=by omega
  exact⟨by(rcases hz with h|h|h) <;> first|omega|(have:=Bz h;omega),.inr (A9 hz)⟩,by
  omega,?_⟩
 refine⟨?_,?_,rfl,rfl,?_⟩;rw[n2 (by omega),DX,h1.2,Bu (by have:=CE a b (i+1);omega)];exact AS (AC (by omega) (by omega));rw[n2 (by omega),D5,h1.1,Ao,← A0];simp only[nrm]at aW;refine ao (by omega) λo15=>?_;refine ao (by omega) λo16=>?_;refine ao (by omega) λo17=>?_;refine ao (by omega) λo18=>?_;refine ao (by omega) λo19=>?_
 refine⟨i+1,by
  have hz:i<nl a\/i<nl b\/0<BJ a b i:=by omega
  exact⟨by(rcases hz with h|h|h) <;> first|omega|(have:=Bz h;omega),.inr (A9 hz)⟩,by
  omega,?_⟩
 refine⟨?_,?_,rfl,rfl,?_⟩;rw[n1,DX,h1.2,Bu (by have:=CE a b (i+1);omega)];exact AS (AC (by omega) (by omega));rw[n1,D5,h1.1,Ao,← A0]
def CK:Con:={ι:=Nat×Nat,pre:=λi=>nl i.1<=1048576/\nl i.2<=1048576/\i.2<=i.1,args:=λi=>[.one (cS (L i.1)),.one (cS (L i.2))],res:=λi=>⟨false,[none],[.view 3 [.int] (L (i.1-i.2))]⟩}
theorem Oh:CK.Ok Tryz.prog 181:=by
 refine fok (X:=⟨tt,[(157,Ae)],[],42,[]⟩) mixed AF (CTok.cons EG (CTok.nil _)) Tryz.func181 (λ(i:Nat×Nat)=>[(4,.mk 4 (Nat) (λx1=>{tm:=[(0,tX 1),(1,tX 2),(11,tI (nI ((L i.1).length))),(12,tI (nI x1)),(5,tX 3),(6,tI (nI (brw i.1 i.2 x1)))],en:=[(1,eV (L i.1)),(2,eV (L i.2)),(3,.own 3 [.int] (AE (AU x1 (i.1-i.2))))]}) (λx1=>x1<=nl i.1) (λx1=>nl i.1-x1) (λ_=>[]))]) ?_;rintro⟨a,b⟩ a1;have a1:nl a<=1048576/\nl b<=1048576/\b<=a:=a1;refine AG (q:=let Z6:=List Dat;let Z4:=vI (nI ((L a).length));(∃x1:Nat,(x1<=nl a)/\((rf Z4)/\(vI (0:Int)=vI (nI x1))/\(vI (0:Int)=vI (nI (brw a b x1)))/\(rf (L a))/\(rf (L b))/\(([]:List Z6)=(AE (AU x1 (a-b))))))/\∀x1:Nat,let Z5:=wR ((nI x1)+(1:Int));let Z3:=AE (AU x1 (a-b));let Z1:=wR (((((L a).getD x1 []).getD 0 (.int 0))).n-(nI (brw a b x1)));let Z8:=wR (Z1+(1000000000:Int));let Z2:=wR (Z1-((((L b).getD x1 []).getD 0 (.int 0))).n);let Z7:=wR (Z2+(1000000000:Int));(x1<=nl a)->(ifB ((decide ((nI x1)<(nI ((L a).length))))) ((0<=(nI x1)/\(nI x1)<((L a).length:Int))/\((x1<(L a).length)/\(ifB ((decide ((nI x1)<(nI ((L b).length))))) ((0<=(nI x1)/\(nI x1)<((L b).length:Int))/\((x1<(L b).length)/\(ifB ((decide (Z2<(0:Int)))) ((Z3.length+([[Dat.int Z7]]:List Z6).length<=2199023255552)/\(∃y2:Nat,(y2<=nl a)/\(nl a-y2<nl a-x1)/\((rf Z4)/\(vI Z5=vI (nI y2))/\(vI (1:Int)=vI (nI (brw a b y2)))/\(rf (L a))/\(rf (L b))/\((Z3++([[Dat.int Z7]]:List Z6))=(AE (AU y2 (a-b))))))) ((Z3.length+([[Dat.int Z2]]:List Z6).length<=2199023255552)/\(∃y3:Nat,(y3<=nl a)/\(nl a-y3<nl a-x1)/\((rf Z4)/\(vI Z5=vI (nI y3))/\(vI (0:Int)=vI (nI (brw a b y3)))/\(rf (L a))/\(rf (L b))/\((Z3++([[Dat.int Z2]]:List Z6))=(AE (AU y3 (a-b)))))))))) (ifB ((decide (Z1<(0:Int)))) ((Z3.length+([[Dat.int Z8]]:List Z6).length<=2199023255552)/\(∃y4:Nat,(y4<=nl a)/\(nl a-y4<nl a-x1)/\((rf Z4)/\(vI Z5=vI (nI y4))/\(vI (1:Int)=vI (nI (brw a b y4)))/\(rf (L a))/\(rf (L b))/\((Z3++([[Dat.int Z8]]:List Z6))=(AE (AU y4 (a-b))))))) ((Z3.length+([[Dat.int Z1]]:List Z6).length<=2199023255552)/\(∃y5:Nat,(y5<=nl a)/\(nl a-y5<nl a-x1)/\((rf Z4)/\(vI Z5=vI (nI y5))/\(vI (0:Int)=vI (nI (brw a b y5)))/\(rf (L a))/\(rf (L b))/\((Z3++([[Dat.int Z1]]:List Z6))=(AE (AU y5 (a-b))))))))))) (∃i1:(List Nat)×Nat,[DA.one (cS Z3)]=Ae.args i1/\Ae.pre i1/\((L i1.2=L (a-b)))))) (by kernel_rfl) ?_;conv=>zeta
 delta ifB vI wR nI;have ha:=AK a;have hb:=AK b;refine⟨⟨0,by omega,?_⟩,?_⟩;refine⟨rfl,?_,?_,rfl,rfl,?_⟩;rfl;rw[RW];rfl;rfl;intro (i:Nat) a3;have a3:i<=nl a:=a3;have da:=LY a i;have db:=LY b i;have hc:=PX a b i;have h1:=Um a1.2.2 i;have zb:nl b<=i->dgt b i=0:=λh=>GG (Gf h);have n1:IntKind.i64.wrap (IntKind.i64.wrap (((((L a).getD i []).getD 0 (.int 0))).n-((brw a b i:Nat):Int))-((((L b).getD i []).getD 0 (.int 0))).n)=(dgt a i:Int)-dgt b i-brw a b i:=by rw[L_n,L_n,AC (x:=(dgt a i:Int)-_) (by omega) (by omega),AC (by omega) (by omega)];omega
 have n2:nl b<=i->IntKind.i64.wrap (((((L a).getD i []).getD 0 (.int 0))).n-((brw a b i:Nat):Int))=(dgt a i:Int)-dgt b i-brw a b i:=λh=>by rw[L_n,zb h,AC (by omega) (by omega)];omega
 have hl:(AE (AU i (a-b))).length=i:=by rw[BR,Am]
 refine And.symm ⟨λc9=>?_,λc9=>?_⟩;simp only[nrm]at c9
 refine⟨(AU i (a-b),a-b),by
  rfl,by
  exact⟨by rw[Am];omega,Fi _ _,by rw[Cm,Gg (by have:=Cz (Nat.sub_le a b);omega)]⟩,?_⟩
 exact rfl;simp only[nrm]at c9;refine ao (by omega) λo10=>?_;refine ao (by omega) λo11=>?_;refine And.symm ⟨λa4=>?_,λa4=>?_⟩;simp only[nrm]at a4;refine And.symm ⟨λa2=>?_,λa2=>?_⟩;simp only[nrm]at a2;rw[n2 (by omega)]at a2;have hq:=h1.2 a2;refine ao (by simp only[hl,List.length_cons,List.length_nil];omega) λo47=>?_
 refine⟨i+1,by
  omega,by
  omega,?_⟩
 refine⟨rfl,?_,?_,rfl,rfl,?_⟩;exact AS (AC (by omega) (by omega));rw[hq.2];rfl;rw[n2 (by omega),hq.1,Ao,← A0];simp only[nrm]at a2;rw[n2 (by omega)]at a2;have hq:=h1.1 a2;have hw:IntKind.i64.wrap ((dgt a i:Int)-dgt b i-brw a b i+(1000000000:Int))=(dgt a i:Int)-dgt b i-brw a b i+1000000000:=by rw[AC (by omega) (by omega)]
 refine ao (by simp only[hl,List.length_cons,List.length_nil];omega) λo37=>?_
 refine⟨i+1,by
  omega,by
  omega,?_⟩
 refine⟨rfl,?_,?_,rfl,rfl,?_⟩;exact AS (AC (by omega) (by omega));rw[hq.2];rfl;rw[n2 (by omega),hw,hq.1,Ao,← A0];simp only[nrm]at a4;refine ao (by omega) λo13=>?_;refine ao (by omega) λo14=>?_;refine And.symm ⟨λa0=>?_,λa0=>?_⟩;try dsimp only at a0
 simp only[nrm]at a0;rw[n1]at a0;have hq:=h1.2 a0;refine ao (by simp only[hl,List.length_cons,List.length_nil];omega) λo26=>?_
 refine⟨i+1,by
  omega,by
  omega,?_⟩
 refine⟨rfl,?_,?_,rfl,rfl,?_⟩;exact AS (AC (by omega) (by omega));rw[hq.2];rfl;rw[n1,hq.1,Ao,← A0];try dsimp only at a0
 simp only[nrm]at a0;rw[n1]at a0;have hq:=h1.1 a0;have hw:IntKind.i64.wrap ((dgt a i:Int)-dgt b i-brw a b i+(1000000000:Int))=(dgt a i:Int)-dgt b i-brw a b i+1000000000:=by rw[AC (by omega) (by omega)]
 refine ao (by simp only[hl,List.length_cons,List.length_nil];omega) λo16=>?_
 refine⟨i+1,by
  omega,by
  omega,?_⟩
 refine⟨rfl,?_,?_,rfl,rfl,?_⟩;exact AS (AC (by omega) (by omega));rw[hq.2];rfl;rw[n1,hw,hq.1,Ao,← A0]
def AT:Con:={ι:=Nat×Nat,pre:=λi=>nl i.1<=524288/\nl i.2<=524288,args:=λi=>[.one (cS (L i.1)),.one (cS (L i.2))],res:=λi=>⟨false,[none],[.view 3 [.int] (L (i.1*i.2))]⟩}
theorem E7:AT.Ok Tryz.prog 126:=by
 refine fok (X:=⟨tt,[(157,Ae)],[],72,[]⟩) mixed AF (CTok.cons EG (CTok.nil _)) Tryz.func126 (λ(i:Nat×Nat)=>[(5,.mk 4 (Nat) (λx1=>{tm:=[(0,tX 1),(1,tX 2),(26,tX 1),(27,tI (nI ((L i.1).length))),(28,tI (nI x1)),(5,tX 3)],en:=[(1,eV (L i.1)),(2,eV (L i.2)),(3,.own 3 [.int] (AE (AU (nl i.1+nl i.2) (i.1%BB^x1*i.2))))]}) (λx1=>x1<=nl i.1) (λx1=>nl i.1-x1) (λx1=>[(9,.mk 4 (Nat×Nat×Nat) (λx2=>{tm:=[(0,tX 1),(1,tX 2),(26,tX 1),(27,tI (nI ((L i.1).length))),(28,tI (nI x1)),(33,tX 2),(34,tI (nI ((L i.2).length))),(6,tI (nI x1)),(7,tI (((((L i.1).getD x1 []).getD 0 (.int 0))).n)),(5,tX 3),(8,tI (nI x2.2.2)),(35,tI (nI x2.1))],en:=[(1,eV (L i.1)),(2,eV (L i.2)),(3,.own 3 [.int] (AE (AU (nl i.1+nl i.2) x2.2.1)))]}) (λx2=>x2.2.1+x2.2.2*BB^(x1+x2.1)=i.1%BB^x1*i.2+dgt i.1 x1*BB^x1*(i.2%BB^x2.1)/\x2.2.2<BB/\x2.1<=nl i.2/\x2.2.1<BB^(x1+nl i.2)) (λx2=>nl i.2-x2.1) (λ_=>[]))]))]) ?_;rintro⟨a,b⟩ a1
 have a1:nl a<=524288/\nl b<=524288:=a1;refine AG (q:=let a7:=(1000000000:Int)≠0;let a8:=(([]:List (List Dat))=L (a*b));let Z8:=nl a+nl b;let Z5:=nI ((L a).length);let Z3:=nI ((L b).length);let Z9:=wR (Z5+Z3);ifB ((!(Z5 == (0:Int)))) (ifB ((Z3 == (0:Int))) a8 ((0<=Z9)/\((Z9<=Z9)/\((Z9<=1073741824)/\((∃x1:Nat,(x1<=nl a)/\((rf (vI Z5))/\(vI (0:Int)=vI (nI x1))/\(rf (L a))/\(rf (L b))/\((List.replicate (Z9.toNat) [Dat.int (0:Int)])=(AE (AU Z8 (a%BB^x1*b))))))/\∀x1:Nat,let a3:=vI (nI x1);let a9:=AE (AU Z8 (a%BB^x1*b));let Z7:=wR ((nI x1)+Z3);let Z6:=(((L a).getD x1 []).getD 0 (.int 0));(x1<=nl a)->(ifB ((decide ((nI x1)<Z5))) ((0<=(nI x1)/\(nI x1)<((L a).length:Int))/\((x1<(L a).length)/\((∃x2:Nat×Nat×Nat,(x2.2.1+x2.2.2*BB^(x1+x2.1)=a%BB^x1*b+dgt a x1*BB^x1*(b%BB^x2.1)/\x2.2.2<BB/\x2.1<=nl b/\x2.2.1<BB^(x1+nl b))/\((rf (vI Z5))/\(rf a3)/\(rf (vI Z3))/\(rf a3)/\(rf (vI Z6.n))/\(vI (0:Int)=vI (nI x2.2.2))/\(vI (0:Int)=vI (nI x2.1))/\(rf (L a))/\(rf (L b))/\(a9=(AE (AU Z8 x2.2.1)))))/\∀x2:Nat×Nat×Nat,let Z2:=wR ((nI x1)+(nI x2.1));let Z1:=AE (AU Z8 x2.2.1);let a4:=(Z1.length:Int);let Z4:=wR ((wR ((((Z1.getD (Z2.toNat) []).getD 0 (.int 0))).n+(wR (Z6.n*((((L b).getD x2.1 []).getD 0 (.int 0))).n))))+(nI x2.2.2));(x2.2.1+x2.2.2*BB^(x1+x2.1)=a%BB^x1*b+dgt a x1*BB^x1*(b%BB^x2.1)/\x2.2.2<BB/\x2.1<=nl b/\x2.2.1<BB^(x1+nl b))->(ifB ((decide ((nI x2.1)<Z3))) ((0<=(nI x2.1)/\(nI x2.1)<((L b).length:Int))/\((x2.1<(L b).length)/\((0<=Z2/\Z2<a4)/\((Z2.toNat<Z1.length)/\(a7/\((0<=Z2/\Z2<a4)/\((Z2.toNat<Z1.length)/\(a7/\(∃y3:Nat×Nat×Nat,(y3.2.1+y3.2.2*BB^(x1+y3.1)=a%BB^x1*b+dgt a x1*BB^x1*(b%BB^y3.1)/\y3.2.2<BB/\y3.1<=nl b/\y3.2.1<BB^(x1+nl b))/\(nl b-y3.1<nl b-x2.1)/\((rf (vI Z5))/\(rf a3)/\(rf (vI Z3))/\(rf a3)/\(rf (vI Z6.n))/\(vI (wR (Int.tdiv Z4 (1000000000:Int)))=vI (nI y3.2.2))/\(vI (wR ((nI x2.1)+(1:Int)))=vI (nI y3.1))/\(rf (L a))/\(rf (L b))/\((Z1.set (Z2.toNat) ((Z1.getD (Z2.toNat) []).set 0 (Dat.int (Int.tmod Z4 (1000000000:Int)))))=(AE (AU Z8 y3.2.1))))))))))))) ((0<=Z7/\Z7<a4)/\((Z7.toNat<Z1.length)/\(∃y4:Nat,(y4<=nl a)/\(nl a-y4<nl a-x1)/\((rf (vI Z5))/\(vI (wR ((nI x1)+(1:Int)))=vI (nI y4))/\(rf (L a))/\(rf (L b))/\((Z1.set (Z7.toNat) ((Z1.getD (Z7.toNat) []).set 0 (Dat.int (nI x2.2.2))))=(AE (AU Z8 (a%BB^y4*b)))))))))))) (∃i1:(List Nat)×Nat,[DA.one (cS a9)]=Ae.args i1/\Ae.pre i1/\((L i1.2=L (a*b)))))))))) a8) (by kernel_rfl) ?_;conv=>zeta
 delta ifB vI wR nI;have ha:=AK a;have hb:=AK b;have hw0:IntKind.i64.wrap ((((L a).length:Nat):Int)+(((L b).length:Nat):Int))=((nl a+nl b:Nat):Int):=by rw[ha,hb,AC (by omega) (by omega)];omega
 refine And.symm ⟨λc1=>?_,λc1=>?_⟩;simp only[nrm]at c1;rw[H8 (n:=a) (by omega),Nat.zero_mul,Cn];simp only[nrm]at c1;refine⟨λc2=>?_,λc2=>?_⟩;simp only[nrm]at c2;rw[H8 (n:=b) (by omega),Nat.mul_zero,Cn];simp only[nrm]at c2;refine ao (by omega) λo4=>?_;refine ao (by omega) λo5=>?_;refine ao (by omega) λo6=>?_;refine⟨⟨0,by omega,?_⟩,?_⟩;refine⟨rfl,?_,rfl,rfl,?_⟩;rfl;rw[hw0,Int.toNat_natCast,Nat.pow_zero,Nat.mod_one,Nat.zero_mul,KZ,← Eg];intro (i:Nat) a2;have a2:i<=nl a:=a2;refine And.symm ⟨λa5=>?_,λa5=>?_⟩;simp only[nrm]at a5
 refine⟨(AU (nl a+nl b) (a%BB^i*b),a*b),by
  rfl,by
  exact⟨by rw[Am];omega,Fi _ _,by rw[Gg (a:=a) (i:=i) (by omega),Cm,Gg (Az _ _)]⟩,?_⟩
 exact rfl;simp only[nrm]at a5;refine ao (by omega) λo15=>?_;refine ao (by omega) λo16=>?_;refine⟨⟨(0,a%BB^i*b,0),by exact⟨by simp[Nat.mod_one],Dm,Nat.zero_le _,TX⟩,?_⟩,?_⟩;refine⟨rfl,rfl,rfl,rfl,rfl,?_,?_,rfl,rfl,rfl⟩;rfl;rfl;rintro⟨k,V,c⟩ a0;have a0:V+c*BB^(i+k)=a%BB^i*b+dgt a i*BB^i*(b%BB^k)/\c<BB/\k<=nl b/\V<BB^(i+nl b):=a0;have hlv:(AE (AU (nl a+nl b) V)).length=nl a+nl b:=by rw[BR,Am]
 refine And.symm ⟨λa6=>?_,λa6=>?_⟩;simp only[nrm]at a6;have hw' : IntKind.i64.wrap (((i:Nat):Int)+(((L b).length:Nat):Int))=((i+nl b:Nat):Int):=by rw[hb,AC (by omega) (by omega)];omega
 have e:=a0.1;rw[show k=nl b by omega,Gg (a:=b) (Nat.le_refl _),TL]at e;refine ao (by dsimp only;omega) λo51=>?_;refine ao (by omega) λo52=>?_
 refine⟨i+1,by
  omega,by
  omega,?_⟩
 refine⟨rfl,?_,rfl,rfl,?_⟩;exact AS (AC (by omega) (by omega));rw[hw',Int.toNat_natCast,Kc (by rw[Am];omega),M6 (by omega) a0.2.1,GG a0.2.2.2,Nat.zero_mul,Nat.sub_zero,e];simp only[nrm]at a6;have aA:i+k<nl a+nl b:=by omega
 have hw:IntKind.i64.wrap (((i:Nat):Int)+((k:Nat):Int))=((i+k:Nat):Int):=by rw[AC (by omega) (by omega)];omega
 have hm:=Kg (Bn a i) (Bn b k) (Bn V (i+k)) a0.2.1;have hn:IntKind.i64.wrap (IntKind.i64.wrap (((((AE (AU (nl a+nl b) V)).getD ((IntKind.i64.wrap (((i:Nat):Int)+((k:Nat):Int))).toNat) []).getD 0 (.int 0))).n+(IntKind.i64.wrap (((((L a).getD i []).getD 0 (.int 0))).n*((((L b).getD k []).getD 0 (.int 0))).n)))+((c:Nat):Int))=((dgt V (i+k)+dgt a i*dgt b k+c:Nat):Int):=by rw[hw,Int.toNat_natCast,Pd aA,L_n,L_n,← Int.natCast_mul,Bu (by omega),← Int.natCast_add,Bu (by omega),← Int.natCast_add,Bu (by omega)]
 have hst:=PY a0.1;refine ao (by omega) λo30=>?_;refine ao (by omega) λo31=>?_;refine ao (by dsimp only;omega) λo32=>?_;refine ao (by omega) λo33=>?_;refine ao (by omega) λo34=>?_;refine ao (by omega) λo35=>?_;refine ao (by omega) λo36=>?_;refine ao (by omega) λo37=>?_
 refine⟨(k+1,V-dgt V (i+k)*BB^(i+k)+(dgt V (i+k)+dgt a i*dgt b k+c)%BB*BB^(i+k),(dgt V (i+k)+dgt a i*dgt b k+c)/BB),by
  exact⟨hst,hm.1,by omega,ABZ (by omega) a0.2.2.2 (Nat.mod_lt _ Dm)⟩,by
  omega,?_⟩
 refine⟨rfl,rfl,rfl,rfl,rfl,?_,?_,rfl,rfl,?_⟩;rw[hn,DX,Bu (Nat.le_trans (Nat.le_of_lt hm.1) (by decide))];exact AS (AC (by omega) (by omega));rw[hn,D5,hw,Int.toNat_natCast,NF aA]
def Em:Con:={ι:=Nat×Nat,pre:=λi=>nl i.1<=1048576/\0<i.2/\i.2<BB,args:=λi=>[.one (cS (L i.1)),.one (cI ((i.2:Nat):Int))],res:=λi=>⟨true,[none,none],[.view 3 [.int] (L (i.1/i.2)),rcI ((i.1%i.2:Nat):Int)]⟩}
theorem Ri:Em.Ok Tryz.prog 179:=by
 refine fok (X:=⟨tt,[(157,Ae)],[],39,[]⟩) mixed AF (CTok.cons EG (CTok.nil _)) Tryz.func179 (λ(i:Nat×Nat)=>[(4,.mk 3 (Nat) (λx1=>{tm:=[(0,tX 1),(1,tI (nI i.2)),(6,tX 2),(7,tI (nI (i.1/BB^x1%i.2))),(8,tI ((nI x1)-1))],en:=[(1,eV (L i.1)),(2,.own 3 [.int] (AE (AU (nl i.1) (hi (i.1/i.2) x1))))]}) (λx1=>x1<=nl i.1) (λx1=>x1) (λ_=>[]))]) ?_;rintro⟨a,n⟩ a0;have a0:nl a<=1048576/\0<n/\n<BB:=a0;refine AG (q:=let Z4:=nI ((L a).length);(0<=Z4)/\((Z4<=Z4)/\((Z4<=1073741824)/\((∃x1:Nat,(x1<=nl a)/\((rf (vI (nI n)))/\(vI (0:Int)=vI (nI (a/BB^x1%n)))/\(vI (wR (Z4-(1:Int)))=vI ((nI x1)-1))/\(rf (L a))/\((List.replicate ((L a).length) [Dat.int (0:Int)])=(AE (AU (nl a) (hi (a/n) x1))))))/\∀x1:Nat,let Z5:=nI (a/BB^x1%n);let Z3:=(nI x1)-1;let Z2:=wR ((wR (Z5*(1000000000:Int)))+((((L a).getD (Z3.toNat) []).getD 0 (.int 0))).n);let Z1:=AE (AU (nl a) (hi (a/n) x1));(x1<=nl a)->(ifB ((decide (Z3>=(0:Int)))) ((0<=Z3/\Z3<((L a).length:Int))/\((Z3.toNat<(L a).length)/\(((nI n)≠0)/\((0<=Z3/\Z3<(Z1.length:Int))/\((Z3.toNat<Z1.length)/\(((nI n)≠0)/\(∃y2:Nat,(y2<=nl a)/\(y2<x1)/\((rf (vI (nI n)))/\(vI (Int.tmod Z2 (nI n))=vI (nI (a/BB^y2%n)))/\(vI (wR (Z3-(1:Int)))=vI ((nI y2)-1))/\(rf (L a))/\((Z1.set (Z3.toNat) ((Z1.getD (Z3.toNat) []).set 0 (Dat.int (wR (Int.tdiv Z2 (nI n))))))=(AE (AU (nl a) (hi (a/n) y2)))))))))))) (∃i1:(List Nat)×Nat,[DA.one (cS Z1)]=Ae.args i1/\Ae.pre i1/\((L i1.2=L (a/n))/\(vI Z5=vI (nI (a%n)))))))))) (by kernel_rfl) ?_;conv=>zeta
 delta ifB vI wR nI;have ha:=AK a;refine ao (by omega) λo1=>?_;refine ao (by omega) λo2=>?_;refine ao (by omega) λo3=>?_;refine⟨⟨nl a,by omega,?_⟩,?_⟩;refine⟨rfl,?_,?_,rfl,?_⟩;rw[Pa n (C4 a)];rfl;rw[ha,AC (by omega) (by omega)];rw[ha,Lz (Nat.div_le_self _ _)];intro (j:Nat) a1;have a1:j<=nl a:=a1;have hlv:(AE (AU (nl a) (hi (a/n) j))).length=nl a:=by rw[BR,Am]
 refine And.symm ⟨λa2=>?_,λa2=>?_⟩;simp only[nrm]at a2
 refine⟨(AU (nl a) (hi (a/n) j),a/n),by
  rfl,by
  exact⟨by rw[Am];omega,Fi _ _,by rw[show j=0 by omega,Pb,Cm,Gg (Cz (Nat.div_le_self _ _))]⟩,?_⟩
 refine⟨rfl,?_⟩;rw[show j=0 by omega,Nat.pow_zero,Nat.div_one];simp only[nrm]at a2;have hj:((((j:Nat):Int)-1).toNat)=j-1:=by omega
 have hj1:j-1+1=j:=by omega
 have hd:=PZ a n (j-1) a0.2.1;rw[hj1]at hd;have hn:IntKind.i64.wrap (IntKind.i64.wrap (((a/BB^j%n:Nat):Int)*(1000000000:Int))+((((L a).getD ((((j:Nat):Int)-1).toNat) []).getD 0 (.int 0))).n)=((a/BB^j%n*BB+dgt a (j-1):Nat):Int):=by rw[hj,L_n,Kh (Nat.lt_trans (Nat.mod_lt _ a0.2.1) a0.2.2) (Bn _ _)]
 refine ao (by omega) λo12=>?_;refine ao (by omega) λo13=>?_;refine ao (by omega) λo14=>?_;refine ao (by omega) λo15=>?_;refine ao (by omega) λo16=>?_;refine ao (by omega) λo17=>?_
 refine⟨j-1,by
  omega,by
  omega,?_⟩
 refine⟨rfl,?_,?_,rfl,?_⟩;rw[hn,X1,hd.2];rw[C0 (by omega) (by omega)];rw[hn,X0,hd.1,Bu (by have:=Bn (a/n) (j-1);unfold BB at this;omega),hj];exact L0 (by omega) (by omega) rfl
def Eo:Con:={ι:=Nat×Nat,pre:=λi=>i.2≠0/\i.1<i.2*BB/\nl i.2<=131072,args:=λi=>[.one (cS (L i.1)),.one (cS (L i.2))],res:=λi=>⟨false,[none],[rcI ((i.1/i.2:Nat):Int)]⟩}
theorem Rj:Eo.Ok Tryz.prog 180:=by
 refine fok (X:=⟨tt,[(123,BC),(126,AT),(163,AX)],[],27,[]⟩) mixed AF (CTok.cons Ig (CTok.cons E7 (CTok.cons GQ (CTok.nil _)))) Tryz.func180 (λ(i:Nat×Nat)=>[(3,.mk 3 (Nat×Nat) (λx1=>{tm:=[(0,tX 1),(1,tX 2),(5,tI (nI x1.1)),(6,tI (nI x1.2))],en:=[(1,eV (L i.1)),(2,eV (L i.2))]}) (λx1=>x1.1<=i.1/i.2/\i.1/i.2<=x1.2/\x1.2<=999999999) (λx1=>x1.2-x1.1) (λ_=>[]))]) ?_;rintro⟨a,b⟩ a0;have a0:b≠0/\a<b*BB/\nl b<=131072:=a0;refine AG (q:=(∃x1:Nat×Nat,(x1.1<=a/b/\a/b<=x1.2/\x1.2<=999999999)/\((vI (0:Int)=vI (nI x1.1))/\(vI (999999999:Int)=vI (nI x1.2))/\(rf (L a))/\(rf (L b))))/\∀x1:Nat×Nat,let Z1:=wR (Int.tdiv (wR ((wR ((nI x1.1)+(nI x1.2)))+(1:Int))) (2:Int));(x1.1<=a/b/\a/b<=x1.2/\x1.2<=999999999)->(ifB ((decide ((nI x1.1)<(nI x1.2)))) (((2:Int)≠0)/\(∃i1:Nat,[DA.one (cI Z1)]=BC.args i1/\BC.pre i1/\(∃i2:Nat×Nat,[DA.one (cS (L b)),DA.one (cS (L i1))]=AT.args i2/\AT.pre i2/\(∃i3:Nat×Nat,[DA.one (cS (L (i2.1*i2.2))),DA.one (cS (L a))]=AX.args i3/\AX.pre i3/\(ifB ((decide ((B7 i3.1 i3.2)<=(0:Int)))) (∃y2:Nat×Nat,(y2.1<=a/b/\a/b<=y2.2/\y2.2<=999999999)/\(y2.2-y2.1<x1.2-x1.1)/\((vI Z1=vI (nI y2.1))/\(vI (nI x1.2)=vI (nI y2.2))/\(rf (L a))/\(rf (L b)))) (∃y3:Nat×Nat,(y3.1<=a/b/\a/b<=y3.2/\y3.2<=999999999)/\(y3.2-y3.1<x1.2-x1.1)/\((vI (nI x1.1)=vI (nI y3.1))/\(vI (wR (Z1-(1:Int)))=vI (nI y3.2))/\(rf (L a))/\(rf (L b))))))))) ((vI (nI x1.1)=vI (nI (a/b)))))) (by kernel_rfl) ?_;conv=>zeta
 delta ifB vI wR nI;have ha:=AK a;have hb:=AK b;have hnl:=Jq a0.2.1;have hq:a/b<BB:=Nat.div_lt_of_lt_mul a0.2.1;have hq0:0<=((a/b:Nat):Int):=Int.natCast_nonneg _;unfold BB at hq;refine⟨⟨(0,999999999),by exact⟨Nat.zero_le _,by omega,Nat.le_refl _⟩,?_⟩,?_⟩;refine⟨?_,?_,rfl,rfl⟩;rfl;rfl;rintro⟨lo,hi⟩ a1;have a1:lo<=a/b/\a/b<=hi/\hi<=999999999:=a1;have hm:=Rc (lo:=lo) (hi:=hi) (by omega) (by omega);refine And.symm ⟨λc7=>?_,λc7=>?_⟩;simp only[nrm]at c7;rw[show lo=a/b by omega];simp only[nrm]at c7;refine ao (by omega) λo8=>?_
 refine⟨((lo+hi+1)/2),by
  rw[hm];rfl,by
  show((lo+hi+1)/2)<=9223372036854775807;omega,?_⟩
 refine⟨(b,((lo+hi+1)/2)),by
  rfl,by
  show nl b<=524288/\nl ((lo+hi+1)/2)<=524288;have:=GL (n:=(lo+hi+1)/2) (by unfold BB;omega);exact⟨by omega,by omega⟩,?_⟩
 refine⟨((b*((lo+hi+1)/2)),a),by
  rfl,by
  show nl (b*((lo+hi+1)/2))<=1048576/\nl a<=1048576;have:=GL (n:=(lo+hi+1)/2) (by unfold BB;omega);have:=Az b ((lo+hi+1)/2);exact⟨by omega,by omega⟩,?_⟩
 refine⟨λa2=>?_,λa2=>?_⟩;simp only[nrm]at a2
 refine⟨((lo+hi+1)/2,hi),by
  exact⟨GJ a0.1 (H5.1 a2),by omega,by omega⟩,by
  omega,?_⟩
 refine⟨?_,rfl,rfl,rfl⟩;rw[hm];simp only[nrm]at a2
 refine⟨(lo,(lo+hi+1)/2-1),by
  have h2:a/b<(lo+hi+1)/2:=div_lt_of_lt_mul (Nat.lt_of_not_le (λh=>by have:=H5.2 h;omega));exact⟨by omega,by omega,by omega⟩,by
  omega,?_⟩
 refine⟨rfl,?_,rfl,rfl⟩;rw[hm];exact AS (by rw[AC (by omega) (by omega)];omega)
def B5:Con:={ι:=Nat×Nat,pre:=λi=>i.2≠0/\nl i.1<=131072/\nl i.2<=131072,args:=λi=>[.one (cS (L i.1)),.one (cS (L i.2))],res:=λi=>⟨true,[none,none],[.view 3 [.int] (L (i.1/i.2)),.view 3 [.int] (L (i.1%i.2))]⟩}
theorem Oi:B5.Ok Tryz.prog 158:=by
 refine fok (X:=⟨tt,[(179,Em),(123,BC),(157,Ae),(163,AX),(180,Eo),(126,AT),(181,CK)],[],65,[]⟩) mixed AF (CTok.cons Ri (CTok.cons Ig (CTok.cons EG (CTok.cons GQ (CTok.cons Rj (CTok.cons E7 (CTok.cons Oh (CTok.nil _)))))))) Tryz.func158 (λ(i:Nat×Nat)=>[(7,.mk 5 (Nat) (λx1=>{tm:=[(0,tX 1),(1,tX 2),(8,tX 3),(9,tX 4),(10,tI ((nI x1)-1))],en:=[(1,eV (L i.1)),(2,eV (L i.2)),(3,.own 3 [.int] (AE (AU (nl i.1) (hi (i.1/i.2) x1)))),(4,eV (L (i.1/BB^x1%i.2)))]}) (λx1=>x1<=nl i.1) (λx1=>x1) (λ_=>[]))]) ?_;rintro⟨a,b⟩ a0;have a0:b≠0/\nl a<=131072/\nl b<=131072:=a0;refine AG (q:=let Z3:=nI ((L a).length);ifB (((nI ((L b).length)) == (1:Int))) ((0<=(0:Int)/\(0:Int)<((L b).length:Int))/\((0<(L b).length)/\(∃i1:Nat×Nat,[DA.one (cS (L a)),DA.one (cI (((((L b).getD 0 []).getD 0 (.int 0))).n))]=Em.args i1/\Em.pre i1/\(∃i2:Nat,[DA.one (cI (nI (i1.1%i1.2)))]=BC.args i2/\BC.pre i2/\((L (i1.1/i1.2)=L (a/b))/\(L i2=L (a%b))))))) ((0<=Z3)/\((Z3<=Z3)/\((Z3<=1073741824)/\((∃x1:Nat,(x1<=nl a)/\((vI (wR (Z3-(1:Int)))=vI ((nI x1)-1))/\(rf (L a))/\(rf (L b))/\((List.replicate ((L a).length) [Dat.int (0:Int)])=(AE (AU (nl a) (hi (a/b) x1))))/\(([]:List (List Dat))=(L (a/BB^x1%b)))))/\∀x1:Nat,let Z5:=L (a/BB^x1%b);let Z2:=(nI x1)-1;let Z4:=((((L a).getD (Z2.toNat) []).getD 0 (.int 0))).n;let Z1:=AE (AU (nl a) (hi (a/b) x1));(x1<=nl a)->(ifB ((decide (Z2>=(0:Int)))) ((0<=Z2/\Z2<((L a).length:Int))/\((Z2.toNat<(L a).length)/\((([[Dat.int Z4]]:List (List Dat)).length+Z5.length<=2199023255552)/\(∃i3:(List Nat)×Nat,[DA.one (cS (([[Dat.int Z4]]:List (List Dat))++Z5))]=Ae.args i3/\Ae.pre i3/\(∃i4:Nat×Nat,[DA.one (cS (L i3.2)),DA.one (cS (L b))]=AX.args i4/\AX.pre i4/\(ifB ((decide ((B7 i4.1 i4.2)<(0:Int)))) (∃y2:Nat,(y2<=nl a)/\(y2<x1)/\((vI (wR (Z2-(1:Int)))=vI ((nI y2)-1))/\(rf (L a))/\(rf (L b))/\(Z1=(AE (AU (nl a) (hi (a/b) y2))))/\(L i3.2=(L (a/BB^y2%b))))) (∃i5:Nat×Nat,[DA.one (cS (L i3.2)),DA.one (cS (L b))]=Eo.args i5/\Eo.pre i5/\((0<=Z2/\Z2<(Z1.length:Int))/\((Z2.toNat<Z1.length)/\(∃i6:Nat,[DA.one (cI (nI (i5.1/i5.2)))]=BC.args i6/\BC.pre i6/\(∃i7:Nat×Nat,[DA.one (cS (L b)),DA.one (cS (L i6))]=AT.args i7/\AT.pre i7/\(∃i8:Nat×Nat,[DA.one (cS (L i3.2)),DA.one (cS (L (i7.1*i7.2)))]=CK.args i8/\CK.pre i8/\(∃y3:Nat,(y3<=nl a)/\(y3<x1)/\((vI (wR (Z2-(1:Int)))=vI ((nI y3)-1))/\(rf (L a))/\(rf (L b))/\((Z1.set (Z2.toNat) ((Z1.getD (Z2.toNat) []).set 0 (Dat.int (nI (i5.1/i5.2)))))=(AE (AU (nl a) (hi (a/b) y3))))/\(L (i8.1-i8.2)=(L (a/BB^y3%b))))))))))))))))) (∃i9:(List Nat)×Nat,[DA.one (cS Z1)]=Ae.args i9/\Ae.pre i9/\((L i9.2=L (a/b))/\(Z5=L (a%b)))))))))) (by kernel_rfl) ?_;conv=>zeta
 delta ifB vI wR nI;have ha:=AK a;have hb:=AK b;refine⟨λc1=>?_,λc1=>?_⟩;simp only[nrm]at c1;have h1:=H6 (b:=b) (by omega);refine ao (by omega) λo2=>?_;refine ao (by omega) λo3=>?_
 refine⟨(a,b),by
  rw[L_n,h1.1];rfl,by
  show nl a<=1048576/\0<b/\b<BB;exact⟨by omega,h1.2.2,h1.2.1⟩,?_⟩
 refine⟨(a%b),by
  rfl,by
  exact Nat.le_trans (Nat.le_of_lt (Nat.lt_trans (Nat.mod_lt a h1.2.2) h1.2.1)) (by decide),?_⟩
 exact⟨rfl,rfl⟩;simp only[nrm]at c1;refine ao (by omega) λo12=>?_;refine ao (by omega) λo13=>?_;refine ao (by omega) λo14=>?_;refine⟨⟨nl a,by omega,?_⟩,?_⟩;refine⟨?_,rfl,rfl,?_,?_⟩;rw[ha,AC (by omega) (by omega)];rw[ha,Lz (Nat.div_le_self _ _)];rw[Pa b (C4 a),Cn];intro (j:Nat) a1;have a1:j<=nl a:=a1;have hlv:(AE (AU (nl a) (hi (a/b) j))).length=nl a:=by rw[BR,Am]
 have hrl:=AK (a/BB^j%b);have hrn:=GK (a:=a/BB^j) a0.1;refine And.symm ⟨λa3=>?_,λa3=>?_⟩;simp only[nrm]at a3
 refine⟨(AU (nl a) (hi (a/b) j),a/b),by
  rfl,by
  exact⟨by rw[Am];omega,Fi _ _,by rw[show j=0 by omega,Pb,Cm,Gg (Cz (Nat.div_le_self _ _))]⟩,?_⟩
 refine⟨rfl,?_⟩;rw[show j=0 by omega,Nat.pow_zero,Nat.div_one];simp only[nrm]at a3;have hj:((((j:Nat):Int)-1).toNat)=j-1:=by omega
 have hj1:j-1+1=j:=by omega
 have hs:=Ld (a:=a) (j:=j-1) a0.1;have hq:=Le (a:=a) (j:=j-1) a0.1;rw[hj1]at hs hq;have hRn:=Jq hs;have hRb:(dgt a (j-1)+BB*(a/BB^j%b))/b<BB:=Nat.div_lt_of_lt_mul hs;have hRl:=GL hRb;refine ao (by omega) λo23=>?_;refine ao (by omega) λo24=>?_;refine ao (by simp only[List.length_cons,List.length_nil];omega) λo25=>?_
 refine⟨(dgt a (j-1)::dig (a/BB^j%b),dgt a (j-1)+BB*(a/BB^j%b)),by
  rw[hj,L_n];rfl,by
  try dsimp only[Ae]
  exact⟨by show(dig _).length+1<=_;show nl _+1<=_;omega,Lb (Bn _ _),FQ _ _⟩,?_⟩
 refine⟨((dgt a (j-1)+BB*(a/BB^j%b)),b),by
  rfl,by
  show nl (dgt a (j-1)+BB*(a/BB^j%b))<=1048576/\nl b<=1048576;first|exact⟨by omega,by omega⟩,?_⟩
 refine⟨λa2=>?_,λa2=>?_⟩;simp only[nrm]at a2;have a5:dgt a (j-1)+BB*(a/BB^j%b)<b:=Ds.1 a2;have hk:=Uu (q:=a/b) (i:=j-1) (by rw[← hq.1,Nat.div_eq_of_lt a5]);rw[hj1]at hk
 refine⟨j-1,by
  omega,by
  omega,?_⟩
 refine⟨?_,rfl,rfl,?_,?_⟩;rw[C0 (by omega) (by omega)];rw[hk];rw[← hq.2,Nat.mod_eq_of_lt a5];simp only[nrm]at a2;have a4:(AE (AU (nl a) (hi (a/b) j))).set ((((j:Nat):Int)-1).toNat) (((AE (AU (nl a) (hi (a/b) j))).getD ((((j:Nat):Int)-1).toNat) []).set 0 (Dat.int (((dgt a (j-1)+BB*(a/BB^j%b))/b:Nat):Int)))=AE (AU (nl a) (hi (a/b) (j-1))):=by rw[hj];exact L0 (by omega) (by omega) hq.1
 refine⟨((dgt a (j-1)+BB*(a/BB^j%b)),b),by
  rfl,by
  show b≠0/\(dgt a (j-1)+BB*(a/BB^j%b))<b*BB/\nl b<=131072;exact⟨a0.1,hs,by omega⟩,?_⟩
 refine ao (by omega) λo44=>?_;refine ao (by omega) λo45=>?_
 refine⟨((dgt a (j-1)+BB*(a/BB^j%b))/b),by
  rfl,by
  exact Nat.le_trans (Nat.le_of_lt hRb) (by decide),?_⟩
 refine⟨(b,((dgt a (j-1)+BB*(a/BB^j%b))/b)),by
  rfl,by
  show nl b<=524288/\nl ((dgt a (j-1)+BB*(a/BB^j%b))/b)<=524288;first|exact⟨by omega,by omega⟩,?_⟩
 refine⟨((dgt a (j-1)+BB*(a/BB^j%b)),(b*((dgt a (j-1)+BB*(a/BB^j%b))/b))),by
  rfl,by
  try dsimp only[CK]
  have:=Az b ((dgt a (j-1)+BB*(a/BB^j%b))/b);exact⟨by omega,by omega,Nat.mul_div_le _ _⟩,?_⟩
 refine⟨j-1,by
  omega,by
  omega,?_⟩
 refine⟨?_,rfl,rfl,?_,?_⟩;rw[C0 (by omega) (by omega)];exact a4;rw[Lc,hq.2]
def Ep:Con:={ι:=Nat×Nat,pre:=λi=>i.1<=9223372036854775807/\i.2<=9223372036854775807,args:=λi=>[.one (cI ((i.1:Nat):Int)),.one (cI ((i.2:Nat):Int))],res:=λi=>⟨false,[none],[.own 3 [.int] (L (i.1.gcd i.2))]⟩}
theorem Rk:Ep.Ok Tryz.prog 162:=by
 refine fok (X:=⟨tt,[(123,BC)],[],15,[]⟩) mixed AF (CTok.cons Ig (CTok.nil _)) Tryz.func162 (λ(i:Nat×Nat)=>[(1,.mk 1 (Nat×Nat) (λx1=>{tm:=[(0,tI (nI x1.1)),(1,tI (nI x1.2))],en:=[]}) (λx1=>x1.1.gcd x1.2=i.1.gcd i.2/\x1.1<=9223372036854775807/\x1.2<=9223372036854775807) (λx1=>x1.2) (λ_=>[]))]) ?_;rintro⟨x,y⟩ a1;have a1:x<=9223372036854775807/\y<=9223372036854775807:=a1;refine AG (q:=(∃x1:Nat×Nat,(x1.1.gcd x1.2=x.gcd y/\x1.1<=9223372036854775807/\x1.2<=9223372036854775807)/\((vI (nI x)=vI (nI x1.1))/\(vI (nI y)=vI (nI x1.2))))/\∀x1:Nat×Nat,(x1.1.gcd x1.2=x.gcd y/\x1.1<=9223372036854775807/\x1.2<=9223372036854775807)->(ifB ((decide ((nI x1.2)>(0:Int)))) (((nI x1.2)≠0)/\(∃y2:Nat×Nat,(y2.1.gcd y2.2=x.gcd y/\y2.1<=9223372036854775807/\y2.2<=9223372036854775807)/\(y2.2<x1.2)/\((vI (nI x1.2)=vI (nI y2.1))/\(vI (Int.tmod (nI x1.1) (nI x1.2))=vI (nI y2.2))))) (∃i1:Nat,[DA.one (cI (nI x1.1))]=BC.args i1/\BC.pre i1/\((L i1=L (x.gcd y)))))) (by kernel_rfl) ?_;delta ifB vI nI;refine⟨⟨(x,y),by exact⟨rfl,a1.1,a1.2⟩,?_⟩,?_⟩;exact⟨rfl,rfl⟩;rintro⟨n,r⟩ a0;have a0:n.gcd r=x.gcd y/\n<=9223372036854775807/\r<=9223372036854775807:=a0;refine And.symm ⟨λc5=>?_,λc5=>?_⟩;simp only[nrm]at c5
 refine⟨n,by
  rfl,by
  show n<=9223372036854775807;omega,?_⟩
 rw[← a0.1,show r=0 by omega,Nat.gcd_zero_right];simp only[nrm]at c5;refine ao (by omega) λo6=>?_
 refine⟨(r,n%r),by
  exact⟨(GM n r).trans a0.1,a0.2.2,Nat.le_trans (Nat.mod_le _ _) a0.2.1⟩,by
  exact Nat.mod_lt _ (by omega),?_⟩
 refine⟨rfl,?_⟩;rfl
def DM:Con:={ι:=Nat×Nat,pre:=λi=>nl i.1<=131072/\nl i.2<=131072,args:=λi=>[.one (cS (L i.1)),.one (cS (L i.2))],res:=λi=>⟨false,[none],[.view 3 [.int] (L (i.1.gcd i.2))]⟩}
theorem Oj:DM.Ok Tryz.prog 133:=by
 refine fok (X:=⟨tt,[(161,C3),(162,Ep),(158,B5)],[],52,[]⟩) mixed AF (CTok.cons Rh (CTok.cons Rk (CTok.cons Oi (CTok.nil _)))) Tryz.func133 (λ(i:Nat×Nat)=>[(3,.mk 3 (Nat×Nat) (λx1=>{tm:=[(5,tX 1),(6,tX 2)],en:=[(1,eV (L x1.1)),(2,eV (L x1.2))]}) (λx1=>x1.1.gcd x1.2=i.1.gcd i.2/\nl x1.1<=131072/\nl x1.2<=131072) (λx1=>x1.2) (λ_=>[]))]) ?_;rintro⟨a,b⟩ a1;have a1:nl a<=131072/\nl b<=131072:=a1;refine AG (q:=(([]:List (List Dat)).length+(L a).length<=2199023255552)/\((([]:List (List Dat)).length+(L b).length<=2199023255552)/\((∃x1:Nat×Nat,(x1.1.gcd x1.2=a.gcd b/\nl x1.1<=131072/\nl x1.2<=131072)/\(((([]:List (List Dat))++(L a))=(L x1.1))/\((([]:List (List Dat))++(L b))=(L x1.2))))/\∀x1:Nat×Nat,(x1.1.gcd x1.2=a.gcd b/\nl x1.1<=131072/\nl x1.2<=131072)->(ifB ((decide ((nI ((L x1.2).length))>(0:Int)))) (ifB ((decide ((nI ((L x1.1).length))<(3:Int)))) (ifB ((decide ((nI ((L x1.2).length))<(3:Int)))) (∃i1:Nat,[DA.one (cS (L x1.1))]=C3.args i1/\C3.pre i1/\(∃i2:Nat,[DA.one (cS (L x1.2))]=C3.args i2/\C3.pre i2/\(∃i3:Nat×Nat,[DA.one (cI (nI i1)),DA.one (cI (nI i2))]=Ep.args i3/\Ep.pre i3/\((L (i3.1.gcd i3.2)=L (a.gcd b)))))) (∃i4:Nat×Nat,[DA.one (cS (L x1.1)),DA.one (cS (L x1.2))]=B5.args i4/\B5.pre i4/\(∃y2:Nat×Nat,(y2.1.gcd y2.2=a.gcd b/\nl y2.1<=131072/\nl y2.2<=131072)/\(y2.2<x1.2)/\(((L x1.2)=(L y2.1))/\(L (i4.1%i4.2)=(L y2.2)))))) (∃i5:Nat×Nat,[DA.one (cS (L x1.1)),DA.one (cS (L x1.2))]=B5.args i5/\B5.pre i5/\(∃y3:Nat×Nat,(y3.1.gcd y3.2=a.gcd b/\nl y3.1<=131072/\nl y3.2<=131072)/\(y3.2<x1.2)/\(((L x1.2)=(L y3.1))/\(L (i5.1%i5.2)=(L y3.2)))))) (((L x1.1)=L (a.gcd b))))))) (by kernel_rfl) ?_;delta ifB nI;have ha:=AK a;have hb:=AK b;refine ao (by first|(simp only[List.length_nil];omega)) λo1=>?_;refine ao (by first|(simp only[List.length_nil];omega)) λo2=>?_;refine⟨⟨(a,b),by exact⟨rfl,a1.1,a1.2⟩,?_⟩,?_⟩;refine⟨?_,?_⟩;exact List.nil_append _;exact List.nil_append _;rintro⟨x,y⟩ a0;have a0:x.gcd y=a.gcd b/\nl x<=131072/\nl y<=131072:=a0;have hx:=AK x;have hy:=AK y;have hy0:y≠0<->0<nl y:=⟨Hy,λh e=>by rw[e,Ca]at h;omega⟩;have a3:∀n,nl n<=2->n<=9223372036854775807:=λn h=>Nat.le_of_lt (Nat.lt_trans (Gf h) (by decide));refine And.symm ⟨λc7=>?_,λc7=>?_⟩;simp only[nrm]at c7;rw[← a0.1,Co.1 (show nl y=0 by omega),Nat.gcd_zero_right];simp only[nrm]at c7;have a2:y≠0:=hy0.2 (by omega);refine And.symm ⟨λc8=>?_,λc8=>?_⟩;simp only[nrm]at c8
 refine⟨(x,y),by
  rfl,by
  exact⟨a2,a0.2.1,a0.2.2⟩,?_⟩
 refine⟨(y,x%y),by
  exact⟨(GM x y).trans a0.1,a0.2.2,Nat.le_trans (GK a2) a0.2.2⟩,by
  exact Nat.mod_lt _ (Nat.pos_of_ne_zero a2),?_⟩
 exact⟨rfl,rfl⟩;simp only[nrm]at c8;refine And.symm ⟨λc9=>?_,λc9=>?_⟩;simp only[nrm]at c9
 refine⟨(x,y),by
  rfl,by
  exact⟨a2,a0.2.1,a0.2.2⟩,?_⟩
 refine⟨(y,x%y),by
  exact⟨(GM x y).trans a0.1,a0.2.2,Nat.le_trans (GK a2) a0.2.2⟩,by
  exact Nat.mod_lt _ (Nat.pos_of_ne_zero a2),?_⟩
 exact⟨rfl,rfl⟩;simp only[nrm]at c9
 refine⟨x,by
  rfl,by
  show nl x<=2;omega,?_⟩
 refine⟨y,by
  rfl,by
  show nl y<=2;omega,?_⟩
 refine⟨(x,y),by
  rfl,by
  exact⟨a3 x (by omega),a3 y (by omega)⟩,?_⟩
 rw[a0.1]
end Go.Proofs.YthoidhehmmcgnaaGreat
