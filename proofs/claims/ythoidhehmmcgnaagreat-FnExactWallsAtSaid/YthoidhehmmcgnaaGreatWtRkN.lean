import Derived.Test.YthoidhehmmcgnaaGreatWtRkB
import Derived.Test.YthoidhehmmcgnaaGreatWtExD
namespace Go.Proofs.YthoidhehmmcgnaaGreat
set_option maxRecDepth 100000
set_option linter.unusedVariables false
set_option linter.unusedSimpArgs false
open Go.RowKit
def GS:Con:={ι:=Int,pre:=λi=>True,args:=λi=>[.one (cI i)],mono:=true,res:=λi=>⟨false,[none],[rcB (!(inB i))]⟩}
theorem Vs:GS.Ok Tryz.prog 217:=by
 refine fok (X:=⟨tt,[(136,DF)],[],6,[]⟩) mixed AG (CTok.cons OH (CTok.nil _)) Tryz.func217 (λ_=>[]) ?_;intro (n:Int) a0;have a0:True:=a0;refine AH (q:=∃i1:Int×Int×Int,[DA.one (cI n),DA.one (cI (0:Int)),DA.one (cI (999999999:Int))]=DF.args i1/\DF.pre i1/\((vB (!(decide (i1.1>=i1.2.1) && decide (i1.1<=i1.2.2)))=vB (!(inB n))))) (by kernel_rfl) ?_;delta vB
 refine⟨(n,(0:Int),(999999999:Int)),by
  rfl,by
  trivial,?_⟩
 rfl
def EA:Con:={ι:=(List (List Dat)),pre:=λi=>i.length<=9223372036854775807,args:=λi=>[.one (cS i),.one (.ro (.fn 217 []))],tag:=218,mono:=true,res:=λi=>⟨false,[none],[rcI (PR (λr=>!(inB (rn r))) i)]⟩}
theorem PU:EA.Ok Tryz.prog 218:=by
 refine fok (X:=⟨tt,[(217,GS)],[],19,[]⟩) mixed AG (CTok.cons Vs (CTok.nil _)) Tryz.func218 (λ(i:(List (List Dat)))=>[(2,.mk 3 (Nat) (λx1=>{tm:=[(0,tX 1),(1,tX 2),(7,tI (nI i.length)),(8,tI (nI x1))],en:=[(1,eV i),(2,.ro (.fn 217 []) [])]}) (λx1=>x1<=i.length/\∀j,j<x1->(λr=>!(inB (rn r))) (i.getD j [])=false) (λx1=>i.length-x1) (λ_=>[]))]) ?_;intro (l:List (List Dat)) a1;have a1:l.length<=9223372036854775807:=a1;refine AH (q:=let Z2:=(.fn 217 []:RO)=.fn 217 [];let Z1:=PR (λr=>!(inB (rn r))) l;(∃x1:Nat,(x1<=l.length/\∀j,j<x1->(λr=>!(inB (rn r))) (l.getD j [])=false)/\((rf (vI (nI l.length)))/\(vI (0:Int)=vI (nI x1))/\(rf (l))/\Z2))/\∀x1:Nat,(x1<=l.length/\∀j,j<x1->(λr=>!(inB (rn r))) (l.getD j [])=false)->(ifB ((decide ((nI x1)<(nI l.length)))) ((0<=(nI x1)/\(nI x1)<(l.length:Int))/\((x1<l.length)/\(∃i1:Int,[DA.one (cI ((((l.getD x1 []).getD 0 (.int 0))).n))]=GS.args i1/\GS.pre i1/\(ifB ((!(inB i1))) ((vI (nI x1)=vI Z1)) (∃y2:Nat,(y2<=l.length/\∀j,j<y2->(λr=>!(inB (rn r))) (l.getD j [])=false)/\(l.length-y2<l.length-x1)/\((rf (vI (nI l.length)))/\(vI (wR ((nI x1)+(1:Int)))=vI (nI y2))/\(rf (l))/\Z2)))))) ((vI (-1:Int)=vI Z1)))) (by kernel_rfl) ?_;conv=>zeta
 delta ifB vI wR nI;refine⟨⟨0,by exact⟨Nat.zero_le _,λj hj=>absurd hj (Nat.not_lt_zero j)⟩,?_⟩,?_⟩;refine⟨rfl,?_,rfl,?_⟩;rfl;rfl;intro (k:Nat) a0;have a0:k<=l.length/\∀j,j<k->(λr=>!(inB (rn r))) (l.getD j [])=false:=a0;refine And.symm ⟨λc7=>?_,λc7=>?_⟩;simp only[nrm]at c7;rw[Vm (λj hj=>a0.2 j (by omega))];simp only[nrm]at c7;refine ao (by omega) λo8=>?_;refine ao (by omega) λo9=>?_
 refine⟨(((l.getD k []).getD 0 (.int 0))).n,by
  rfl,by
  trivial,?_⟩
 refine⟨λa2=>?_,λa2=>?_⟩;simp only[nrm]at a2;rw[ZA (by omega) a0.2 (by simpa[rn]using a2)];simp only[nrm]at a2
 refine⟨k+1,by
  exact⟨by omega,JQ a0.2 (by simpa[rn]using a2)⟩,by
  omega,?_⟩
 refine⟨rfl,?_,rfl,?_⟩;exact AU (AB (by omega) (by omega));rfl
def II:Con:={ι:=(List (List Dat)),pre:=λi=>i.length<=9223372036854775807,args:=λi=>[.one (cS i),.one (.ro (.fn 217 []))],tag:=218,mono:=true,res:=λi=>⟨false,[none],[rcB (i.any (λr=>!(inB (rn r))))]⟩}
theorem Xs:II.Ok Tryz.prog 216:=by
 refine fok (X:=⟨tt,[(218,EA)],[],9,[]⟩) mixed AG (CTok.cons PU (CTok.nil _)) Tryz.func216 (λ_=>[]) ?_;intro (l:List (List Dat)) a0;have a0:l.length<=9223372036854775807:=a0;refine AH (q:=∃i1:(List (List Dat)),[DA.one (cS l),DA.one (DC.ro (.fn 217 []))]=EA.args i1/\EA.pre i1/\((vB (decide ((PR (λr=>!(inB (rn r))) i1)>=(0:Int)))=vB (l.any (λr=>!(inB (rn r))))))) (by kernel_rfl) ?_;delta vB
 refine⟨l,by
  rfl,by
  trivial,?_⟩
 exact congrArg Value.bool (Xl _ _)
def Dy:Con:={ι:=Int,pre:=λi=>True,args:=λi=>[.one (cI i)],mono:=true,res:=λi=>⟨false,[none],[rcB false]⟩}
theorem Vt:Dy.Ok Tryz.prog 203:=by refine fok (X:=⟨tt,[],[],6,[]⟩) mixed AG (CTok.nil _) Tryz.func203 (λ_=>[]) ?_;intro (n:Int) a0;have a0:True:=a0;refine AH (q:=(vB (n != n)=vB false)) (by kernel_rfl) ?_;delta vB;simp
def Dz:Con:={ι:=Int×Int,pre:=λi=>True,args:=λi=>[.one (cI i.1),.one (cI i.2)],mono:=true,res:=λi=>⟨false,[none],[rcI (DG i.1 i.2)]⟩}
theorem Vu:Dz.Ok Tryz.prog 176:=by
 refine fok (X:=⟨tt,[(203,Dy)],[],20,[]⟩) mixed AG (CTok.cons Vt (CTok.nil _)) Tryz.func176 (λ_=>[]) ?_;rintro⟨a,b⟩ a0;have a0:True:=a0;refine AH (q:=let Z1:=DG a b;let Z4:=(vI (1:Int)=vI Z1);let Z3:=(vI (0:Int)=vI Z1);let Z2:=(vI (-1:Int)=vI Z1);∃i1:Int,[DA.one (cI a)]=Dy.args i1/\Dy.pre i1/\(∃i2:Int,[DA.one (cI b)]=Dy.args i2/\Dy.pre i2/\(ifB (false) (ifB (false) Z3 Z2) (ifB (false) Z4 (ifB ((decide (a<b))) Z2 (ifB ((decide (a>b))) Z4 Z3)))))) (by kernel_rfl) ?_;conv=>zeta
 delta ifB vI
 refine⟨a,by
  rfl,by
  trivial,?_⟩
 refine⟨b,by
  rfl,by
  trivial,?_⟩
 refine⟨λc7=>?_,λc7=>?_⟩;refine⟨λc8=>?_,λc8=>?_⟩;contradiction;simp only[nrm]at c8;contradiction;simp only[nrm]at c7;refine⟨λa3=>?_,λa3=>?_⟩;contradiction;simp only[nrm]at a3;refine⟨λa1=>?_,λa1=>?_⟩;simp only[nrm]at a1;unfold DG;rw[if_pos (by omega)];simp only[nrm]at a1;refine⟨λa2=>?_,λa2=>?_⟩;simp only[nrm]at a2;unfold DG;rw[if_neg (by omega),if_neg (by omega)];simp only[nrm]at a2;unfold DG;rw[if_neg (by omega),if_pos (by omega)]
def An:Con:={ι:=Nat×Nat,pre:=λi=>nl i.1<=1048576/\i.2<=4194304,args:=λi=>[.one (cS (L i.1)),.one (cI ((i.2:Nat):Int))],mono:=true,res:=λi=>⟨false,[none],[rcI ((dgt i.1 i.2:Nat):Int)]⟩}
theorem Lf:An.Ok Tryz.prog 177:=by refine fok (X:=⟨tt,[],[],13,[]⟩) mixed AG (CTok.nil _) Tryz.func177 (λ_=>[]) ?_;rintro⟨a,i⟩ a0;have a0:nl a<=1048576/\i<=4194304:=a0;refine AH (q:=ifB ((decide ((nI i)<(nI ((L a).length))))) ((0<=(nI i)/\(nI i)<((L a).length:Int))/\((i<(L a).length)/\((vI ((((L a).getD i []).getD 0 (.int 0))).n=vI (nI (dgt a i)))))) ((vI (0:Int)=vI (nI (dgt a i))))) (by kernel_rfl) ?_;delta ifB vI nI;have hl:=AJ a;refine And.symm ⟨λc1=>?_,λc1=>?_⟩;simp only[nrm]at c1;rw[F1 ((Di _ _).1 (by omega))];rfl;simp only[nrm]at c1;refine ao (by omega) λo2=>?_;refine ao (by omega) λo3=>?_;exact AU (L_n a i)
def A3:Con:={ι:=(List Nat),pre:=λi=>i.length<=1048576/\∀d ∈ i,d<BB,args:=λi=>[.one (cS (AF i))],mono:=true,res:=λi=>⟨false,[none],[.view 3 [.int] (L (Ah i))]⟩}
theorem GT:A3.Ok Tryz.prog 178:=by
 refine fok (X:=⟨tt,[],[],21,[]⟩) mixed AG (CTok.nil _) Tryz.func178 (λ(i:(List Nat))=>[(2,.mk 2 (Nat) (λx1=>{tm:=[(0,tX 1),(3,tI (nI x1))],en:=[(1,eV (AF i))]}) (λx1=>x1<=i.length/\Ah (i.take x1)=Ah i) (λx1=>x1) (λ_=>[]))]) ?_;intro (l:List Nat) a1;have a1:l.length<=1048576/\∀d ∈ l,d<BB:=a1;refine AH (q:=let Z3:=((AF l).length:Int);(∃x1:Nat,(x1<=l.length/\Ah (l.take x1)=Ah l)/\((vI (nI ((AF l).length))=vI (nI x1))/\(rf (AF l))))/\∀x1:Nat,let Z2:=wR ((nI x1)-(1:Int));let Z1:=(Nat.beq 1 1=true)/\((0<=(0:Int))/\(((0:Int)<=(nI x1))/\(((nI x1)<=Z3)/\((((AF l).take x1)=L (Ah l))))));(x1<=l.length/\Ah (l.take x1)=Ah l)->(ifB ((decide ((nI x1)>(0:Int)))) ((0<=Z2/\Z2<Z3)/\((Z2.toNat<(AF l).length)/\(ifB ((((((AF l).getD (Z2.toNat) []).getD 0 (.int 0))).n == (0:Int))) (∃y2:Nat,(y2<=l.length/\Ah (l.take y2)=Ah l)/\(y2<x1)/\((vI Z2=vI (nI y2))/\(rf (AF l)))) Z1))) Z1)) (by kernel_rfl) ?_;conv=>zeta
 delta ifB vI wR nI;have hl:=BJ l;refine⟨⟨l.length,by exact⟨Nat.le_refl _,by rw[List.take_length]⟩,?_⟩,?_⟩;refine⟨?_,rfl⟩;rw[hl];intro (k:Nat) a0;have a0:k<=l.length/\Ah (l.take k)=Ah l:=a0;have hw:k≠0->IntKind.i64.wrap ((k:Int)-(1:Int))=((k-1:Nat):Int):=λh=>by rw[AB (by omega) (by omega)];omega
 refine And.symm ⟨λc5=>?_,λc5=>?_⟩;simp only[nrm]at c5;refine ao (by rfl) λo19=>?_;refine ao (by omega) λo20=>?_;refine ao (by omega) λo21=>?_;refine ao (by omega) λo22=>?_;exact JR a1.2 a0.1 a0.2 (.inl (by omega));simp only[nrm]at c5;refine ao (by omega) λo6=>?_;refine ao (by omega) λo7=>?_;refine And.symm ⟨λc8=>?_,λc8=>?_⟩;simp only[nrm]at c8;rw[hw (by omega),Int.toNat_natCast,JP]at c8;refine ao (by rfl) λo14=>?_;refine ao (by omega) λo15=>?_;refine ao (by omega) λo16=>?_;refine ao (by omega) λo17=>?_;exact JR a1.2 a0.1 a0.2 (.inr (by exact_mod_cast c8));simp only[nrm]at c8;rw[hw (by omega),Int.toNat_natCast,JP]at c8
 refine⟨k-1,by
  exact⟨by omega,(OK (by omega) (by omega) (by exact_mod_cast c8)).trans a0.2⟩,by
  omega,?_⟩
 refine⟨?_,rfl⟩;rw[hw (by omega)]
def A2:Con:={ι:=Nat,pre:=λi=>i<=9223372036854775807,args:=λi=>[.one (cI ((i:Nat):Int))],mono:=true,res:=λi=>⟨false,[none],[.own 3 [.int] (L i)]⟩}
theorem Ms:A2.Ok Tryz.prog 154:=by
 refine fok (X:=⟨tt,[],[],15,[]⟩) mixed AG (CTok.nil _) Tryz.func154 (λ(i:Nat)=>[(2,.mk 2 (Nat×(List Nat)) (λx1=>{tm:=[(0,tI (nI x1.1)),(3,tX 1)],en:=[(1,.own 3 [.int] (AF x1.2))]}) (λx1=>x1.2++dig x1.1=dig i/\x1.1<=i) (λx1=>x1.1) (λ_=>[]))]) ?_;intro (n:Nat) a1;have a1:n<=9223372036854775807:=a1;refine AH (q:=let Z2:=(1000000000:Int)≠0;(∃x1:Nat×(List Nat),(x1.2++dig x1.1=dig n/\x1.1<=n)/\((vI (nI n)=vI (nI x1.1))/\(([]:List (List Dat))=(AF x1.2))))/\∀x1:Nat×(List Nat),let Z3:=AF x1.2;let Z1:=Int.tmod (nI x1.1) (1000000000:Int);(x1.2++dig x1.1=dig n/\x1.1<=n)->(ifB ((decide ((nI x1.1)>(0:Int)))) (Z2/\((Z3.length+([[Dat.int Z1]]:List (List Dat)).length<=2199023255552)/\(Z2/\(∃y2:Nat×(List Nat),(y2.2++dig y2.1=dig n/\y2.1<=n)/\(y2.1<x1.1)/\((vI (wR (Int.tdiv (nI x1.1) (1000000000:Int)))=vI (nI y2.1))/\((Z3++([[Dat.int Z1]]:List (List Dat)))=(AF y2.2))))))) ((Z3=L n)))) (by kernel_rfl) ?_;conv=>zeta
 delta ifB vI wR nI;refine⟨⟨(n,[]),by exact⟨rfl,Nat.le_refl _⟩,?_⟩,?_⟩;refine⟨rfl,?_⟩;rfl;rintro⟨m,o⟩ a0;have a0:o++dig m=dig n/\m<=n:=a0;have hol:o.length<=64:=by have h1:=congrArg List.length a0.1;rw[List.length_append]at h1;have h2:nl n<=64:=(Di _ _).2 (Nat.lt_of_le_of_lt a1 (by decide));unfold nl at h2;omega
 have hrl:=BJ o;refine And.symm ⟨λc5=>?_,λc5=>?_⟩;simp only[nrm]at c5;have hm:m=0:=by omega
 rw[← Q7 (by rw[← a0.1,hm,Bv,List.append_nil])];simp only[nrm]at c5;refine ao (by omega) λo6=>?_;refine ao (by simp only[List.length_cons,List.length_nil];omega) λo7=>?_;refine ao (by omega) λo8=>?_
 refine⟨(m/BB,o++[m%BB]),by
  refine⟨?_,Nat.le_trans (Nat.div_le_self _ _) a0.2⟩;rw[← a0.1,CO (n:=m) (by omega),List.append_assoc];rfl,by
  exact Nat.div_lt_self (by omega) (by decide),?_⟩
 refine⟨?_,?_⟩;rw[DU,Bk (Nat.le_trans (Nat.div_le_self _ _) (by omega))];exact Ak _ _
end Go.Proofs.YthoidhehmmcgnaaGreat
