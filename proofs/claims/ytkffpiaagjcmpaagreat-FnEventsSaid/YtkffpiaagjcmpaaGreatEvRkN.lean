import Derived.Test.YtkffpiaagjcmpaaGreatEvRkB
import Derived.Test.YtkffpiaagjcmpaaGreatEvExD
namespace Go.Proofs.YtkffpiaagjcmpaaGreat
set_option maxRecDepth 100000
set_option linter.unusedVariables false
set_option linter.unusedSimpArgs false
open Go.RowKit
def Ft:Con:={ ι:=Int,pre:=λ i=>True,args:=λ i=>[.one (cI i)],mono:=true,res:=λ i=>⟨false,[none],[rcB (!(inB i))]⟩ }
theorem VZ:Ft.Ok Tryz.prog 157:=by
 refine fok (X:=⟨tt,[(40,Bq)],[],6,[]⟩) mixed AQ (CTok.cons Jy (CTok.nil _)) Tryz.func157 (λ _=>[]) ?_
 intro (n:Int) hpre
 have hpre:True:=hpre
 refine AP (q:=∃ i1:Int×Int×Int,[DA.one (cI n),DA.one (cI (0:Int)),DA.one (cI (999999999:Int))]=Bq.args i1/\Bq.pre i1/\((vB (!(decide (i1.1≥i1.2.1) && decide (i1.1<=i1.2.2)))=vB (!(inB n))))) (by kernel_rfl) ?_
 delta vB
 refine ⟨(n,(0:Int),(999999999:Int)),by
  rfl,by
  trivial,?_⟩
 rfl
def Di:Con:={ ι:=(List (List Dat)),pre:=λ i=>i.length<=9223372036854775807,args:=λ i=>[.one (cS i),.one (.ro (.fn 157 []))],tag:=158,mono:=true,res:=λ i=>⟨false,[none],[rcI (PB (λ r=>!(inB (rn r))) i)]⟩ }
theorem PE:Di.Ok Tryz.prog 80:=by
 refine fok (X:=⟨tt,[(157,Ft)],[],19,[]⟩) mixed AQ (CTok.cons VZ (CTok.nil _)) Tryz.func80 (λ (i:(List (List Dat)))=>[(2,.mk 3 (Nat) (λ x1=>{ tm:=[(0,tX 1),(1,tX 2),(7,tI (nI i.length)),(8,tI (nI x1))],en:=[(1,eV i),(2,.ro (.fn 157 []) [])] }) (λ x1=>x1<=i.length/\∀ j,j<x1->(λ r=>!(inB (rn r))) (i.getD j [])=false) (λ x1=>i.length-x1) (λ _=>[]))]) ?_
 intro (l:List (List Dat)) hpre
 have hpre:l.length<=9223372036854775807:=hpre
 refine AP (q:=let Z2:=(.fn 157 []:RO)=.fn 157 [];let Z1:=PB (λ r=>!(inB (rn r))) l;(∃ x1:Nat,(x1<=l.length/\∀ j,j<x1->(λ r=>!(inB (rn r))) (l.getD j [])=false)/\((rf (vI (nI l.length)))/\(vI (0:Int)=vI (nI x1))/\(rf (l))/\Z2))/\∀ x1:Nat,(x1<=l.length/\∀ j,j<x1->(λ r=>!(inB (rn r))) (l.getD j [])=false)->(ifB ((decide ((nI x1)<(nI l.length)))) ((0<=(nI x1)/\(nI x1)<(l.length:Int))/\((x1<l.length)/\(∃ i1:Int,[DA.one (cI ((((l.getD x1 []).getD 0 (.int 0))).n))]=Ft.args i1/\Ft.pre i1/\(ifB ((!(inB i1))) ((vI (nI x1)=vI Z1)) (∃ y2:Nat,(y2<=l.length/\∀ j,j<y2->(λ r=>!(inB (rn r))) (l.getD j [])=false)/\(l.length-y2<l.length-x1)/\((rf (vI (nI l.length)))/\(vI (wR ((nI x1)+(1:Int)))=vI (nI y2))/\(rf (l))/\Z2)))))) ((vI (-1:Int)=vI Z1)))) (by kernel_rfl) ?_
 conv=>zeta
 delta ifB vI wR nI
 refine ⟨⟨0,by
  exact ⟨Nat.zero_le _,λ j hj=>absurd hj (Nat.not_lt_zero j)⟩,?_⟩,?_⟩
 ·refine ⟨rfl,?_,rfl,?_⟩
  ·rfl
  rfl
 intro (k:Nat) hki1
 have hki1:k<=l.length/\∀ j,j<k->(λ r=>!(inB (rn r))) (l.getD j [])=false:=hki1
 refine And.symm ⟨λ c7=>?_,λ c7=>?_⟩
 ·try simp only [nrm] at c7
  rw [VU (λ j hj=>hki1.2 j (by omega))]
 try simp only [nrm] at c7
 refine ao (by omega) λ o8=>?_
 refine ao (by omega) λ o9=>?_
 refine ⟨(((l.getD k []).getD 0 (.int 0))).n,by
  rfl,by
  trivial,?_⟩
 refine ⟨λ c13=>?_,λ c13=>?_⟩
 ·try simp only [nrm] at c13
  rw [Zb (by omega) hki1.2 (by simpa [rn] using c13)]
 try simp only [nrm] at c13
 refine ⟨k+1,by
  exact ⟨by omega,UQ hki1.2 (by simpa [rn] using c13)⟩,by
  omega,?_⟩
 refine ⟨rfl,?_,rfl,?_⟩
 ·exact AS (AC (by omega) (by omega))
 rfl
def Hc:Con:={ ι:=(List (List Dat)),pre:=λ i=>i.length<=9223372036854775807,args:=λ i=>[.one (cS i),.one (.ro (.fn 157 []))],tag:=158,mono:=true,res:=λ i=>⟨false,[none],[rcB (i.any (λ r=>!(inB (rn r))))]⟩ }
theorem Xl:Hc.Ok Tryz.prog 156:=by
 refine fok (X:=⟨tt,[(80,Di)],[],9,[]⟩) mixed AQ (CTok.cons PE (CTok.nil _)) Tryz.func156 (λ _=>[]) ?_
 intro (l:List (List Dat)) hpre
 have hpre:l.length<=9223372036854775807:=hpre
 refine AP (q:=∃ i1:(List (List Dat)),[DA.one (cS l),DA.one (DC.ro (.fn 157 []))]=Di.args i1/\Di.pre i1/\((vB (decide ((PB (λ r=>!(inB (rn r))) i1)≥(0:Int)))=vB (l.any (λ r=>!(inB (rn r))))))) (by kernel_rfl) ?_
 delta vB
 refine ⟨l,by
  rfl,by
  trivial,?_⟩
 exact congrArg Value.bool (Xh _ _)
def DW:Con:={ ι:=Int,pre:=λ i=>True,args:=λ i=>[.one (cI i)],mono:=true,res:=λ i=>⟨false,[none],[rcB false]⟩ }
theorem Va:DW.Ok Tryz.prog 204:=by
 refine fok (X:=⟨tt,[],[],6,[]⟩) mixed AQ (CTok.nil _) Tryz.func204 (λ _=>[]) ?_
 intro (n:Int) hpre
 have hpre:True:=hpre
 refine AP (q:=(vB (n != n)=vB false)) (by kernel_rfl) ?_
 delta vB
 simp
def DX:Con:={ ι:=Int×Int,pre:=λ i=>True,args:=λ i=>[.one (cI i.1),.one (cI i.2)],mono:=true,res:=λ i=>⟨false,[none],[rcI (DN i.1 i.2)]⟩ }
theorem Vb:DX.Ok Tryz.prog 181:=by
 refine fok (X:=⟨tt,[(204,DW)],[],20,[]⟩) mixed AQ (CTok.cons Va (CTok.nil _)) Tryz.func181 (λ _=>[]) ?_
 rintro ⟨a,b⟩ hpre
 have hpre:True:=hpre
 refine AP (q:=let Z1:=DN a b;let Z4:=(vI (1:Int)=vI Z1);let Z3:=(vI (0:Int)=vI Z1);let Z2:=(vI (-1:Int)=vI Z1);∃ i1:Int,[DA.one (cI a)]=DW.args i1/\DW.pre i1/\(∃ i2:Int,[DA.one (cI b)]=DW.args i2/\DW.pre i2/\(ifB (false) (ifB (false) Z3 Z2) (ifB (false) Z4 (ifB ((decide (a<b))) Z2 (ifB ((decide (a>b))) Z4 Z3)))))) (by kernel_rfl) ?_
 conv=>zeta
 delta ifB vI
 refine ⟨a,by
  rfl,by
  trivial,?_⟩
 refine ⟨b,by
  rfl,by
  trivial,?_⟩
 refine ⟨λ c7=>?_,λ c7=>?_⟩
 ·try simp only [nrm] at c7
  refine ⟨λ c8=>?_,λ c8=>?_⟩
  ·try simp only [nrm] at c8
   contradiction
  try simp only [nrm] at c8
  contradiction
 try simp only [nrm] at c7
 refine ⟨λ c11=>?_,λ c11=>?_⟩
 ·try simp only [nrm] at c11
  contradiction
 try simp only [nrm] at c11
 refine ⟨λ c13=>?_,λ c13=>?_⟩
 ·try simp only [nrm] at c13
  unfold DN;rw [if_pos (by omega)]
 try simp only [nrm] at c13
 refine ⟨λ c15=>?_,λ c15=>?_⟩
 ·try simp only [nrm] at c15
  unfold DN;rw [if_neg (by omega),if_neg (by omega)]
 try simp only [nrm] at c15
 unfold DN;rw [if_neg (by omega),if_pos (by omega)]
def Ai:Con:={ ι:=Nat×Nat,pre:=λ i=>nl i.1<=1048576/\i.2<=4194304,args:=λ i=>[.one (cS (L i.1)),.one (cI ((i.2:Nat):Int))],mono:=true,res:=λ i=>⟨false,[none],[rcI ((dgt i.1 i.2:Nat):Int)]⟩ }
theorem LR:Ai.Ok Tryz.prog 151:=by
 refine fok (X:=⟨tt,[],[],13,[]⟩) mixed AQ (CTok.nil _) Tryz.func151 (λ _=>[]) ?_
 rintro ⟨a,i⟩ hpre
 have hpre:nl a<=1048576/\i<=4194304:=hpre
 refine AP (q:=ifB ((decide ((nI i)<(nI ((L a).length))))) ((0<=(nI i)/\(nI i)<((L a).length:Int))/\((i<(L a).length)/\((vI ((((L a).getD i []).getD 0 (.int 0))).n=vI (nI (dgt a i)))))) ((vI (0:Int)=vI (nI (dgt a i))))) (by kernel_rfl) ?_
 delta ifB vI nI
 have hl:=Aq a
 refine And.symm ⟨λ c1=>?_,λ c1=>?_⟩
 ·try simp only [nrm] at c1
  rw [Ql ((Ea _ _).1 (by omega))];rfl
 try simp only [nrm] at c1
 refine ao (by omega) λ o2=>?_
 refine ao (by omega) λ o3=>?_
 exact AS (L_n a i)
def Au:Con:={ ι:=(List Nat),pre:=λ i=>i.length<=1048576/\∀ d ∈ i,d<BB,args:=λ i=>[.one (cS (AN i))],mono:=true,res:=λ i=>⟨false,[none],[.view 3 [.int] (L (Ap i))]⟩ }
theorem Fu:Au.Ok Tryz.prog 152:=by
 refine fok (X:=⟨tt,[],[],21,[]⟩) mixed AQ (CTok.nil _) Tryz.func152 (λ (i:(List Nat))=>[(2,.mk 2 (Nat) (λ x1=>{ tm:=[(0,tX 1),(3,tI (nI x1))],en:=[(1,eV (AN i))] }) (λ x1=>x1<=i.length/\Ap (i.take x1)=Ap i) (λ x1=>x1) (λ _=>[]))]) ?_
 intro (l:List Nat) hpre
 have hpre:l.length<=1048576/\∀ d ∈ l,d<BB:=hpre
 refine AP (q:=let Z3:=((AN l).length:Int);(∃ x1:Nat,(x1<=l.length/\Ap (l.take x1)=Ap l)/\((vI (nI ((AN l).length))=vI (nI x1))/\(rf (AN l))))/\∀ x1:Nat,let Z2:=wR ((nI x1)-(1:Int));let Z1:=(Nat.beq 1 1=true)/\((0<=(0:Int))/\(((0:Int)<=(nI x1))/\(((nI x1)<=Z3)/\((((AN l).take x1)=L (Ap l))))));(x1<=l.length/\Ap (l.take x1)=Ap l)->(ifB ((decide ((nI x1)>(0:Int)))) ((0<=Z2/\Z2<Z3)/\((Z2.toNat<(AN l).length)/\(ifB ((((((AN l).getD (Z2.toNat) []).getD 0 (.int 0))).n == (0:Int))) (∃ y2:Nat,(y2<=l.length/\Ap (l.take y2)=Ap l)/\(y2<x1)/\((vI Z2=vI (nI y2))/\(rf (AN l)))) Z1))) Z1)) (by kernel_rfl) ?_
 conv=>zeta
 delta ifB vI wR nI
 have hl:=CE l
 refine ⟨⟨l.length,by
  exact ⟨Nat.le_refl _,by rw [List.take_length]⟩,?_⟩,?_⟩
 ·refine ⟨?_,rfl⟩
  rw [hl]
 intro (k:Nat) hki1
 have hki1:k<=l.length/\Ap (l.take k)=Ap l:=hki1
 have hw:k≠0->IntKind.i64.wrap ((k:Int)-(1:Int))=((k-1:Nat):Int):=λ h=>by rw [AC (by omega) (by omega)];omega
 refine And.symm ⟨λ c5=>?_,λ c5=>?_⟩
 ·try simp only [nrm] at c5
  refine ao (by rfl) λ o19=>?_
  refine ao (by omega) λ o20=>?_
  refine ao (by omega) λ o21=>?_
  refine ao (by omega) λ o22=>?_
  exact Qs hpre.2 hki1.1 hki1.2 (.inl (by omega))
 try simp only [nrm] at c5
 refine ao (by omega) λ o6=>?_
 refine ao (by omega) λ o7=>?_
 refine And.symm ⟨λ c8=>?_,λ c8=>?_⟩
 ·try simp only [nrm] at c8
  rw [hw (by omega),Int.toNat_natCast,PA] at c8
  refine ao (by rfl) λ o14=>?_
  refine ao (by omega) λ o15=>?_
  refine ao (by omega) λ o16=>?_
  refine ao (by omega) λ o17=>?_
  exact Qs hpre.2 hki1.1 hki1.2 (.inr (by exact_mod_cast c8))
 try simp only [nrm] at c8
 rw [hw (by omega),Int.toNat_natCast,PA] at c8
 refine ⟨k-1,by
  exact ⟨by omega,(VW (by omega) (by omega) (by exact_mod_cast c8)).trans hki1.2⟩,by
  omega,?_⟩
 refine ⟨?_,rfl⟩
 rw [hw (by omega)]
def At:Con:={ ι:=Nat,pre:=λ i=>i<=9223372036854775807,args:=λ i=>[.one (cI ((i:Nat):Int))],mono:=true,res:=λ i=>⟨false,[none],[.own 3 [.int] (L i)]⟩ }
theorem MO:At.Ok Tryz.prog 114:=by
 refine fok (X:=⟨tt,[],[],15,[]⟩) mixed AQ (CTok.nil _) Tryz.func114 (λ (i:Nat)=>[(2,.mk 2 (Nat×(List Nat)) (λ x1=>{ tm:=[(0,tI (nI x1.1)),(3,tX 1)],en:=[(1,.own 3 [.int] (AN x1.2))] }) (λ x1=>x1.2++dig x1.1=dig i/\x1.1<=i) (λ x1=>x1.1) (λ _=>[]))]) ?_
 intro (n:Nat) hpre
 have hpre:n<=9223372036854775807:=hpre
 refine AP (q:=let Z2:=(1000000000:Int)≠0;(∃ x1:Nat×(List Nat),(x1.2++dig x1.1=dig n/\x1.1<=n)/\((vI (nI n)=vI (nI x1.1))/\(([]:List (List Dat))=(AN x1.2))))/\∀ x1:Nat×(List Nat),let Z3:=AN x1.2;let Z1:=Int.tmod (nI x1.1) (1000000000:Int);(x1.2++dig x1.1=dig n/\x1.1<=n)->(ifB ((decide ((nI x1.1)>(0:Int)))) (Z2/\((Z3.length+([[Dat.int Z1]]:List (List Dat)).length<=2199023255552)/\(Z2/\(∃ y2:Nat×(List Nat),(y2.2++dig y2.1=dig n/\y2.1<=n)/\(y2.1<x1.1)/\((vI (wR (Int.tdiv (nI x1.1) (1000000000:Int)))=vI (nI y2.1))/\((Z3++([[Dat.int Z1]]:List (List Dat)))=(AN y2.2))))))) ((Z3=L n)))) (by kernel_rfl) ?_
 conv=>zeta
 delta ifB vI wR nI
 refine ⟨⟨(n,[]),by
  exact ⟨rfl,Nat.le_refl _⟩,?_⟩,?_⟩
 ·refine ⟨rfl,?_⟩
  rfl
 rintro ⟨m,o⟩ hki1
 have hki1:o++dig m=dig n/\m<=n:=hki1
 have hol:o.length<=64:=by have h1:=congrArg List.length hki1.1;rw [List.length_append] at h1;have h2:nl n<=64:=(Ea _ _).2 (Nat.lt_of_le_of_lt hpre (by decide));unfold nl at h2;omega
 have hrl:=CE o
 refine And.symm ⟨λ c5=>?_,λ c5=>?_⟩
 ·try simp only [nrm] at c5
  show (AN o)=L n
  have hm:m=0:=by omega
  rw [← Xi (by rw [← hki1.1,hm,CP,List.append_nil])]
 try simp only [nrm] at c5
 refine ao (by omega) λ o6=>?_
 refine ao (a:=(AN o).length+([[Dat.int (Int.tmod ((m:Nat):Int) (1000000000:Int))]]:List (List Dat)).length<=2199023255552) (by simp only [List.length_cons,List.length_nil];omega) λ o7=>?_
 refine ao (by omega) λ o8=>?_
 refine ⟨(m/BB,o++[m%BB]),by
  refine ⟨?_,Nat.le_trans (Nat.div_le_self _ _) hki1.2⟩;rw [← hki1.1,Ew (n:=m) (by omega),List.append_assoc];rfl,by
  exact Nat.div_lt_self (by omega) (by decide),?_⟩
 refine ⟨?_,?_⟩
 ·rw [OE,Ey (Nat.le_trans (Nat.div_le_self _ _) (by omega))]
 exact DU _ _
end Go.Proofs.YtkffpiaagjcmpaaGreat
