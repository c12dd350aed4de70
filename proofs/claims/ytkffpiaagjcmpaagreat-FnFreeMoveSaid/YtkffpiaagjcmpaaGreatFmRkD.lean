import Derived.Test.YtkffpiaagjcmpaaGreatFmRkC
namespace Go.Proofs.YtkffpiaagjcmpaaGreat
set_option maxRecDepth 100000
set_option linter.unusedVariables false
set_option linter.unusedSimpArgs false
open Go.RowKit
theorem AA9 {x:Int} (h:0<=x/\x<=999999999):inB x=true:=by unfold inB;rw [decide_eq_true h.1,decide_eq_true h.2];rfl
theorem ACg {x:Int} (h:x<0∨999999999<x):inB x=false:=by
 unfold inB
 rcases h with h|h
 ·rw [decide_eq_false (show ¬ 0<=x by omega)];rfl
 ·rw [decide_eq_false (show ¬ x<=999999999 by omega),Bool.and_false]
theorem Y6 {l:List (List Dat)} (h:∀ j,j<l.length->inB (rn (l.getD j []))=true):(l.any λ r=>!(inB (rn r)))=false:=by
 rw [List.any_eq_false]
 intro r hr
 obtain ⟨k,hk,rfl⟩:=List.getElem_of_mem hr
 have:=h k hk
 rw [List.getD,List.getElem?_eq_getElem hk] at this
 simp only [Option.getD_some] at this
 rw [this];simp
theorem UK {l:List (List Dat)} {k:Nat} (hk:k<l.length) (h:inB (rn (l.getD k []))=false):BA l=false:=by
 apply Ne
 rw [List.any_eq_true]
 refine ⟨l[k],List.getElem_mem hk,?_⟩
 rw [List.getD,List.getElem?_eq_getElem hk] at h
 simp only [Option.getD_some] at h
 rw [h];rfl
theorem ABA:dig 9223372036854775807=[854775807,223372036,9]:=by
 rw [CZ (by decide),CZ (by decide),CZ (by decide),show 9223372036854775807/BB/BB/BB=0 from by decide,CA]
 rfl
theorem ABB:dig 9223372036854775808=[854775808,223372036,9]:=by
 rw [CZ (by decide),CZ (by decide),CZ (by decide),show 9223372036854775808/BB/BB/BB=0 from by decide,CA]
 rfl
theorem AEC:[[Dat.int (854775807:Int)],[Dat.int (223372036:Int)],[Dat.int (9:Int)]]=L 9223372036854775807:=by unfold L;rw [ABA];rfl
theorem AED:[[Dat.int (854775808:Int)],[Dat.int (223372036:Int)],[Dat.int (9:Int)]]=L 9223372036854775808:=by unfold L;rw [ABB];rfl
theorem Hz {n:Nat} (h:(L n).length=0):n=0:=Cq.1 (by rw [← AV];exact h)
theorem UL {a b i:Nat} : a%BB^i*b<BB^(i+nl b):=by
 rw [Nat.pow_add]
 exact Nat.mul_lt_mul'' (Nat.mod_lt _ (BBp i)) (DD b)
theorem ACh {V p d N:Nat} (hp:p<N) (hV:V<BB^N) (hd:d<BB):V-dgt V p*BB^p+d*BB^p<BB^N:=by
 have e1:=GD V p
 have e2:=Nat.div_add_mod V (BB^(p+1))
 have eN:BB^N=BB^(p+1)*BB^(N-p-1):=by rw [← Nat.pow_add];congr 1;omega
 have hQ:V/BB^(p+1)<BB^(N-p-1):=Nat.div_lt_of_lt_mul (by rw [← eN];exact hV)
 have h1:BB^(p+1)*(V/BB^(p+1)+1)<=BB^N:=by rw [eN];exact Nat.mul_le_mul_left _ hQ
 have hr:=Nat.mod_lt V (BBp p)
 have h2:(d+1)*BB^p<=BB^(p+1):=by rw [Nat.pow_succ,Nat.mul_comm (BB^p)];exact Nat.mul_le_mul_right _ hd
 rw [Nat.add_mul,Nat.one_mul] at h2
 rw [Nat.mul_add,Nat.mul_one] at h1
 rw [Nat.mul_comm (BB^p)] at e1
 generalize V%BB^p=r at *
 generalize V/BB^(p+1)=q at *
 generalize V%BB^(p+1)=s at *
 omega
def CH:Con:={ ι:=(List (List Dat)),pre:=λ i=>i.length<=9223372036854775807,args:=λ i=>[.one (cS i)],res:=λ i=>⟨false,[none],[rcB (BA i)]⟩ }
theorem K6:CH.Ok Tryz.prog 165:=by
 refine fok (X:=⟨tt,[(161,IR)],[],32,[]⟩) mixed AI (CTok.cons Yj (CTok.nil _)) Tryz.func165 (λ (i:(List (List Dat)))=>[(2,.mk 2 (Nat) (λ x1=>{ tm:=[(0,tX 1),(5,tX 1),(6,tI (nI i.length)),(7,tI (nI x1))],en:=[(1,eV i)] }) (λ x1=>x1<=i.length/\∀ j,j<x1->inB (rn (i.getD j []))=true) (λ x1=>i.length-x1) (λ _=>[]))]) ?_
 intro (l:List (List Dat)) hpre
 have hpre:l.length<=9223372036854775807:=hpre
 refine AH (q:=let Z3:=(vB false=vB (BA l));let Z2:=nI l.length;let Z1:=wR (Z2-(1:Int));(∃ x1:Nat,(x1<=l.length/\∀ j,j<x1->inB (rn (l.getD j []))=true)/\((rf (vI Z2))/\(vI (0:Int)=vI (nI x1))/\(rf (l))))/\∀ x1:Nat,(x1<=l.length/\∀ j,j<x1->inB (rn (l.getD j []))=true)->(ifB ((decide ((nI x1)<Z2))) ((0<=(nI x1)/\(nI x1)<(l.length:Int))/\((x1<l.length)/\(∃ i1:Int×Int×Int,[DA.one (cI ((((l.getD x1 []).getD 0 (.int 0))).n)),DA.one (cI (0:Int)),DA.one (cI (999999999:Int))]=IR.args i1/\IR.pre i1/\(ifB ((!(decide (i1.1≥i1.2.1) && decide (i1.1<=i1.2.2)))) Z3 (∃ y2:Nat,(y2<=l.length/\∀ j,j<y2->inB (rn (l.getD j []))=true)/\(l.length-y2<l.length-x1)/\((rf (vI Z2))/\(vI (wR ((nI x1)+(1:Int)))=vI (nI y2))/\(rf (l)))))))) (ifB ((decide (Z2<=(60:Int)))) (ifB ((!(Z2 == (0:Int)))) ((0<=Z1/\Z1<(l.length:Int))/\((Z1.toNat<l.length)/\((vB ((((l.getD (Z1.toNat) []).getD 0 (.int 0))).n != (0:Int))=vB (BA l))))) ((vB true=vB (BA l)))) Z3))) (by kernel_rfl) ?_
 conv=>zeta
 delta ifB vB vI wR nI
 refine ⟨⟨0,by
  exact ⟨Nat.zero_le _,λ j hj=>absurd hj (Nat.not_lt_zero j)⟩,?_⟩,?_⟩
 ·refine ⟨rfl,?_,rfl⟩
  rfl
 intro (k:Nat) hki1
 have hki1:k<=l.length/\∀ j,j<k->inB (rn (l.getD j []))=true:=hki1
 refine ⟨λ c6=>?_,λ c6=>?_⟩
 ·try simp only [nrm] at c6
  refine ao (by omega) λ o7=>?_
  refine ao (by omega) λ o8=>?_
  refine ⟨((((l.getD k []).getD 0 (.int 0))).n,(0:Int),(999999999:Int)),by
   rfl,by
   trivial,?_⟩
  refine ⟨λ c12=>?_,λ c12=>?_⟩
  ·try simp only [nrm] at c12
   have hE:=UK o8 (ACg c12)
   rw [hE]
  try simp only [nrm] at c12
  refine ⟨k+1,by
   exact ⟨by omega,IT hki1.2 (AA9 c12)⟩,by
   omega,?_⟩
  refine ⟨rfl,?_,rfl⟩
  exact Aa (AB (by omega) (by omega))
 try simp only [nrm] at c6
 have hall:=Y6 (l:=l) (λ j hj=>hki1.2 j (by omega))
 refine And.symm ⟨λ c20=>?_,λ c20=>?_⟩
 ·try simp only [nrm] at c20
  have hE:=Nd (l:=l) (by omega)
  rw [hE]
 try simp only [nrm] at c20
 refine And.symm ⟨λ c21=>?_,λ c21=>?_⟩
 ·try simp only [nrm] at c21
  have hE:=Nf (l:=l) (by omega)
  rw [hE]
 try simp only [nrm] at c21
 have hE:=Lv (l:=l) (by omega) hall (by omega)
 have hw:(IntKind.i64.wrap (((l.length:Nat):Int)-(1:Int)))=((l.length-1:Nat):Int):=by rw [AB (by omega) (by omega)];omega
 refine ao (by omega) λ o22=>?_
 refine ao (by omega) λ o23=>?_
 rw [hw,Int.toNat_natCast,hE];rfl
def AY:Con:={ ι:=(List Nat)×Nat,pre:=λ i=>i.1.length<=1048576/\(∀ q ∈ i.1,q<BB)/\Ac i.1=i.2,args:=λ i=>[.one (cS (AE i.1))],res:=λ i=>⟨false,[none],[.view 3 [.int] (L i.2)]⟩ }
theorem EC:AY.Ok Tryz.prog 199:=by
 refine fok (X:=⟨tt,[],[],21,[]⟩) mixed AI (CTok.nil _) Tryz.func199 (λ (i:(List Nat)×Nat)=>[(2,.mk 2 (Nat) (λ x1=>{ tm:=[(0,tX 1),(3,tI (nI x1))],en:=[(1,eV (AE i.1))] }) (λ x1=>x1<=i.1.length/\Ac (i.1.take x1)=Ac i.1) (λ x1=>x1) (λ _=>[]))]) ?_
 rintro ⟨l,n⟩ hpre
 have hpre:l.length<=1048576/\(∀ q ∈ l,q<BB)/\Ac l=n:=hpre
 refine AH (q:=let Z3:=((AE l).length:Int);(∃ x1:Nat,(x1<=l.length/\Ac (l.take x1)=Ac l)/\((vI (nI ((AE l).length))=vI (nI x1))/\(rf (AE l))))/\∀ x1:Nat,let Z2:=wR ((nI x1)-(1:Int));let Z1:=(Nat.beq 1 1=true)/\((0<=(0:Int))/\(((0:Int)<=(nI x1))/\(((nI x1)<=Z3)/\((((AE l).take x1)=L n)))));(x1<=l.length/\Ac (l.take x1)=Ac l)->(ifB ((decide ((nI x1)>(0:Int)))) ((0<=Z2/\Z2<Z3)/\((Z2.toNat<(AE l).length)/\(ifB ((((((AE l).getD (Z2.toNat) []).getD 0 (.int 0))).n == (0:Int))) (∃ y2:Nat,(y2<=l.length/\Ac (l.take y2)=Ac l)/\(y2<x1)/\((vI Z2=vI (nI y2))/\(rf (AE l)))) Z1))) Z1)) (by kernel_rfl) ?_
 conv=>zeta
 delta ifB vI wR nI
 have hl:=BJ l
 refine ⟨⟨l.length,by
  exact ⟨Nat.le_refl _,by rw [List.take_length]⟩,?_⟩,?_⟩
 ·refine ⟨?_,rfl⟩
  rw [hl]
 intro (k:Nat) hki1
 have hki1:k<=l.length/\Ac (l.take k)=Ac l:=hki1
 have hw:k≠0->IntKind.i64.wrap ((k:Int)-(1:Int))=((k-1:Nat):Int):=λ h=>by rw [AB (by omega) (by omega)];omega
 refine And.symm ⟨λ c5=>?_,λ c5=>?_⟩
 ·try simp only [nrm] at c5
  refine ao (by rfl) λ o19=>?_
  refine ao (by omega) λ o20=>?_
  refine ao (by omega) λ o21=>?_
  refine ao (by omega) λ o22=>?_
  rw [← hpre.2.2]
  exact Jn hpre.2.1 hki1.1 hki1.2 (.inl (by omega))
 try simp only [nrm] at c5
 refine ao (by omega) λ o6=>?_
 refine ao (by omega) λ o7=>?_
 refine ⟨λ c8=>?_,λ c8=>?_⟩
 ·try simp only [nrm] at c8
  rw [hw (by omega),Int.toNat_natCast,Jm] at c8
  refine ⟨k-1,by
   exact ⟨by omega,(PI (by omega) (by omega) (by exact_mod_cast c8)).trans hki1.2⟩,by
   omega,?_⟩
  refine ⟨?_,rfl⟩
  rw [hw (by omega)]
 try simp only [nrm] at c8
 rw [hw (by omega),Int.toNat_natCast,Jm] at c8
 refine ao (by rfl) λ o14=>?_
 refine ao (by omega) λ o15=>?_
 refine ao (by omega) λ o16=>?_
 refine ao (by omega) λ o17=>?_
 rw [← hpre.2.2]
 exact Jn hpre.2.1 hki1.1 hki1.2 (.inr (by exact_mod_cast c8))
def Gt:Con:={ ι:=Nat,pre:=λ i=>nl i<=60,args:=λ i=>[.one (cS (L i))],res:=λ i=>⟨false,[none],[.view 3 [.int] (L i)]⟩ }
theorem W1:Gt.Ok Tryz.prog 200:=by
 refine fok (X:=⟨tt,[(199,AY)],[],10,[]⟩) mixed AI (CTok.cons EC (CTok.nil _)) Tryz.func200 (λ _=>[]) ?_
 intro (n:Nat) hpre
 have hpre:nl n<=60:=hpre
 refine AH (q:=∃ i1:(List Nat)×Nat,[DA.one (cS (L n))]=AY.args i1/\AY.pre i1/\(ifB ((decide ((nI ((L i1.2).length))>(60:Int)))) ((([]:List (List Dat))=L n)) ((L i1.2=L n)))) (by kernel_rfl) ?_
 delta ifB nI
 refine ⟨(dig n,n),by
  rfl,by
  exact ⟨by show nl _<=_;omega,NR _,GB _⟩,?_⟩
 refine ⟨λ c4=>?_,λ c4=>?_⟩
 ·try simp only [nrm] at c4
  exfalso;rw [AV] at c4;omega
 try simp only [nrm] at c4
 exact rfl
def A2:Con:={ ι:=Nat,pre:=λ i=>i<=9223372036854775807,args:=λ i=>[.one (cI ((i:Nat):Int))],res:=λ i=>⟨false,[none],[.own 3 [.int] (L i)]⟩ }
theorem IZ:A2.Ok Tryz.prog 172:=by
 refine fok (X:=⟨tt,[],[],15,[]⟩) mixed AI (CTok.nil _) Tryz.func172 (λ (i:Nat)=>[(2,.mk 2 (Nat×(List Nat)) (λ x1=>{ tm:=[(0,tI (nI x1.1)),(3,tX 1)],en:=[(1,.own 3 [.int] (AE x1.2))] }) (λ x1=>x1.2++dig x1.1=dig i/\x1.1<=i) (λ x1=>x1.1) (λ _=>[]))]) ?_
 intro (n:Nat) hpre
 have hpre:n<=9223372036854775807:=hpre
 refine AH (q:=let Z2:=(1000000000:Int)≠0;(∃ x1:Nat×(List Nat),(x1.2++dig x1.1=dig n/\x1.1<=n)/\((vI (nI n)=vI (nI x1.1))/\(([]:List (List Dat))=(AE x1.2))))/\∀ x1:Nat×(List Nat),let Z3:=AE x1.2;let Z1:=Int.tmod (nI x1.1) (1000000000:Int);(x1.2++dig x1.1=dig n/\x1.1<=n)->(ifB ((decide ((nI x1.1)>(0:Int)))) (Z2/\((Z3.length+([[Dat.int Z1]]:List (List Dat)).length<=2199023255552)/\(Z2/\(∃ y2:Nat×(List Nat),(y2.2++dig y2.1=dig n/\y2.1<=n)/\(y2.1<x1.1)/\((vI (wR (Int.tdiv (nI x1.1) (1000000000:Int)))=vI (nI y2.1))/\((Z3++([[Dat.int Z1]]:List (List Dat)))=(AE y2.2))))))) ((Z3=L n)))) (by kernel_rfl) ?_
 conv=>zeta
 delta ifB vI wR nI
 refine ⟨⟨(n,[]),by
  exact ⟨rfl,Nat.le_refl _⟩,?_⟩,?_⟩
 ·refine ⟨rfl,?_⟩
  rfl
 rintro ⟨m,o⟩ hki1
 have hki1:o++dig m=dig n/\m<=n:=hki1
 have hol:o.length<=64:=by have h1:=congrArg List.length hki1.1;rw [List.length_append] at h1;have h2:nl n<=64:=(Dp _ _).2 (Nat.lt_of_le_of_lt hpre (by decide));unfold nl at h2;omega
 have hrl:=BJ o
 refine And.symm ⟨λ c5=>?_,λ c5=>?_⟩
 ·try simp only [nrm] at c5
  show (AE o)=L n
  have hm:m=0:=by omega
  rw [← R5 (by rw [← hki1.1,hm,CA,List.append_nil])]
 try simp only [nrm] at c5
 refine ao (by omega) λ o6=>?_
 refine ao (a:=(AE o).length+([[Dat.int (Int.tmod ((m:Nat):Int) (1000000000:Int))]]:List (List Dat)).length<=2199023255552) (by simp only [List.length_cons,List.length_nil];omega) λ o7=>?_
 refine ao (by omega) λ o8=>?_
 refine ⟨(m/BB,o++[m%BB]),by
  refine ⟨?_,Nat.le_trans (Nat.div_le_self _ _) hki1.2⟩;rw [← hki1.1,CZ (n:=m) (by omega),List.append_assoc];rfl,by
  exact Nat.div_lt_self (by omega) (by decide),?_⟩
 refine ⟨?_,?_⟩
 ·rw [Dg,Bo (Nat.le_trans (Nat.div_le_self _ _) (by omega))]
 exact Ah _ _
def BY:Con:={ ι:=Nat×Nat,pre:=λ i=>nl i.1<=1048576/\nl i.2<=1048576,args:=λ i=>[.one (cS (L i.1)),.one (cS (L i.2))],res:=λ i=>⟨false,[none],[rcI (Ch i.1 i.2)]⟩ }
theorem Ia:BY.Ok Tryz.prog 197:=by
 refine fok (X:=⟨tt,[],[],41,[]⟩) mixed AI (CTok.nil _) Tryz.func197 (λ (i:Nat×Nat)=>[(6,.mk 3 (Nat) (λ x1=>{ tm:=[(0,tX 1),(1,tX 2),(5,tI ((nI x1)-1))],en:=[(1,eV (L i.1)),(2,eV (L i.2))] }) (λ x1=>x1<=nl i.1/\nl i.1=nl i.2/\i.1/BB^x1=i.2/BB^x1) (λ x1=>x1) (λ _=>[]))]) ?_
 rintro ⟨a,b⟩ hpre
 have hpre:nl a<=1048576/\nl b<=1048576:=hpre
 refine AH (q:=let Z6:=(vI (1:Int)=vI (Ch a b));let Z5:=(vI (-1:Int)=vI (Ch a b));let Z4:=nI ((L a).length);ifB ((Z4 != (nI ((L b).length)))) (ifB ((decide (Z4<(nI ((L b).length))))) Z5 Z6) ((∃ x1:Nat,(x1<=nl a/\nl a=nl b/\a/BB^x1=b/BB^x1)/\((vI (wR (Z4-(1:Int)))=vI ((nI x1)-1))/\(rf (L a))/\(rf (L b))))/\∀ x1:Nat,let Z1:=(nI x1)-1;let Z8:=Z1.toNat<(L b).length;let Z7:=Z1.toNat<(L a).length;let Z3:=(((L b).getD (Z1.toNat) []).getD 0 (.int 0));let Z2:=(((L a).getD (Z1.toNat) []).getD 0 (.int 0));(x1<=nl a/\nl a=nl b/\a/BB^x1=b/BB^x1)->(ifB ((decide (Z1≥(0:Int)))) ((0<=Z1/\Z1<((L a).length:Int))/\(Z7/\((0<=Z1/\Z1<((L b).length:Int))/\(Z8/\(ifB ((decide (Z2.n<Z3.n))) Z5 ((0<=Z1/\Z1<((L a).length:Int))/\(Z7/\((0<=Z1/\Z1<((L b).length:Int))/\(Z8/\(ifB ((decide (Z2.n>Z3.n))) Z6 (∃ y2:Nat,(y2<=nl a/\nl a=nl b/\a/BB^y2=b/BB^y2)/\(y2<x1)/\((vI (wR (Z1-(1:Int)))=vI ((nI y2)-1))/\(rf (L a))/\(rf (L b)))))))))))))) ((vI (0:Int)=vI (Ch a b)))))) (by kernel_rfl) ?_
 conv=>zeta
 delta ifB vI wR nI
 have ha:=AV a
 have hb:=AV b
 refine ⟨λ c1=>?_,λ c1=>?_⟩
 ·try simp only [nrm] at c1
  refine ⟨λ c2=>?_,λ c2=>?_⟩
  ·try simp only [nrm] at c2
   rw [MO (Jl (by omega))]
  try simp only [nrm] at c2
  rw [MP (Jl (by omega))]
 try simp only [nrm] at c1
 refine ⟨⟨nl a,by
  exact ⟨Nat.le_refl _,by omega,by rw [Nat.div_eq_of_lt (DD a),show nl a=nl b by omega,Nat.div_eq_of_lt (DD b)]⟩,?_⟩,?_⟩
 ·refine ⟨?_,rfl,rfl⟩
  rw [ha,AB (by omega) (by omega)]
 intro (j:Nat) hki5
 have hki5:j<=nl a/\nl a=nl b/\a/BB^j=b/BB^j:=hki5
 refine And.symm ⟨λ c10=>?_,λ c10=>?_⟩
 ·try simp only [nrm] at c10
  have hj0:j=0:=by omega
  subst hj0
  have e:=hki5.2.2
  rw [Nat.pow_zero,Nat.div_one,Nat.div_one] at e
  rw [e,VS]
 try simp only [nrm] at c10
 have hj:((((j:Nat):Int)-1).toNat)=j-1:=by omega
 have hj1:j-1+1=j:=by omega
 have he:a/BB^(j-1+1)=b/BB^(j-1+1):=by rw [hj1];exact hki5.2.2
 refine ao (by omega) λ o11=>?_
 refine ao (by omega) λ o12=>?_
 refine ao (by omega) λ o13=>?_
 refine ao (by omega) λ o14=>?_
 refine ⟨λ c15=>?_,λ c15=>?_⟩
 ·try simp only [nrm] at c15
  rw [hj,L_n,L_n] at c15
  rw [MO (IS (k:=j-1) he (by omega))]
 try simp only [nrm] at c15
 rw [hj,L_n,L_n] at c15
 refine ao (by omega) λ o17=>?_
 refine ao (by omega) λ o18=>?_
 refine ao (by omega) λ o19=>?_
 refine ao (by omega) λ o20=>?_
 refine ⟨λ c21=>?_,λ c21=>?_⟩
 ·try simp only [nrm] at c21
  rw [hj,L_n,L_n] at c21
  rw [MP (IS (k:=j-1) he.symm (by omega))]
 try simp only [nrm] at c21
 rw [hj,L_n,L_n] at c21
 refine ⟨j-1,by
  exact ⟨by omega,hki5.2.1,VM (k:=j-1) he (by omega)⟩,by
  omega,?_⟩
 refine ⟨?_,rfl,rfl⟩
 rw [C4 (by omega) (by omega)]
def C7:Con:={ ι:=Nat,pre:=λ i=>nl i<=2,args:=λ i=>[.one (cS (L i))],res:=λ i=>⟨true,[none,none],[rcI ((i:Nat):Int),rcB true]⟩ }
theorem SF:C7.Ok Tryz.prog 193:=by
 refine fok (X:=⟨tt,[(165,CH),(197,BY)],[],30,[]⟩) mixed AI (CTok.cons K6 (CTok.cons Ia (CTok.nil _))) Tryz.func193 (λ (i:Nat)=>[(5,.mk 2 (Nat) (λ x1=>{ tm:=[(0,tX 1),(4,tI (nI (i/BB^x1))),(5,tI ((nI x1)-1))],en:=[(1,eV (L i))] }) (λ x1=>x1<=nl i) (λ x1=>x1) (λ _=>[]))]) ?_
 intro (a:Nat) hpre
 have hpre:nl a<=2:=hpre
 refine AH (q:=let Z2:=(vI (0:Int)=vI (nI a))/\(vB false=vB true);∃ i1:(List (List Dat)),[DA.one (cS (L a))]=CH.args i1/\CH.pre i1/\(ifB ((!(!(BA i1)))) (∃ i2:Nat×Nat,[DA.one (cS (L a)),DA.one (cS ([[Dat.int (854775807:Int)],[Dat.int (223372036:Int)],[Dat.int (9:Int)]]:List (List Dat)))]=BY.args i2/\BY.pre i2/\(ifB ((decide ((Ch i2.1 i2.2)>(0:Int)))) Z2 ((∃ x1:Nat,(x1<=nl a)/\((vI (0:Int)=vI (nI (a/BB^x1)))/\(vI (wR ((nI ((L a).length))-(1:Int)))=vI ((nI x1)-1))/\(rf (L a))))/\∀ x1:Nat,let Z1:=(nI x1)-1;(x1<=nl a)->(ifB ((decide (Z1≥(0:Int)))) ((0<=Z1/\Z1<((L a).length:Int))/\((Z1.toNat<(L a).length)/\(∃ y2:Nat,(y2<=nl a)/\(y2<x1)/\((vI (wR ((wR ((nI (a/BB^x1))*(1000000000:Int)))+((((L a).getD (Z1.toNat) []).getD 0 (.int 0))).n))=vI (nI (a/BB^y2)))/\(vI (wR (Z1-(1:Int)))=vI ((nI y2)-1))/\(rf (L a)))))) ((vI (nI (a/BB^x1))=vI (nI a))/\(vB true=vB true)))))) Z2)) (by kernel_rfl) ?_
 conv=>zeta
 delta ifB vB vI wR nI
 have ha:=AV a
 have hlt:a<BB^2:=Gi hpre
 refine ⟨(L a),by
  rfl,by
  show (L a).length<=9223372036854775807
  omega,?_⟩
 refine And.symm ⟨λ c4=>?_,λ c4=>?_⟩
 ·try simp only [nrm] at c4
  exfalso
  rw [NW,decide_eq_true (by omega)] at c4
  cases c4 -- done
 try simp only [nrm] at c4
 refine ⟨(a,9223372036854775807),by
  rw [AEC];rfl,by
  show nl a<=1048576/\nl 9223372036854775807<=1048576
  exact ⟨by omega,Nat.le_trans ((Dp 3 _).2 (by decide)) (by decide)⟩,?_⟩
 refine ⟨λ c8=>?_,λ c8=>?_⟩
 ·try simp only [nrm] at c8
  exfalso
  have:=Hv.2 (show a<=9223372036854775807 from Nat.le_of_lt (Nat.lt_trans hlt (by decide)))
  omega -- done
 try simp only [nrm] at c8
 refine ⟨⟨nl a,by
  omega,?_⟩,?_⟩
 ·refine ⟨?_,?_,rfl⟩
  ·rw [Nat.div_eq_of_lt (DD a)];rfl
  rw [ha,AB (by omega) (by omega)]
 intro (j:Nat) hki11
 have hki11:j<=nl a:=hki11
 refine And.symm ⟨λ c16=>?_,λ c16=>?_⟩
 ·try simp only [nrm] at c16
  refine ⟨?_,rfl⟩
  rw [show j=0 by omega,Nat.pow_zero,Nat.div_one]
 try simp only [nrm] at c16
 have hj:((((j:Nat):Int)-1).toNat)=j-1:=by omega
 have hj1:j-1+1=j:=by omega
 have hd:=Bj a (j-1)
 rw [hj1] at hd
 have hr:a/BB^j<BB:=Nat.div_lt_of_lt_mul (Nat.lt_of_lt_of_le hlt (by rw [← Nat.pow_succ];exact Nat.pow_le_pow_right Dn (by omega)))
 refine ao (by omega) λ o17=>?_
 refine ao (by omega) λ o18=>?_
 refine ⟨j-1,by
  omega,by
  omega,?_⟩
 refine ⟨?_,?_,rfl⟩
 ·rw [hj,L_n,K4 hr (Bf _ _),← hd]
 rw [C4 (by omega) (by omega)]
def Gu:Con:={ ι:=Nat×Nat,pre:=λ i=>nl i.1<=1048576/\nl i.2<=1048576,args:=λ i=>[.one (cS (L i.1)),.one (cS (L i.2))],res:=λ i=>⟨false,[none],[.own 3 [.int] (L (i.1+i.2))]⟩ }
set_option maxHeartbeats 1600000 in
theorem W2:Gu.Ok Tryz.prog 196:=by
 refine fok (X:=⟨tt,[],[],55,[]⟩) mixed AI (CTok.nil _) Tryz.func196 (λ (i:Nat×Nat)=>[(4,.mk 4 (Nat) (λ x1=>{ tm:=[(0,tX 1),(1,tX 2),(5,tX 3),(6,tI (nI (A7 i.1 i.2 x1))),(7,tI (nI x1))],en:=[(1,eV (L i.1)),(2,eV (L i.2)),(3,.own 3 [.int] (AE (AP x1 (i.1+i.2))))] }) (λ x1=>x1<=max (nl i.1) (nl i.2)+1/\(x1=0∨BB^(x1-1)<=i.1+i.2)) (λ x1=>max (nl i.1) (nl i.2)+2-x1) (λ _=>[]))]) ?_
 rintro ⟨a,b⟩ hpre
 have hpre:nl a<=1048576/\nl b<=1048576:=hpre
 refine AH (q:=let Z26:=((L a).length:Int);let Z24:=List Dat;let Z19:=((L b).length:Int);let Z4:=(1000000000:Int)≠0;(∃ x1:Nat,(x1<=max (nl a) (nl b)+1/\(x1=0∨BB^(x1-1)<=a+b))/\((vI (0:Int)=vI (nI (A7 a b x1)))/\(vI (0:Int)=vI (nI x1))/\(rf (L a))/\(rf (L b))/\(([]:List Z24)=(AE (AP x1 (a+b))))))/\∀ x1:Nat,let Z27:=x1<(L a).length;let Z21:=x1<(L b).length;let Z16:=decide ((nI x1)<(nI ((L a).length)));let Z11:=nI (A7 a b x1);let Z28:=Int.tmod Z11 (1000000000:Int);let Z22:=wR (Int.tdiv Z11 (1000000000:Int));let Z9:=decide ((nI x1)<(nI ((L b).length)));let Z6:=wR ((nI x1)+(1:Int));let Z3:=AE (AP x1 (a+b));let Z14:=Z3++([[Dat.int Z28]]:List Z24);let Z7:=Z3.length+([[Dat.int Z28]]:List Z24).length<=2199023255552;let Z2:=(((L b).getD x1 []).getD 0 (.int 0));let Z17:=wR (Int.tdiv (wR (Z11+Z2.n)) (1000000000:Int));let Z5:=Int.tmod (wR (Z11+Z2.n)) (1000000000:Int);let Z20:=Z3++([[Dat.int Z5]]:List Z24);let Z13:=Z3.length+([[Dat.int Z5]]:List Z24).length<=2199023255552;let Z1:=wR (Z11+((((L a).getD x1 []).getD 0 (.int 0))).n);let Z29:=Int.tmod Z1 (1000000000:Int);let Z25:=Int.tmod (wR (Z1+Z2.n)) (1000000000:Int);let Z23:=wR (Int.tdiv Z1 (1000000000:Int));let Z18:=wR (Int.tdiv (wR (Z1+Z2.n)) (1000000000:Int));let Z15:=Z3++([[Dat.int Z29]]:List Z24);let Z12:=Z3++([[Dat.int Z25]]:List Z24);let Z10:=Z3.length+([[Dat.int Z29]]:List Z24).length<=2199023255552;let Z8:=Z3.length+([[Dat.int Z25]]:List Z24).length<=2199023255552;(x1<=max (nl a) (nl b)+1/\(x1=0∨BB^(x1-1)<=a+b))->(ifB ((!Z16)) (ifB ((!Z9)) (ifB ((decide (Z11>(0:Int)))) (ifB (Z16) ((0<=(nI x1)/\(nI x1)<Z26)/\(Z27/\(ifB (Z9) ((0<=(nI x1)/\(nI x1)<Z19)/\(Z21/\(Z4/\(Z8/\(Z4/\(∃ y2:Nat,(y2<=max (nl a) (nl b)+1/\(y2=0∨BB^(y2-1)<=a+b))/\(max (nl a) (nl b)+2-y2<max (nl a) (nl b)+2-x1)/\((vI Z18=vI (nI (A7 a b y2)))/\(vI Z6=vI (nI y2))/\(rf (L a))/\(rf (L b))/\(Z12=(AE (AP y2 (a+b))))))))))) (Z4/\(Z10/\(Z4/\(∃ y3:Nat,(y3<=max (nl a) (nl b)+1/\(y3=0∨BB^(y3-1)<=a+b))/\(max (nl a) (nl b)+2-y3<max (nl a) (nl b)+2-x1)/\((vI Z23=vI (nI (A7 a b y3)))/\(vI Z6=vI (nI y3))/\(rf (L a))/\(rf (L b))/\(Z15=(AE (AP y3 (a+b)))))))))))) (ifB (Z9) ((0<=(nI x1)/\(nI x1)<Z19)/\(Z21/\(Z4/\(Z13/\(Z4/\(∃ y4:Nat,(y4<=max (nl a) (nl b)+1/\(y4=0∨BB^(y4-1)<=a+b))/\(max (nl a) (nl b)+2-y4<max (nl a) (nl b)+2-x1)/\((vI Z17=vI (nI (A7 a b y4)))/\(vI Z6=vI (nI y4))/\(rf (L a))/\(rf (L b))/\(Z20=(AE (AP y4 (a+b))))))))))) (Z4/\(Z7/\(Z4/\(∃ y5:Nat,(y5<=max (nl a) (nl b)+1/\(y5=0∨BB^(y5-1)<=a+b))/\(max (nl a) (nl b)+2-y5<max (nl a) (nl b)+2-x1)/\((vI Z22=vI (nI (A7 a b y5)))/\(vI Z6=vI (nI y5))/\(rf (L a))/\(rf (L b))/\(Z14=(AE (AP y5 (a+b))))))))))) ((Z3=L (a+b)))) (ifB (Z16) ((0<=(nI x1)/\(nI x1)<Z26)/\(Z27/\(ifB (Z9) ((0<=(nI x1)/\(nI x1)<Z19)/\(Z21/\(Z4/\(Z8/\(Z4/\(∃ y6:Nat,(y6<=max (nl a) (nl b)+1/\(y6=0∨BB^(y6-1)<=a+b))/\(max (nl a) (nl b)+2-y6<max (nl a) (nl b)+2-x1)/\((vI Z18=vI (nI (A7 a b y6)))/\(vI Z6=vI (nI y6))/\(rf (L a))/\(rf (L b))/\(Z12=(AE (AP y6 (a+b))))))))))) (Z4/\(Z10/\(Z4/\(∃ y7:Nat,(y7<=max (nl a) (nl b)+1/\(y7=0∨BB^(y7-1)<=a+b))/\(max (nl a) (nl b)+2-y7<max (nl a) (nl b)+2-x1)/\((vI Z23=vI (nI (A7 a b y7)))/\(vI Z6=vI (nI y7))/\(rf (L a))/\(rf (L b))/\(Z15=(AE (AP y7 (a+b)))))))))))) (ifB (Z9) ((0<=(nI x1)/\(nI x1)<Z19)/\(Z21/\(Z4/\(Z13/\(Z4/\(∃ y8:Nat,(y8<=max (nl a) (nl b)+1/\(y8=0∨BB^(y8-1)<=a+b))/\(max (nl a) (nl b)+2-y8<max (nl a) (nl b)+2-x1)/\((vI Z17=vI (nI (A7 a b y8)))/\(vI Z6=vI (nI y8))/\(rf (L a))/\(rf (L b))/\(Z20=(AE (AP y8 (a+b))))))))))) (Z4/\(Z7/\(Z4/\(∃ y9:Nat,(y9<=max (nl a) (nl b)+1/\(y9=0∨BB^(y9-1)<=a+b))/\(max (nl a) (nl b)+2-y9<max (nl a) (nl b)+2-x1)/\((vI Z22=vI (nI (A7 a b y9)))/\(vI Z6=vI (nI y9))/\(rf (L a))/\(rf (L b))/\(Z14=(AE (AP y9 (a+b)))))))))))) (ifB (Z16) ((0<=(nI x1)/\(nI x1)<Z26)/\(Z27/\(ifB (Z9) ((0<=(nI x1)/\(nI x1)<Z19)/\(Z21/\(Z4/\(Z8/\(Z4/\(∃ y10:Nat,(y10<=max (nl a) (nl b)+1/\(y10=0∨BB^(y10-1)<=a+b))/\(max (nl a) (nl b)+2-y10<max (nl a) (nl b)+2-x1)/\((vI Z18=vI (nI (A7 a b y10)))/\(vI Z6=vI (nI y10))/\(rf (L a))/\(rf (L b))/\(Z12=(AE (AP y10 (a+b))))))))))) (Z4/\(Z10/\(Z4/\(∃ y11:Nat,(y11<=max (nl a) (nl b)+1/\(y11=0∨BB^(y11-1)<=a+b))/\(max (nl a) (nl b)+2-y11<max (nl a) (nl b)+2-x1)/\((vI Z23=vI (nI (A7 a b y11)))/\(vI Z6=vI (nI y11))/\(rf (L a))/\(rf (L b))/\(Z15=(AE (AP y11 (a+b)))))))))))) (ifB (Z9) ((0<=(nI x1)/\(nI x1)<Z19)/\(Z21/\(Z4/\(Z13/\(Z4/\(∃ y12:Nat,(y12<=max (nl a) (nl b)+1/\(y12=0∨BB^(y12-1)<=a+b))/\(max (nl a) (nl b)+2-y12<max (nl a) (nl b)+2-x1)/\((vI Z17=vI (nI (A7 a b y12)))/\(vI Z6=vI (nI y12))/\(rf (L a))/\(rf (L b))/\(Z20=(AE (AP y12 (a+b))))))))))) (Z4/\(Z7/\(Z4/\(∃ y13:Nat,(y13<=max (nl a) (nl b)+1/\(y13=0∨BB^(y13-1)<=a+b))/\(max (nl a) (nl b)+2-y13<max (nl a) (nl b)+2-x1)/\((vI Z22=vI (nI (A7 a b y13)))/\(vI Z6=vI (nI y13))/\(rf (L a))/\(rf (L b))/\(Z14=(AE (AP y13 (a+b))))))))))))) (by kernel_rfl) ?_
 conv=>zeta
 delta ifB vI wR nI
 have ha:=AV a
 have hb:=AV b
 refine ⟨⟨0,by
  exact ⟨Nat.zero_le _,.inl rfl⟩,?_⟩,?_⟩
 ·refine ⟨?_,?_,rfl,rfl,?_⟩
  ·rw [PF];rfl
  ·rfl
  rfl
 intro (i:Nat) hki1
 have hki1:i<=max (nl a) (nl b)+1/\(i=0∨BB^(i-1)<=a+b):=hki1
 have da:=Lo a i
 have db:=Lo b i
 have hc:=CB a b i
 have za:nl a<=i->dgt a i=0:=λ h=>GC (Gi h)
 have zb:nl b<=i->dgt b i=0:=λ h=>GC (Gi h)
 have n1:IntKind.i64.wrap (IntKind.i64.wrap (((A7 a b i:Nat):Int)+((((L a).getD i []).getD 0 (.int 0))).n)+((((L b).getD i []).getD 0 (.int 0))).n)=((dgt a i+dgt b i+A7 a b i:Nat):Int):=by rw [L_n,L_n,AB (x:=((A7 a b i:Nat):Int)+_) (by omega) (by omega),AB (by omega) (by omega)];omega
 have n2:nl b<=i->IntKind.i64.wrap (((A7 a b i:Nat):Int)+((((L a).getD i []).getD 0 (.int 0))).n)=((dgt a i+dgt b i+A7 a b i:Nat):Int):=λ h=>by rw [L_n,zb h,AB (by omega) (by omega)];omega
 have n3:nl a<=i->IntKind.i64.wrap (((A7 a b i:Nat):Int)+((((L b).getD i []).getD 0 (.int 0))).n)=((dgt a i+dgt b i+A7 a b i:Nat):Int):=λ h=>by rw [L_n,za h,AB (by omega) (by omega)];omega
 have n4:nl a<=i->nl b<=i->((A7 a b i:Nat):Int)=((dgt a i+dgt b i+A7 a b i:Nat):Int):=λ h h2=>by rw [za h,zb h2];omega
 have h1:=VO a b i
 have hl:(AE (AP i (a+b))).length=i:=by rw [BJ,Ad]
 refine And.symm ⟨λ c8=>?_,λ c8=>?_⟩
 ·try simp only [nrm] at c8
  refine And.symm ⟨λ c118=>?_,λ c118=>?_⟩
  ·try simp only [nrm] at c118
   refine And.symm ⟨λ c146=>?_,λ c146=>?_⟩
   ·try simp only [nrm] at c146
    refine ao (by omega) λ o160=>?_
    refine ao (by omega) λ o161=>?_
    refine ao (by omega) λ o162=>?_
    refine ⟨i+1,by
     have hz:i<nl a∨i<nl b∨0<A7 a b i:=by omega
     exact ⟨by (rcases hz with h|h|h) <;> first|omega|(have:=Bs h;omega),.inr (A1 hz)⟩,by
     omega,?_⟩
    refine ⟨?_,?_,rfl,rfl,?_⟩
    ·rw [n4 (by omega) (by omega),Dg,h1.2,Bo (by have:=CB a b (i+1);omega)]
    ·exact Aa (AB (by omega) (by omega))
    rw [n4 (by omega) (by omega),Dz,h1.1,Ah,← Av]
   try simp only [nrm] at c146
   refine ao (by omega) λ o147=>?_
   refine ao (by omega) λ o148=>?_
   refine ao (by omega) λ o149=>?_
   refine ao (by omega) λ o150=>?_
   refine ao (by omega) λ o151=>?_
   refine ⟨i+1,by
    have hz:i<nl a∨i<nl b∨0<A7 a b i:=by omega
    exact ⟨by (rcases hz with h|h|h) <;> first|omega|(have:=Bs h;omega),.inr (A1 hz)⟩,by
    omega,?_⟩
   refine ⟨?_,?_,rfl,rfl,?_⟩
   ·rw [n3 (by omega),Dg,h1.2,Bo (by have:=CB a b (i+1);omega)]
   ·exact Aa (AB (by omega) (by omega))
   rw [n3 (by omega),Dz,h1.1,Ah,← Av]
  try simp only [nrm] at c118
  refine ao (by omega) λ o119=>?_
  refine ao (by omega) λ o120=>?_
  refine And.symm ⟨λ c121=>?_,λ c121=>?_⟩
  ·try simp only [nrm] at c121
   refine ao (by omega) λ o135=>?_
   refine ao (by simp only [hl,List.length_cons,List.length_nil];omega) λ o136=>?_
   refine ao (by omega) λ o137=>?_
   refine ⟨i+1,by
    have hz:i<nl a∨i<nl b∨0<A7 a b i:=by omega
    exact ⟨by (rcases hz with h|h|h) <;> first|omega|(have:=Bs h;omega),.inr (A1 hz)⟩,by
    omega,?_⟩
   refine ⟨?_,?_,rfl,rfl,?_⟩
   ·rw [n2 (by omega),Dg,h1.2,Bo (by have:=CB a b (i+1);omega)]
   ·exact Aa (AB (by omega) (by omega))
   rw [n2 (by omega),Dz,h1.1,Ah,← Av]
  try simp only [nrm] at c121
  refine ao (by omega) λ o122=>?_
  refine ao (by omega) λ o123=>?_
  refine ao (by omega) λ o124=>?_
  refine ao (by simp only [hl,List.length_cons,List.length_nil];omega) λ o125=>?_
  refine ao (by omega) λ o126=>?_
  refine ⟨i+1,by
   have hz:i<nl a∨i<nl b∨0<A7 a b i:=by omega
   exact ⟨by (rcases hz with h|h|h) <;> first|omega|(have:=Bs h;omega),.inr (A1 hz)⟩,by
   omega,?_⟩
  refine ⟨?_,?_,rfl,rfl,?_⟩
  ·rw [n1,Dg,h1.2,Bo (by have:=CB a b (i+1);omega)]
  ·exact Aa (AB (by omega) (by omega))
  rw [n1,Dz,h1.1,Ah,← Av]
 try simp only [nrm] at c8
 refine And.symm ⟨λ c9=>?_,λ c9=>?_⟩
 ·try simp only [nrm] at c9
  refine And.symm ⟨λ c65=>?_,λ c65=>?_⟩
  ·try simp only [nrm] at c65
   refine And.symm ⟨λ c93=>?_,λ c93=>?_⟩
   ·try simp only [nrm] at c93
    refine ao (by omega) λ o107=>?_
    refine ao (by omega) λ o108=>?_
    refine ao (by omega) λ o109=>?_
    refine ⟨i+1,by
     have hz:i<nl a∨i<nl b∨0<A7 a b i:=by omega
     exact ⟨by (rcases hz with h|h|h) <;> first|omega|(have:=Bs h;omega),.inr (A1 hz)⟩,by
     omega,?_⟩
    refine ⟨?_,?_,rfl,rfl,?_⟩
    ·rw [n4 (by omega) (by omega),Dg,h1.2,Bo (by have:=CB a b (i+1);omega)]
    ·exact Aa (AB (by omega) (by omega))
    rw [n4 (by omega) (by omega),Dz,h1.1,Ah,← Av]
   try simp only [nrm] at c93
   refine ao (by omega) λ o94=>?_
   refine ao (by omega) λ o95=>?_
   refine ao (by omega) λ o96=>?_
   refine ao (by simp only [hl,List.length_cons,List.length_nil];omega) λ o97=>?_
   refine ao (by omega) λ o98=>?_
   refine ⟨i+1,by
    have hz:i<nl a∨i<nl b∨0<A7 a b i:=by omega
    exact ⟨by (rcases hz with h|h|h) <;> first|omega|(have:=Bs h;omega),.inr (A1 hz)⟩,by
    omega,?_⟩
   refine ⟨?_,?_,rfl,rfl,?_⟩
   ·rw [n3 (by omega),Dg,h1.2,Bo (by have:=CB a b (i+1);omega)]
   ·exact Aa (AB (by omega) (by omega))
   rw [n3 (by omega),Dz,h1.1,Ah,← Av]
  try simp only [nrm] at c65
  refine ao (by omega) λ o66=>?_
  refine ao (by omega) λ o67=>?_
  refine And.symm ⟨λ c68=>?_,λ c68=>?_⟩
  ·try simp only [nrm] at c68
   refine ao (by omega) λ o82=>?_
   refine ao (by omega) λ o83=>?_
   refine ao (by omega) λ o84=>?_
   refine ⟨i+1,by
    have hz:i<nl a∨i<nl b∨0<A7 a b i:=by omega
    exact ⟨by (rcases hz with h|h|h) <;> first|omega|(have:=Bs h;omega),.inr (A1 hz)⟩,by
    omega,?_⟩
   refine ⟨?_,?_,rfl,rfl,?_⟩
   ·rw [n2 (by omega),Dg,h1.2,Bo (by have:=CB a b (i+1);omega)]
   ·exact Aa (AB (by omega) (by omega))
   rw [n2 (by omega),Dz,h1.1,Ah,← Av]
  try simp only [nrm] at c68
  refine ao (by omega) λ o69=>?_
  refine ao (by omega) λ o70=>?_
  refine ao (by omega) λ o71=>?_
  refine ao (by omega) λ o72=>?_
  refine ao (by omega) λ o73=>?_
  refine ⟨i+1,by
   have hz:i<nl a∨i<nl b∨0<A7 a b i:=by omega
   exact ⟨by (rcases hz with h|h|h) <;> first|omega|(have:=Bs h;omega),.inr (A1 hz)⟩,by
   omega,?_⟩
  refine ⟨?_,?_,rfl,rfl,?_⟩
  ·rw [n1,Dg,h1.2,Bo (by have:=CB a b (i+1);omega)]
  ·exact Aa (AB (by omega) (by omega))
  rw [n1,Dz,h1.1,Ah,← Av]
 try simp only [nrm] at c9
 refine And.symm ⟨λ c10=>?_,λ c10=>?_⟩
 ·try simp only [nrm] at c10
  exact Va (by omega) (by omega) (by omega) hki1.2
 try simp only [nrm] at c10
 refine And.symm ⟨λ c11=>?_,λ c11=>?_⟩
 ·try simp only [nrm] at c11
  refine And.symm ⟨λ c39=>?_,λ c39=>?_⟩
  ·try simp only [nrm] at c39
   refine ao (by omega) λ o53=>?_
   refine ao (by simp only [hl,List.length_cons,List.length_nil];omega) λ o54=>?_
   refine ao (by omega) λ o55=>?_
   refine ⟨i+1,by
    have hz:i<nl a∨i<nl b∨0<A7 a b i:=by omega
    exact ⟨by (rcases hz with h|h|h) <;> first|omega|(have:=Bs h;omega),.inr (A1 hz)⟩,by
    omega,?_⟩
   refine ⟨?_,?_,rfl,rfl,?_⟩
   ·rw [n4 (by omega) (by omega),Dg,h1.2,Bo (by have:=CB a b (i+1);omega)]
   ·exact Aa (AB (by omega) (by omega))
   rw [n4 (by omega) (by omega),Dz,h1.1,Ah,← Av]
  try simp only [nrm] at c39
  refine ao (by omega) λ o40=>?_
  refine ao (by omega) λ o41=>?_
  refine ao (by omega) λ o42=>?_
  refine ao (by omega) λ o43=>?_
  refine ao (by omega) λ o44=>?_
  refine ⟨i+1,by
   have hz:i<nl a∨i<nl b∨0<A7 a b i:=by omega
   exact ⟨by (rcases hz with h|h|h) <;> first|omega|(have:=Bs h;omega),.inr (A1 hz)⟩,by
   omega,?_⟩
  refine ⟨?_,?_,rfl,rfl,?_⟩
  ·rw [n3 (by omega),Dg,h1.2,Bo (by have:=CB a b (i+1);omega)]
  ·exact Aa (AB (by omega) (by omega))
  rw [n3 (by omega),Dz,h1.1,Ah,← Av]
 try simp only [nrm] at c11
 refine ao (by omega) λ o12=>?_
 refine ao (by omega) λ o13=>?_
 refine And.symm ⟨λ c14=>?_,λ c14=>?_⟩
 ·try simp only [nrm] at c14
  refine ao (by omega) λ o28=>?_
  refine ao (by omega) λ o29=>?_
  refine ao (by omega) λ o30=>?_
  refine ⟨i+1,by
   have hz:i<nl a∨i<nl b∨0<A7 a b i:=by omega
   exact ⟨by (rcases hz with h|h|h) <;> first|omega|(have:=Bs h;omega),.inr (A1 hz)⟩,by
   omega,?_⟩
  refine ⟨?_,?_,rfl,rfl,?_⟩
  ·rw [n2 (by omega),Dg,h1.2,Bo (by have:=CB a b (i+1);omega)]
  ·exact Aa (AB (by omega) (by omega))
  rw [n2 (by omega),Dz,h1.1,Ah,← Av]
 try simp only [nrm] at c14
 refine ao (by omega) λ o15=>?_
 refine ao (by omega) λ o16=>?_
 refine ao (by omega) λ o17=>?_
 refine ao (by omega) λ o18=>?_
 refine ao (by omega) λ o19=>?_
 refine ⟨i+1,by
  have hz:i<nl a∨i<nl b∨0<A7 a b i:=by omega
  exact ⟨by (rcases hz with h|h|h) <;> first|omega|(have:=Bs h;omega),.inr (A1 hz)⟩,by
  omega,?_⟩
 refine ⟨?_,?_,rfl,rfl,?_⟩
 ·rw [n1,Dg,h1.2,Bo (by have:=CB a b (i+1);omega)]
 ·exact Aa (AB (by omega) (by omega))
 rw [n1,Dz,h1.1,Ah,← Av]
def CI:Con:={ ι:=Nat×Nat,pre:=λ i=>nl i.1<=1048576/\nl i.2<=1048576/\i.2<=i.1,args:=λ i=>[.one (cS (L i.1)),.one (cS (L i.2))],res:=λ i=>⟨false,[none],[.view 3 [.int] (L (i.1-i.2))]⟩ }
theorem PS:CI.Ok Tryz.prog 198:=by
 refine fok (X:=⟨tt,[(199,AY)],[],42,[]⟩) mixed AI (CTok.cons EC (CTok.nil _)) Tryz.func198 (λ (i:Nat×Nat)=>[(4,.mk 4 (Nat) (λ x1=>{ tm:=[(0,tX 1),(1,tX 2),(11,tI (nI ((L i.1).length))),(12,tI (nI x1)),(5,tX 3),(6,tI (nI (brw i.1 i.2 x1)))],en:=[(1,eV (L i.1)),(2,eV (L i.2)),(3,.own 3 [.int] (AE (AP x1 (i.1-i.2))))] }) (λ x1=>x1<=nl i.1) (λ x1=>nl i.1-x1) (λ _=>[]))]) ?_
 rintro ⟨a,b⟩ hpre
 have hpre:nl a<=1048576/\nl b<=1048576/\b<=a:=hpre
 refine AH (q:=let Z6:=List Dat;let Z4:=vI (nI ((L a).length));(∃ x1:Nat,(x1<=nl a)/\((rf Z4)/\(vI (0:Int)=vI (nI x1))/\(vI (0:Int)=vI (nI (brw a b x1)))/\(rf (L a))/\(rf (L b))/\(([]:List Z6)=(AE (AP x1 (a-b))))))/\∀ x1:Nat,let Z5:=wR ((nI x1)+(1:Int));let Z3:=AE (AP x1 (a-b));let Z1:=wR (((((L a).getD x1 []).getD 0 (.int 0))).n-(nI (brw a b x1)));let Z8:=wR (Z1+(1000000000:Int));let Z2:=wR (Z1-((((L b).getD x1 []).getD 0 (.int 0))).n);let Z7:=wR (Z2+(1000000000:Int));(x1<=nl a)->(ifB ((decide ((nI x1)<(nI ((L a).length))))) ((0<=(nI x1)/\(nI x1)<((L a).length:Int))/\((x1<(L a).length)/\(ifB ((decide ((nI x1)<(nI ((L b).length))))) ((0<=(nI x1)/\(nI x1)<((L b).length:Int))/\((x1<(L b).length)/\(ifB ((decide (Z2<(0:Int)))) ((Z3.length+([[Dat.int Z7]]:List Z6).length<=2199023255552)/\(∃ y2:Nat,(y2<=nl a)/\(nl a-y2<nl a-x1)/\((rf Z4)/\(vI Z5=vI (nI y2))/\(vI (1:Int)=vI (nI (brw a b y2)))/\(rf (L a))/\(rf (L b))/\((Z3++([[Dat.int Z7]]:List Z6))=(AE (AP y2 (a-b))))))) ((Z3.length+([[Dat.int Z2]]:List Z6).length<=2199023255552)/\(∃ y3:Nat,(y3<=nl a)/\(nl a-y3<nl a-x1)/\((rf Z4)/\(vI Z5=vI (nI y3))/\(vI (0:Int)=vI (nI (brw a b y3)))/\(rf (L a))/\(rf (L b))/\((Z3++([[Dat.int Z2]]:List Z6))=(AE (AP y3 (a-b)))))))))) (ifB ((decide (Z1<(0:Int)))) ((Z3.length+([[Dat.int Z8]]:List Z6).length<=2199023255552)/\(∃ y4:Nat,(y4<=nl a)/\(nl a-y4<nl a-x1)/\((rf Z4)/\(vI Z5=vI (nI y4))/\(vI (1:Int)=vI (nI (brw a b y4)))/\(rf (L a))/\(rf (L b))/\((Z3++([[Dat.int Z8]]:List Z6))=(AE (AP y4 (a-b))))))) ((Z3.length+([[Dat.int Z1]]:List Z6).length<=2199023255552)/\(∃ y5:Nat,(y5<=nl a)/\(nl a-y5<nl a-x1)/\((rf Z4)/\(vI Z5=vI (nI y5))/\(vI (0:Int)=vI (nI (brw a b y5)))/\(rf (L a))/\(rf (L b))/\((Z3++([[Dat.int Z1]]:List Z6))=(AE (AP y5 (a-b))))))))))) (∃ i1:(List Nat)×Nat,[DA.one (cS Z3)]=AY.args i1/\AY.pre i1/\((L i1.2=L (a-b)))))) (by kernel_rfl) ?_
 conv=>zeta
 delta ifB vI wR nI
 have ha:=AV a
 have hb:=AV b
 refine ⟨⟨0,by
  omega,?_⟩,?_⟩
 ·refine ⟨rfl,?_,?_,rfl,rfl,?_⟩
  ·rfl
  ·rw [R3];rfl
  rfl
 intro (i:Nat) hki1
 have hki1:i<=nl a:=hki1
 have da:=Lo a i
 have db:=Lo b i
 have hc:=QJ a b i
 have h1:=VQ hpre.2.2 i
 have zb:nl b<=i->dgt b i=0:=λ h=>GC (Gi h)
 have n1:IntKind.i64.wrap (IntKind.i64.wrap (((((L a).getD i []).getD 0 (.int 0))).n-((brw a b i:Nat):Int))-((((L b).getD i []).getD 0 (.int 0))).n)=(dgt a i:Int)-dgt b i-brw a b i:=by rw [L_n,L_n,AB (x:=(dgt a i:Int)-_) (by omega) (by omega),AB (by omega) (by omega)];omega
 have n2:nl b<=i->IntKind.i64.wrap (((((L a).getD i []).getD 0 (.int 0))).n-((brw a b i:Nat):Int))=(dgt a i:Int)-dgt b i-brw a b i:=λ h=>by rw [L_n,zb h,AB (by omega) (by omega)];omega
 have hl:(AE (AP i (a-b))).length=i:=by rw [BJ,Ad]
 refine And.symm ⟨λ c9=>?_,λ c9=>?_⟩
 ·try simp only [nrm] at c9
  refine ⟨(AP i (a-b),a-b),by
   rfl,by
   exact ⟨by rw [Ad];omega,Fe _ _,by rw [D4,Hw (by have:=C2 (Nat.sub_le a b);omega)]⟩,?_⟩
  exact rfl
 try simp only [nrm] at c9
 refine ao (by omega) λ o10=>?_
 refine ao (by omega) λ o11=>?_
 refine And.symm ⟨λ c12=>?_,λ c12=>?_⟩
 ·try simp only [nrm] at c12
  refine And.symm ⟨λ c36=>?_,λ c36=>?_⟩
  ·try simp only [nrm] at c36
   rw [n2 (by omega)] at c36
   have hq:=h1.2 c36
   refine ao (by simp only [hl,List.length_cons,List.length_nil];omega) λ o47=>?_
   refine ⟨i+1,by
    omega,by
    omega,?_⟩
   refine ⟨rfl,?_,?_,rfl,rfl,?_⟩
   ·exact Aa (AB (by omega) (by omega))
   ·rw [hq.2];rfl
   rw [n2 (by omega),hq.1,Ah,← Av]
  try simp only [nrm] at c36
  rw [n2 (by omega)] at c36
  have hq:=h1.1 c36
  have hw:IntKind.i64.wrap ((dgt a i:Int)-dgt b i-brw a b i+(1000000000:Int))=(dgt a i:Int)-dgt b i-brw a b i+1000000000:=by rw [AB (by omega) (by omega)]
  refine ao (by simp only [hl,List.length_cons,List.length_nil];omega) λ o37=>?_
  refine ⟨i+1,by
   omega,by
   omega,?_⟩
  refine ⟨rfl,?_,?_,rfl,rfl,?_⟩
  ·exact Aa (AB (by omega) (by omega))
  ·rw [hq.2];rfl
  rw [n2 (by omega),hw,hq.1,Ah,← Av]
 try simp only [nrm] at c12
 refine ao (by omega) λ o13=>?_
 refine ao (by omega) λ o14=>?_
 refine And.symm ⟨λ c15=>?_,λ c15=>?_⟩
 ·try dsimp only at c15
  try simp only [nrm] at c15
  rw [n1] at c15
  have hq:=h1.2 c15
  refine ao (by simp only [hl,List.length_cons,List.length_nil];omega) λ o26=>?_
  refine ⟨i+1,by
   omega,by
   omega,?_⟩
  refine ⟨rfl,?_,?_,rfl,rfl,?_⟩
  ·exact Aa (AB (by omega) (by omega))
  ·rw [hq.2];rfl
  rw [n1,hq.1,Ah,← Av]
 try dsimp only at c15
 try simp only [nrm] at c15
 rw [n1] at c15
 have hq:=h1.1 c15
 have hw:IntKind.i64.wrap ((dgt a i:Int)-dgt b i-brw a b i+(1000000000:Int))=(dgt a i:Int)-dgt b i-brw a b i+1000000000:=by rw [AB (by omega) (by omega)]
 refine ao (by simp only [hl,List.length_cons,List.length_nil];omega) λ o16=>?_
 refine ⟨i+1,by
  omega,by
  omega,?_⟩
 refine ⟨rfl,?_,?_,rfl,rfl,?_⟩
 ·exact Aa (AB (by omega) (by omega))
 ·rw [hq.2];rfl
 rw [n1,hw,hq.1,Ah,← Av]
def Ar:Con:={ ι:=Nat×Nat,pre:=λ i=>nl i.1<=524288/\nl i.2<=524288,args:=λ i=>[.one (cS (L i.1)),.one (cS (L i.2))],res:=λ i=>⟨false,[none],[.view 3 [.int] (L (i.1*i.2))]⟩ }
theorem K7:Ar.Ok Tryz.prog 171:=by
 refine fok (X:=⟨tt,[(199,AY)],[],72,[]⟩) mixed AI (CTok.cons EC (CTok.nil _)) Tryz.func171 (λ (i:Nat×Nat)=>[(5,.mk 4 (Nat) (λ x1=>{ tm:=[(0,tX 1),(1,tX 2),(26,tX 1),(27,tI (nI ((L i.1).length))),(28,tI (nI x1)),(5,tX 3)],en:=[(1,eV (L i.1)),(2,eV (L i.2)),(3,.own 3 [.int] (AE (AP (nl i.1+nl i.2) (i.1%BB^x1*i.2))))] }) (λ x1=>x1<=nl i.1) (λ x1=>nl i.1-x1) (λ x1=>[(9,.mk 4 (Nat×Nat×Nat) (λ x2=>{ tm:=[(0,tX 1),(1,tX 2),(26,tX 1),(27,tI (nI ((L i.1).length))),(28,tI (nI x1)),(33,tX 2),(34,tI (nI ((L i.2).length))),(6,tI (nI x1)),(7,tI (((((L i.1).getD x1 []).getD 0 (.int 0))).n)),(5,tX 3),(8,tI (nI x2.2.2)),(35,tI (nI x2.1))],en:=[(1,eV (L i.1)),(2,eV (L i.2)),(3,.own 3 [.int] (AE (AP (nl i.1+nl i.2) x2.2.1)))] }) (λ x2=>x2.2.1+x2.2.2*BB^(x1+x2.1)=i.1%BB^x1*i.2+dgt i.1 x1*BB^x1*(i.2%BB^x2.1)/\x2.2.2<BB/\x2.1<=nl i.2/\x2.2.1<BB^(x1+nl i.2)) (λ x2=>nl i.2-x2.1) (λ _=>[]))]))]) ?_
 rintro ⟨a,b⟩ hpre
 have hpre:nl a<=524288/\nl b<=524288:=hpre
 refine AH (q:=let Z14:=(1000000000:Int)≠0;let Z11:=(([]:List (List Dat))=L (a*b));let Z8:=nl a+nl b;let Z5:=nI ((L a).length);let Z3:=nI ((L b).length);let Z9:=wR (Z5+Z3);ifB ((!(Z5 == (0:Int)))) (ifB ((Z3 == (0:Int))) Z11 ((0<=Z9)/\((Z9<=Z9)/\((Z9<=1073741824)/\((∃ x1:Nat,(x1<=nl a)/\((rf (vI Z5))/\(vI (0:Int)=vI (nI x1))/\(rf (L a))/\(rf (L b))/\((List.replicate (Z9.toNat) [Dat.int (0:Int)])=(AE (AP Z8 (a%BB^x1*b))))))/\∀ x1:Nat,let Z13:=vI (nI x1);let Z10:=AE (AP Z8 (a%BB^x1*b));let Z7:=wR ((nI x1)+Z3);let Z6:=(((L a).getD x1 []).getD 0 (.int 0));(x1<=nl a)->(ifB ((decide ((nI x1)<Z5))) ((0<=(nI x1)/\(nI x1)<((L a).length:Int))/\((x1<(L a).length)/\((∃ x2:Nat×Nat×Nat,(x2.2.1+x2.2.2*BB^(x1+x2.1)=a%BB^x1*b+dgt a x1*BB^x1*(b%BB^x2.1)/\x2.2.2<BB/\x2.1<=nl b/\x2.2.1<BB^(x1+nl b))/\((rf (vI Z5))/\(rf Z13)/\(rf (vI Z3))/\(rf Z13)/\(rf (vI Z6.n))/\(vI (0:Int)=vI (nI x2.2.2))/\(vI (0:Int)=vI (nI x2.1))/\(rf (L a))/\(rf (L b))/\(Z10=(AE (AP Z8 x2.2.1)))))/\∀ x2:Nat×Nat×Nat,let Z2:=wR ((nI x1)+(nI x2.1));let Z1:=AE (AP Z8 x2.2.1);let Z12:=(Z1.length:Int);let Z4:=wR ((wR ((((Z1.getD (Z2.toNat) []).getD 0 (.int 0))).n+(wR (Z6.n*((((L b).getD x2.1 []).getD 0 (.int 0))).n))))+(nI x2.2.2));(x2.2.1+x2.2.2*BB^(x1+x2.1)=a%BB^x1*b+dgt a x1*BB^x1*(b%BB^x2.1)/\x2.2.2<BB/\x2.1<=nl b/\x2.2.1<BB^(x1+nl b))->(ifB ((decide ((nI x2.1)<Z3))) ((0<=(nI x2.1)/\(nI x2.1)<((L b).length:Int))/\((x2.1<(L b).length)/\((0<=Z2/\Z2<Z12)/\((Z2.toNat<Z1.length)/\(Z14/\((0<=Z2/\Z2<Z12)/\((Z2.toNat<Z1.length)/\(Z14/\(∃ y3:Nat×Nat×Nat,(y3.2.1+y3.2.2*BB^(x1+y3.1)=a%BB^x1*b+dgt a x1*BB^x1*(b%BB^y3.1)/\y3.2.2<BB/\y3.1<=nl b/\y3.2.1<BB^(x1+nl b))/\(nl b-y3.1<nl b-x2.1)/\((rf (vI Z5))/\(rf Z13)/\(rf (vI Z3))/\(rf Z13)/\(rf (vI Z6.n))/\(vI (wR (Int.tdiv Z4 (1000000000:Int)))=vI (nI y3.2.2))/\(vI (wR ((nI x2.1)+(1:Int)))=vI (nI y3.1))/\(rf (L a))/\(rf (L b))/\((Z1.set (Z2.toNat) ((Z1.getD (Z2.toNat) []).set 0 (Dat.int (Int.tmod Z4 (1000000000:Int)))))=(AE (AP Z8 y3.2.1))))))))))))) ((0<=Z7/\Z7<Z12)/\((Z7.toNat<Z1.length)/\(∃ y4:Nat,(y4<=nl a)/\(nl a-y4<nl a-x1)/\((rf (vI Z5))/\(vI (wR ((nI x1)+(1:Int)))=vI (nI y4))/\(rf (L a))/\(rf (L b))/\((Z1.set (Z7.toNat) ((Z1.getD (Z7.toNat) []).set 0 (Dat.int (nI x2.2.2))))=(AE (AP Z8 (a%BB^y4*b)))))))))))) (∃ i1:(List Nat)×Nat,[DA.one (cS Z10)]=AY.args i1/\AY.pre i1/\((L i1.2=L (a*b)))))))))) Z11) (by kernel_rfl) ?_
 conv=>zeta
 delta ifB vI wR nI
 have ha:=AV a
 have hb:=AV b
 have hw0:IntKind.i64.wrap ((((L a).length:Nat):Int)+(((L b).length:Nat):Int))=((nl a+nl b:Nat):Int):=by rw [ha,hb,AB (by omega) (by omega)];omega
 refine And.symm ⟨λ c1=>?_,λ c1=>?_⟩
 ·try simp only [nrm] at c1
  rw [Hz (n:=a) (by omega),Nat.zero_mul,D5]
 try simp only [nrm] at c1
 refine ⟨λ c2=>?_,λ c2=>?_⟩
 ·try simp only [nrm] at c2
  rw [Hz (n:=b) (by omega),Nat.mul_zero,D5]
 try simp only [nrm] at c2
 refine ao (by omega) λ o4=>?_
 refine ao (by omega) λ o5=>?_
 refine ao (by omega) λ o6=>?_
 refine ⟨⟨0,by
  omega,?_⟩,?_⟩
 ·refine ⟨rfl,?_,rfl,rfl,?_⟩
  ·rfl
  rw [hw0,Int.toNat_natCast,Nat.pow_zero,Nat.mod_one,Nat.zero_mul,Kw,← Ed]
 intro (i:Nat) hki7
 have hki7:i<=nl a:=hki7
 refine And.symm ⟨λ c14=>?_,λ c14=>?_⟩
 ·try simp only [nrm] at c14
  refine ⟨(AP (nl a+nl b) (a%BB^i*b),a*b),by
   rfl,by
   exact ⟨by rw [Ad];omega,Fe _ _,by rw [Hw (a:=a) (i:=i) (by omega),D4,Hw (Br _ _)]⟩,?_⟩
  exact rfl
 try simp only [nrm] at c14
 refine ao (by omega) λ o15=>?_
 refine ao (by omega) λ o16=>?_
 refine ⟨⟨(0,a%BB^i*b,0),by
  exact ⟨by simp [Nat.mod_one],Dn,Nat.zero_le _,UL⟩,?_⟩,?_⟩
 ·refine ⟨rfl,rfl,rfl,rfl,rfl,?_,?_,rfl,rfl,rfl⟩
  ·rfl
  rfl
 rintro ⟨k,V,c⟩ hki17
 have hki17:V+c*BB^(i+k)=a%BB^i*b+dgt a i*BB^i*(b%BB^k)/\c<BB/\k<=nl b/\V<BB^(i+nl b):=hki17
 have hlv:(AE (AP (nl a+nl b) V)).length=nl a+nl b:=by rw [BJ,Ad]
 refine And.symm ⟨λ c29=>?_,λ c29=>?_⟩
 ·try simp only [nrm] at c29
  have hw' : IntKind.i64.wrap (((i:Nat):Int)+(((L b).length:Nat):Int))=((i+nl b:Nat):Int):=by rw [hb,AB (by omega) (by omega)];omega
  have e:=hki17.1
  rw [show k=nl b by omega,Hw (a:=b) (Nat.le_refl _),UA] at e
  refine ao (a:=0<=(IntKind.i64.wrap (((i:Nat):Int)+(((L b).length:Nat):Int)))/\(IntKind.i64.wrap (((i:Nat):Int)+(((L b).length:Nat):Int)))<((AE (AP (nl a+nl b) V)).length:Int)) (by omega) λ o51=>?_
  refine ao (a:=(IntKind.i64.wrap (((i:Nat):Int)+(((L b).length:Nat):Int))).toNat<(AE (AP (nl a+nl b) V)).length) (by omega) λ o52=>?_
  refine ⟨i+1,by
   omega,by
   omega,?_⟩
  refine ⟨rfl,?_,rfl,rfl,?_⟩
  ·exact Aa (AB (by omega) (by omega))
  rw [hw',Int.toNat_natCast,Kz (by rw [Ad];omega),NT (by omega) hki17.2.1,GC hki17.2.2.2,Nat.zero_mul,Nat.sub_zero,e]
 try simp only [nrm] at c29
 have hik:i+k<nl a+nl b:=by omega
 have hw:IntKind.i64.wrap (((i:Nat):Int)+((k:Nat):Int))=((i+k:Nat):Int):=by rw [AB (by omega) (by omega)];omega
 have hm:=K3 (Bf a i) (Bf b k) (Bf V (i+k)) hki17.2.1
 have hn:IntKind.i64.wrap (IntKind.i64.wrap (((((AE (AP (nl a+nl b) V)).getD ((IntKind.i64.wrap (((i:Nat):Int)+((k:Nat):Int))).toNat) []).getD 0 (.int 0))).n+(IntKind.i64.wrap (((((L a).getD i []).getD 0 (.int 0))).n*((((L b).getD k []).getD 0 (.int 0))).n)))+((c:Nat):Int))=((dgt V (i+k)+dgt a i*dgt b k+c:Nat):Int):=by
  rw [hw,Int.toNat_natCast,QP hik,L_n,L_n,← Int.natCast_mul,Bo (by omega),← Int.natCast_add,Bo (by omega),← Int.natCast_add,Bo (by omega)]
 have hst:=QK hki17.1
 refine ao (a:=0<=((k:Nat):Int)/\((k:Nat):Int)<((L b).length:Int)) (by omega) λ o30=>?_
 refine ao (a:=k<(L b).length) (by omega) λ o31=>?_
 refine ao (a:=0<=(IntKind.i64.wrap (((i:Nat):Int)+((k:Nat):Int)))/\(IntKind.i64.wrap (((i:Nat):Int)+((k:Nat):Int)))<((AE (AP (nl a+nl b) V)).length:Int)) (by omega) λ o32=>?_
 refine ao (a:=(IntKind.i64.wrap (((i:Nat):Int)+((k:Nat):Int))).toNat<(AE (AP (nl a+nl b) V)).length) (by omega) λ o33=>?_
 refine ao (by omega) λ o34=>?_
 refine ao (a:=0<=(IntKind.i64.wrap (((i:Nat):Int)+((k:Nat):Int)))/\(IntKind.i64.wrap (((i:Nat):Int)+((k:Nat):Int)))<((AE (AP (nl a+nl b) V)).length:Int)) (by omega) λ o35=>?_
 refine ao (a:=(IntKind.i64.wrap (((i:Nat):Int)+((k:Nat):Int))).toNat<(AE (AP (nl a+nl b) V)).length) (by omega) λ o36=>?_
 refine ao (by omega) λ o37=>?_
 refine ⟨(k+1,V-dgt V (i+k)*BB^(i+k)+(dgt V (i+k)+dgt a i*dgt b k+c)%BB*BB^(i+k),(dgt V (i+k)+dgt a i*dgt b k+c)/BB),by
  exact ⟨hst,hm.1,by omega,ACh (by omega) hki17.2.2.2 (Nat.mod_lt _ Dn)⟩,by
  omega,?_⟩
 refine ⟨rfl,rfl,rfl,rfl,rfl,?_,?_,rfl,rfl,?_⟩
 ·rw [hn,Dg,Bo (Nat.le_trans (Nat.le_of_lt hm.1) (by decide))]
 ·exact Aa (AB (by omega) (by omega))
 rw [hn,Dz,hw,Int.toNat_natCast,Na hik]
def Ei:Con:={ ι:=Nat×Nat,pre:=λ i=>nl i.1<=1048576/\0<i.2/\i.2<BB,args:=λ i=>[.one (cS (L i.1)),.one (cI ((i.2:Nat):Int))],res:=λ i=>⟨true,[none,none],[.view 3 [.int] (L (i.1/i.2)),rcI ((i.1%i.2:Nat):Int)]⟩ }
theorem SG:Ei.Ok Tryz.prog 210:=by
 refine fok (X:=⟨tt,[(199,AY)],[],39,[]⟩) mixed AI (CTok.cons EC (CTok.nil _)) Tryz.func210 (λ (i:Nat×Nat)=>[(4,.mk 3 (Nat) (λ x1=>{ tm:=[(0,tX 1),(1,tI (nI i.2)),(6,tX 2),(7,tI (nI (i.1/BB^x1%i.2))),(8,tI ((nI x1)-1))],en:=[(1,eV (L i.1)),(2,.own 3 [.int] (AE (AP (nl i.1) (hi (i.1/i.2) x1))))] }) (λ x1=>x1<=nl i.1) (λ x1=>x1) (λ _=>[]))]) ?_
 rintro ⟨a,n⟩ hpre
 have hpre:nl a<=1048576/\0<n/\n<BB:=hpre
 refine AH (q:=let Z4:=nI ((L a).length);(0<=Z4)/\((Z4<=Z4)/\((Z4<=1073741824)/\((∃ x1:Nat,(x1<=nl a)/\((rf (vI (nI n)))/\(vI (0:Int)=vI (nI (a/BB^x1%n)))/\(vI (wR (Z4-(1:Int)))=vI ((nI x1)-1))/\(rf (L a))/\((List.replicate ((L a).length) [Dat.int (0:Int)])=(AE (AP (nl a) (hi (a/n) x1))))))/\∀ x1:Nat,let Z5:=nI (a/BB^x1%n);let Z3:=(nI x1)-1;let Z2:=wR ((wR (Z5*(1000000000:Int)))+((((L a).getD (Z3.toNat) []).getD 0 (.int 0))).n);let Z1:=AE (AP (nl a) (hi (a/n) x1));(x1<=nl a)->(ifB ((decide (Z3≥(0:Int)))) ((0<=Z3/\Z3<((L a).length:Int))/\((Z3.toNat<(L a).length)/\(((nI n)≠0)/\((0<=Z3/\Z3<(Z1.length:Int))/\((Z3.toNat<Z1.length)/\(((nI n)≠0)/\(∃ y2:Nat,(y2<=nl a)/\(y2<x1)/\((rf (vI (nI n)))/\(vI (Int.tmod Z2 (nI n))=vI (nI (a/BB^y2%n)))/\(vI (wR (Z3-(1:Int)))=vI ((nI y2)-1))/\(rf (L a))/\((Z1.set (Z3.toNat) ((Z1.getD (Z3.toNat) []).set 0 (Dat.int (wR (Int.tdiv Z2 (nI n))))))=(AE (AP (nl a) (hi (a/n) y2)))))))))))) (∃ i1:(List Nat)×Nat,[DA.one (cS Z1)]=AY.args i1/\AY.pre i1/\((L i1.2=L (a/n))/\(vI Z5=vI (nI (a%n)))))))))) (by kernel_rfl) ?_
 conv=>zeta
 delta ifB vI wR nI
 have ha:=AV a
 refine ao (by omega) λ o1=>?_
 refine ao (by omega) λ o2=>?_
 refine ao (by omega) λ o3=>?_
 refine ⟨⟨nl a,by
  omega,?_⟩,?_⟩
 ·refine ⟨rfl,?_,?_,rfl,?_⟩
  ·rw [QM n (DD a)];rfl
  ·rw [ha,AB (by omega) (by omega)]
  rw [ha,MS (Nat.div_le_self _ _)]
 intro (j:Nat) hki4
 have hki4:j<=nl a:=hki4
 have hlv:(AE (AP (nl a) (hi (a/n) j))).length=nl a:=by rw [BJ,Ad]
 refine And.symm ⟨λ c11=>?_,λ c11=>?_⟩
 ·try simp only [nrm] at c11
  refine ⟨(AP (nl a) (hi (a/n) j),a/n),by
   rfl,by
   exact ⟨by rw [Ad];omega,Fe _ _,by rw [show j=0 by omega,QN,D4,Hw (C2 (Nat.div_le_self _ _))]⟩,?_⟩
  refine ⟨rfl,?_⟩
  rw [show j=0 by omega,Nat.pow_zero,Nat.div_one]
 try simp only [nrm] at c11
 have hj:((((j:Nat):Int)-1).toNat)=j-1:=by omega
 have hj1:j-1+1=j:=by omega
 have hd:=QL a n (j-1) hpre.2.1
 rw [hj1] at hd
 have hn:IntKind.i64.wrap (IntKind.i64.wrap (((a/BB^j%n:Nat):Int)*(1000000000:Int))+((((L a).getD ((((j:Nat):Int)-1).toNat) []).getD 0 (.int 0))).n)=((a/BB^j%n*BB+dgt a (j-1):Nat):Int):=by rw [hj,L_n,K4 (Nat.lt_trans (Nat.mod_lt _ hpre.2.1) hpre.2.2) (Bf _ _)]
 refine ao (by omega) λ o12=>?_
 refine ao (by omega) λ o13=>?_
 refine ao (by omega) λ o14=>?_
 refine ao (by omega) λ o15=>?_
 refine ao (by omega) λ o16=>?_
 refine ao (by omega) λ o17=>?_
 refine ⟨j-1,by
  omega,by
  omega,?_⟩
 refine ⟨rfl,?_,?_,rfl,?_⟩
 ·rw [hn,Yr,hd.2]
 ·rw [C4 (by omega) (by omega)]
 rw [hn,Yq,hd.1,Bo (by have:=Bf (a/n) (j-1);unfold BB at this;omega),hj];exact MT (by omega) (by omega) rfl
def Ej:Con:={ ι:=Nat×Nat,pre:=λ i=>i.2≠0/\i.1<i.2*BB/\nl i.2<=131072,args:=λ i=>[.one (cS (L i.1)),.one (cS (L i.2))],res:=λ i=>⟨false,[none],[rcI ((i.1/i.2:Nat):Int)]⟩ }
theorem SH:Ej.Ok Tryz.prog 211:=by
 refine fok (X:=⟨tt,[(172,A2),(171,Ar),(197,BY)],[],27,[]⟩) mixed AI (CTok.cons IZ (CTok.cons K7 (CTok.cons Ia (CTok.nil _)))) Tryz.func211 (λ (i:Nat×Nat)=>[(3,.mk 3 (Nat×Nat) (λ x1=>{ tm:=[(0,tX 1),(1,tX 2),(5,tI (nI x1.1)),(6,tI (nI x1.2))],en:=[(1,eV (L i.1)),(2,eV (L i.2))] }) (λ x1=>x1.1<=i.1/i.2/\i.1/i.2<=x1.2/\x1.2<=999999999) (λ x1=>x1.2-x1.1) (λ _=>[]))]) ?_
 rintro ⟨a,b⟩ hpre
 have hpre:b≠0/\a<b*BB/\nl b<=131072:=hpre
 refine AH (q:=(∃ x1:Nat×Nat,(x1.1<=a/b/\a/b<=x1.2/\x1.2<=999999999)/\((vI (0:Int)=vI (nI x1.1))/\(vI (999999999:Int)=vI (nI x1.2))/\(rf (L a))/\(rf (L b))))/\∀ x1:Nat×Nat,let Z1:=wR (Int.tdiv (wR ((wR ((nI x1.1)+(nI x1.2)))+(1:Int))) (2:Int));(x1.1<=a/b/\a/b<=x1.2/\x1.2<=999999999)->(ifB ((decide ((nI x1.1)<(nI x1.2)))) (((2:Int)≠0)/\(∃ i1:Nat,[DA.one (cI Z1)]=A2.args i1/\A2.pre i1/\(∃ i2:Nat×Nat,[DA.one (cS (L b)),DA.one (cS (L i1))]=Ar.args i2/\Ar.pre i2/\(∃ i3:Nat×Nat,[DA.one (cS (L (i2.1*i2.2))),DA.one (cS (L a))]=BY.args i3/\BY.pre i3/\(ifB ((decide ((Ch i3.1 i3.2)<=(0:Int)))) (∃ y2:Nat×Nat,(y2.1<=a/b/\a/b<=y2.2/\y2.2<=999999999)/\(y2.2-y2.1<x1.2-x1.1)/\((vI Z1=vI (nI y2.1))/\(vI (nI x1.2)=vI (nI y2.2))/\(rf (L a))/\(rf (L b)))) (∃ y3:Nat×Nat,(y3.1<=a/b/\a/b<=y3.2/\y3.2<=999999999)/\(y3.2-y3.1<x1.2-x1.1)/\((vI (nI x1.1)=vI (nI y3.1))/\(vI (wR (Z1-(1:Int)))=vI (nI y3.2))/\(rf (L a))/\(rf (L b))))))))) ((vI (nI x1.1)=vI (nI (a/b)))))) (by kernel_rfl) ?_
 conv=>zeta
 delta ifB vI wR nI
 have ha:=AV a
 have hb:=AV b
 have hnl:=Jr hpre.2.1
 have hq:a/b<BB:=Nat.div_lt_of_lt_mul hpre.2.1
 have hq0:0<=((a/b:Nat):Int):=Int.natCast_nonneg _
 unfold BB at hq
 refine ⟨⟨(0,999999999),by
  exact ⟨Nat.zero_le _,by omega,Nat.le_refl _⟩,?_⟩,?_⟩
 ·refine ⟨?_,?_,rfl,rfl⟩
  ·rfl
  rfl
 rintro ⟨lo,hi⟩ hki1
 have hki1:lo<=a/b/\a/b<=hi/\hi<=999999999:=hki1
 have hm:=SA (lo:=lo) (hi:=hi) (by omega) (by omega)
 refine And.symm ⟨λ c7=>?_,λ c7=>?_⟩
 ·try simp only [nrm] at c7
  rw [show lo=a/b by omega]
 try simp only [nrm] at c7
 refine ao (by omega) λ o8=>?_
 refine ⟨((lo+hi+1)/2),by
  rw [hm];rfl,by
  show ((lo+hi+1)/2)<=9223372036854775807
  omega,?_⟩
 refine ⟨(b,((lo+hi+1)/2)),by
  rfl,by
  show nl b<=524288/\nl ((lo+hi+1)/2)<=524288
  have:=GG (n:=(lo+hi+1)/2) (by unfold BB;omega)
  exact ⟨by omega,by omega⟩,?_⟩
 refine ⟨((b*((lo+hi+1)/2)),a),by
  rfl,by
  show nl (b*((lo+hi+1)/2))<=1048576/\nl a<=1048576
  have:=GG (n:=(lo+hi+1)/2) (by unfold BB;omega)
  have:=Br b ((lo+hi+1)/2)
  exact ⟨by omega,by omega⟩,?_⟩
 refine ⟨λ c18=>?_,λ c18=>?_⟩
 ·try simp only [nrm] at c18
  refine ⟨((lo+hi+1)/2,hi),by
   exact ⟨GE hpre.1 (Hv.1 c18),by omega,by omega⟩,by
   omega,?_⟩
  refine ⟨?_,rfl,rfl,rfl⟩
  rw [hm]
 try simp only [nrm] at c18
 refine ⟨(lo,(lo+hi+1)/2-1),by
  have h2:a/b<(lo+hi+1)/2:=div_lt_of_lt_mul (Nat.lt_of_not_le (λ h=>by have:=Hv.2 h;omega))
  exact ⟨by omega,by omega,by omega⟩,by
  omega,?_⟩
 refine ⟨rfl,?_,rfl,rfl⟩
 rw [hm];exact Aa (by rw [AB (by omega) (by omega)];omega)
def Bt:Con:={ ι:=Nat×Nat,pre:=λ i=>i.2≠0/\nl i.1<=131072/\nl i.2<=131072,args:=λ i=>[.one (cS (L i.1)),.one (cS (L i.2))],res:=λ i=>⟨true,[none,none],[.view 3 [.int] (L (i.1/i.2)),.view 3 [.int] (L (i.1%i.2))]⟩ }
theorem PT:Bt.Ok Tryz.prog 195:=by
 refine fok (X:=⟨tt,[(210,Ei),(172,A2),(199,AY),(197,BY),(211,Ej),(171,Ar),(198,CI)],[],65,[]⟩) mixed AI (CTok.cons SG (CTok.cons IZ (CTok.cons EC (CTok.cons Ia (CTok.cons SH (CTok.cons K7 (CTok.cons PS (CTok.nil _)))))))) Tryz.func195 (λ (i:Nat×Nat)=>[(7,.mk 5 (Nat) (λ x1=>{ tm:=[(0,tX 1),(1,tX 2),(8,tX 3),(9,tX 4),(10,tI ((nI x1)-1))],en:=[(1,eV (L i.1)),(2,eV (L i.2)),(3,.own 3 [.int] (AE (AP (nl i.1) (hi (i.1/i.2) x1)))),(4,eV (L (i.1/BB^x1%i.2)))] }) (λ x1=>x1<=nl i.1) (λ x1=>x1) (λ _=>[]))]) ?_
 rintro ⟨a,b⟩ hpre
 have hpre:b≠0/\nl a<=131072/\nl b<=131072:=hpre
 refine AH (q:=let Z3:=nI ((L a).length);ifB (((nI ((L b).length)) == (1:Int))) ((0<=(0:Int)/\(0:Int)<((L b).length:Int))/\((0<(L b).length)/\(∃ i1:Nat×Nat,[DA.one (cS (L a)),DA.one (cI (((((L b).getD 0 []).getD 0 (.int 0))).n))]=Ei.args i1/\Ei.pre i1/\(∃ i2:Nat,[DA.one (cI (nI (i1.1%i1.2)))]=A2.args i2/\A2.pre i2/\((L (i1.1/i1.2)=L (a/b))/\(L i2=L (a%b))))))) ((0<=Z3)/\((Z3<=Z3)/\((Z3<=1073741824)/\((∃ x1:Nat,(x1<=nl a)/\((vI (wR (Z3-(1:Int)))=vI ((nI x1)-1))/\(rf (L a))/\(rf (L b))/\((List.replicate ((L a).length) [Dat.int (0:Int)])=(AE (AP (nl a) (hi (a/b) x1))))/\(([]:List (List Dat))=(L (a/BB^x1%b)))))/\∀ x1:Nat,let Z5:=L (a/BB^x1%b);let Z2:=(nI x1)-1;let Z4:=((((L a).getD (Z2.toNat) []).getD 0 (.int 0))).n;let Z1:=AE (AP (nl a) (hi (a/b) x1));(x1<=nl a)->(ifB ((decide (Z2≥(0:Int)))) ((0<=Z2/\Z2<((L a).length:Int))/\((Z2.toNat<(L a).length)/\((([[Dat.int Z4]]:List (List Dat)).length+Z5.length<=2199023255552)/\(∃ i3:(List Nat)×Nat,[DA.one (cS (([[Dat.int Z4]]:List (List Dat))++Z5))]=AY.args i3/\AY.pre i3/\(∃ i4:Nat×Nat,[DA.one (cS (L i3.2)),DA.one (cS (L b))]=BY.args i4/\BY.pre i4/\(ifB ((decide ((Ch i4.1 i4.2)<(0:Int)))) (∃ y2:Nat,(y2<=nl a)/\(y2<x1)/\((vI (wR (Z2-(1:Int)))=vI ((nI y2)-1))/\(rf (L a))/\(rf (L b))/\(Z1=(AE (AP (nl a) (hi (a/b) y2))))/\(L i3.2=(L (a/BB^y2%b))))) (∃ i5:Nat×Nat,[DA.one (cS (L i3.2)),DA.one (cS (L b))]=Ej.args i5/\Ej.pre i5/\((0<=Z2/\Z2<(Z1.length:Int))/\((Z2.toNat<Z1.length)/\(∃ i6:Nat,[DA.one (cI (nI (i5.1/i5.2)))]=A2.args i6/\A2.pre i6/\(∃ i7:Nat×Nat,[DA.one (cS (L b)),DA.one (cS (L i6))]=Ar.args i7/\Ar.pre i7/\(∃ i8:Nat×Nat,[DA.one (cS (L i3.2)),DA.one (cS (L (i7.1*i7.2)))]=CI.args i8/\CI.pre i8/\(∃ y3:Nat,(y3<=nl a)/\(y3<x1)/\((vI (wR (Z2-(1:Int)))=vI ((nI y3)-1))/\(rf (L a))/\(rf (L b))/\((Z1.set (Z2.toNat) ((Z1.getD (Z2.toNat) []).set 0 (Dat.int (nI (i5.1/i5.2)))))=(AE (AP (nl a) (hi (a/b) y3))))/\(L (i8.1-i8.2)=(L (a/BB^y3%b))))))))))))))))) (∃ i9:(List Nat)×Nat,[DA.one (cS Z1)]=AY.args i9/\AY.pre i9/\((L i9.2=L (a/b))/\(Z5=L (a%b)))))))))) (by kernel_rfl) ?_
 conv=>zeta
 delta ifB vI wR nI
 have ha:=AV a
 have hb:=AV b
 refine ⟨λ c1=>?_,λ c1=>?_⟩
 ·try simp only [nrm] at c1
  have h1:=Hx (b:=b) (by omega)
  refine ao (by omega) λ o2=>?_
  refine ao (by omega) λ o3=>?_
  refine ⟨(a,b),by
   rw [L_n,h1.1];rfl,by
   show nl a<=1048576/\0<b/\b<BB
   exact ⟨by omega,h1.2.2,h1.2.1⟩,?_⟩
  refine ⟨(a%b),by
   rfl,by
   exact Nat.le_trans (Nat.le_of_lt (Nat.lt_trans (Nat.mod_lt a h1.2.2) h1.2.1)) (by decide),?_⟩
  exact ⟨rfl,rfl⟩
 try simp only [nrm] at c1
 refine ao (by omega) λ o12=>?_
 refine ao (by omega) λ o13=>?_
 refine ao (by omega) λ o14=>?_
 refine ⟨⟨nl a,by
  omega,?_⟩,?_⟩
 ·refine ⟨?_,rfl,rfl,?_,?_⟩
  ·rw [ha,AB (by omega) (by omega)]
  ·rw [ha,MS (Nat.div_le_self _ _)]
  rw [QM b (DD a),D5]
 intro (j:Nat) hki15
 have hki15:j<=nl a:=hki15
 have hlv:(AE (AP (nl a) (hi (a/b) j))).length=nl a:=by rw [BJ,Ad]
 have hrl:=AV (a/BB^j%b)
 have hrn:=GF (a:=a/BB^j) hpre.1
 refine And.symm ⟨λ c22=>?_,λ c22=>?_⟩
 ·try simp only [nrm] at c22
  refine ⟨(AP (nl a) (hi (a/b) j),a/b),by
   rfl,by
   exact ⟨by rw [Ad];omega,Fe _ _,by rw [show j=0 by omega,QN,D4,Hw (C2 (Nat.div_le_self _ _))]⟩,?_⟩
  refine ⟨rfl,?_⟩
  rw [show j=0 by omega,Nat.pow_zero,Nat.div_one]
 try simp only [nrm] at c22
 have hj:((((j:Nat):Int)-1).toNat)=j-1:=by omega
 have hj1:j-1+1=j:=by omega
 have hs:=Lt (a:=a) (j:=j-1) hpre.1
 have hq:=Lu (a:=a) (j:=j-1) hpre.1
 rw [hj1] at hs hq
 have hRn:=Jr hs
 have hRb:(dgt a (j-1)+BB*(a/BB^j%b))/b<BB:=Nat.div_lt_of_lt_mul hs
 have hRl:=GG hRb
 refine ao (by omega) λ o23=>?_
 refine ao (by omega) λ o24=>?_
 refine ao (by simp only [List.length_cons,List.length_nil];omega) λ o25=>?_
 refine ⟨(dgt a (j-1)::dig (a/BB^j%b),dgt a (j-1)+BB*(a/BB^j%b)),by
  rw [hj,L_n];rfl,by
  try dsimp only [AY]
  exact ⟨by show (dig _).length+1<=_;show nl _+1<=_;omega,Lr (Bf _ _),FG _ _⟩,?_⟩
 refine ⟨((dgt a (j-1)+BB*(a/BB^j%b)),b),by
  rfl,by
  show nl (dgt a (j-1)+BB*(a/BB^j%b))<=1048576/\nl b<=1048576
  first|exact ⟨by omega,by omega⟩,?_⟩
 refine ⟨λ c32=>?_,λ c32=>?_⟩
 ·try simp only [nrm] at c32
  have hlt:dgt a (j-1)+BB*(a/BB^j%b)<b:=Ds.1 c32
  have hk:=Vb (q:=a/b) (i:=j-1) (by rw [← hq.1,Nat.div_eq_of_lt hlt])
  rw [hj1] at hk
  refine ⟨j-1,by
   omega,by
   omega,?_⟩
  refine ⟨?_,rfl,rfl,?_,?_⟩
  ·rw [C4 (by omega) (by omega)]
  ·rw [hk]
  rw [← hq.2,Nat.mod_eq_of_lt hlt]
 try simp only [nrm] at c32
 have hset:(AE (AP (nl a) (hi (a/b) j))).set ((((j:Nat):Int)-1).toNat) (((AE (AP (nl a) (hi (a/b) j))).getD ((((j:Nat):Int)-1).toNat) []).set 0 (Dat.int (((dgt a (j-1)+BB*(a/BB^j%b))/b:Nat):Int)))=AE (AP (nl a) (hi (a/b) (j-1))):=by rw [hj];exact MT (by omega) (by omega) hq.1
 refine ⟨((dgt a (j-1)+BB*(a/BB^j%b)),b),by
  rfl,by
  show b≠0/\(dgt a (j-1)+BB*(a/BB^j%b))<b*BB/\nl b<=131072
  exact ⟨hpre.1,hs,by omega⟩,?_⟩
 refine ao (by omega) λ o44=>?_
 refine ao (by omega) λ o45=>?_
 refine ⟨((dgt a (j-1)+BB*(a/BB^j%b))/b),by
  rfl,by
  exact Nat.le_trans (Nat.le_of_lt hRb) (by decide),?_⟩
 refine ⟨(b,((dgt a (j-1)+BB*(a/BB^j%b))/b)),by
  rfl,by
  show nl b<=524288/\nl ((dgt a (j-1)+BB*(a/BB^j%b))/b)<=524288
  first|exact ⟨by omega,by omega⟩,?_⟩
 refine ⟨((dgt a (j-1)+BB*(a/BB^j%b)),(b*((dgt a (j-1)+BB*(a/BB^j%b))/b))),by
  rfl,by
  try dsimp only [CI]
  have:=Br b ((dgt a (j-1)+BB*(a/BB^j%b))/b)
  exact ⟨by omega,by omega,Nat.mul_div_le _ _⟩,?_⟩
 refine ⟨j-1,by
  omega,by
  omega,?_⟩
 refine ⟨?_,rfl,rfl,?_,?_⟩
 ·rw [C4 (by omega) (by omega)]
 ·exact hset
 rw [Ls,hq.2]
def Ek:Con:={ ι:=Nat×Nat,pre:=λ i=>i.1<=9223372036854775807/\i.2<=9223372036854775807,args:=λ i=>[.one (cI ((i.1:Nat):Int)),.one (cI ((i.2:Nat):Int))],res:=λ i=>⟨false,[none],[.own 3 [.int] (L (i.1.gcd i.2))]⟩ }
theorem SI:Ek.Ok Tryz.prog 194:=by
 refine fok (X:=⟨tt,[(172,A2)],[],15,[]⟩) mixed AI (CTok.cons IZ (CTok.nil _)) Tryz.func194 (λ (i:Nat×Nat)=>[(1,.mk 1 (Nat×Nat) (λ x1=>{ tm:=[(0,tI (nI x1.1)),(1,tI (nI x1.2))],en:=[] }) (λ x1=>x1.1.gcd x1.2=i.1.gcd i.2/\x1.1<=9223372036854775807/\x1.2<=9223372036854775807) (λ x1=>x1.2) (λ _=>[]))]) ?_
 rintro ⟨x,y⟩ hpre
 have hpre:x<=9223372036854775807/\y<=9223372036854775807:=hpre
 refine AH (q:=(∃ x1:Nat×Nat,(x1.1.gcd x1.2=x.gcd y/\x1.1<=9223372036854775807/\x1.2<=9223372036854775807)/\((vI (nI x)=vI (nI x1.1))/\(vI (nI y)=vI (nI x1.2))))/\∀ x1:Nat×Nat,(x1.1.gcd x1.2=x.gcd y/\x1.1<=9223372036854775807/\x1.2<=9223372036854775807)->(ifB ((decide ((nI x1.2)>(0:Int)))) (((nI x1.2)≠0)/\(∃ y2:Nat×Nat,(y2.1.gcd y2.2=x.gcd y/\y2.1<=9223372036854775807/\y2.2<=9223372036854775807)/\(y2.2<x1.2)/\((vI (nI x1.2)=vI (nI y2.1))/\(vI (Int.tmod (nI x1.1) (nI x1.2))=vI (nI y2.2))))) (∃ i1:Nat,[DA.one (cI (nI x1.1))]=A2.args i1/\A2.pre i1/\((L i1=L (x.gcd y)))))) (by kernel_rfl) ?_
 delta ifB vI nI
 refine ⟨⟨(x,y),by
  exact ⟨rfl,hpre.1,hpre.2⟩,?_⟩,?_⟩
 ·exact ⟨rfl,rfl⟩
 rintro ⟨n,r⟩ hki1
 have hki1:n.gcd r=x.gcd y/\n<=9223372036854775807/\r<=9223372036854775807:=hki1
 refine And.symm ⟨λ c5=>?_,λ c5=>?_⟩
 ·try simp only [nrm] at c5
  refine ⟨n,by
   rfl,by
   show n<=9223372036854775807
   omega,?_⟩
  rw [← hki1.1,show r=0 by omega,Nat.gcd_zero_right]
 try simp only [nrm] at c5
 refine ao (a:=((r:Nat):Int)≠0) (by omega) λ o6=>?_
 refine ⟨(r,n%r),by
  exact ⟨(GH n r).trans hki1.1,hki1.2.2,Nat.le_trans (Nat.mod_le _ _) hki1.2.1⟩,by
  exact Nat.mod_lt _ (by omega),?_⟩
 refine ⟨rfl,?_⟩
 rfl
def DY:Con:={ ι:=Nat×Nat,pre:=λ i=>nl i.1<=131072/\nl i.2<=131072,args:=λ i=>[.one (cS (L i.1)),.one (cS (L i.2))],res:=λ i=>⟨false,[none],[.view 3 [.int] (L (i.1.gcd i.2))]⟩ }
theorem PU:DY.Ok Tryz.prog 167:=by
 refine fok (X:=⟨tt,[(193,C7),(194,Ek),(195,Bt)],[],52,[]⟩) mixed AI (CTok.cons SF (CTok.cons SI (CTok.cons PT (CTok.nil _)))) Tryz.func167 (λ (i:Nat×Nat)=>[(3,.mk 3 (Nat×Nat) (λ x1=>{ tm:=[(5,tX 1),(6,tX 2)],en:=[(1,eV (L x1.1)),(2,eV (L x1.2))] }) (λ x1=>x1.1.gcd x1.2=i.1.gcd i.2/\nl x1.1<=131072/\nl x1.2<=131072) (λ x1=>x1.2) (λ _=>[]))]) ?_
 rintro ⟨a,b⟩ hpre
 have hpre:nl a<=131072/\nl b<=131072:=hpre
 refine AH (q:=(([]:List (List Dat)).length+(L a).length<=2199023255552)/\((([]:List (List Dat)).length+(L b).length<=2199023255552)/\((∃ x1:Nat×Nat,(x1.1.gcd x1.2=a.gcd b/\nl x1.1<=131072/\nl x1.2<=131072)/\(((([]:List (List Dat))++(L a))=(L x1.1))/\((([]:List (List Dat))++(L b))=(L x1.2))))/\∀ x1:Nat×Nat,(x1.1.gcd x1.2=a.gcd b/\nl x1.1<=131072/\nl x1.2<=131072)->(ifB ((decide ((nI ((L x1.2).length))>(0:Int)))) (ifB ((decide ((nI ((L x1.1).length))<(3:Int)))) (ifB ((decide ((nI ((L x1.2).length))<(3:Int)))) (∃ i1:Nat,[DA.one (cS (L x1.1))]=C7.args i1/\C7.pre i1/\(∃ i2:Nat,[DA.one (cS (L x1.2))]=C7.args i2/\C7.pre i2/\(∃ i3:Nat×Nat,[DA.one (cI (nI i1)),DA.one (cI (nI i2))]=Ek.args i3/\Ek.pre i3/\((L (i3.1.gcd i3.2)=L (a.gcd b)))))) (∃ i4:Nat×Nat,[DA.one (cS (L x1.1)),DA.one (cS (L x1.2))]=Bt.args i4/\Bt.pre i4/\(∃ y2:Nat×Nat,(y2.1.gcd y2.2=a.gcd b/\nl y2.1<=131072/\nl y2.2<=131072)/\(y2.2<x1.2)/\(((L x1.2)=(L y2.1))/\(L (i4.1%i4.2)=(L y2.2)))))) (∃ i5:Nat×Nat,[DA.one (cS (L x1.1)),DA.one (cS (L x1.2))]=Bt.args i5/\Bt.pre i5/\(∃ y3:Nat×Nat,(y3.1.gcd y3.2=a.gcd b/\nl y3.1<=131072/\nl y3.2<=131072)/\(y3.2<x1.2)/\(((L x1.2)=(L y3.1))/\(L (i5.1%i5.2)=(L y3.2)))))) (((L x1.1)=L (a.gcd b))))))) (by kernel_rfl) ?_
 delta ifB nI
 have ha:=AV a
 have hb:=AV b
 refine ao (by first|(simp only [List.length_nil];omega)) λ o1=>?_
 refine ao (by first|(simp only [List.length_nil];omega)) λ o2=>?_
 refine ⟨⟨(a,b),by
  exact ⟨rfl,hpre.1,hpre.2⟩,?_⟩,?_⟩
 ·refine ⟨?_,?_⟩
  ·exact List.nil_append _
  exact List.nil_append _
 rintro ⟨x,y⟩ hki3
 have hki3:x.gcd y=a.gcd b/\nl x<=131072/\nl y<=131072:=hki3
 have hx:=AV x
 have hy:=AV y
 have hy0:y≠0↔0<nl y:=⟨Hu,λ h e=>by rw [e,Ca] at h;omega⟩
 have hlt:∀ n,nl n<=2->n<=9223372036854775807:=λ n h=>Nat.le_of_lt (Nat.lt_trans (Gi h) (by decide))
 refine And.symm ⟨λ c7=>?_,λ c7=>?_⟩
 ·try simp only [nrm] at c7
  rw [← hki3.1,Cq.1 (show nl y=0 by omega),Nat.gcd_zero_right]
 try simp only [nrm] at c7
 have hyy:y≠0:=hy0.2 (by omega)
 refine And.symm ⟨λ c8=>?_,λ c8=>?_⟩
 ·try simp only [nrm] at c8
  refine ⟨(x,y),by
   rfl,by
   exact ⟨hyy,hki3.2.1,hki3.2.2⟩,?_⟩
  refine ⟨(y,x%y),by
   exact ⟨(GH x y).trans hki3.1,hki3.2.2,Nat.le_trans (GF hyy) hki3.2.2⟩,by
   exact Nat.mod_lt _ (Nat.pos_of_ne_zero hyy),?_⟩
  exact ⟨rfl,rfl⟩
 try simp only [nrm] at c8
 refine And.symm ⟨λ c9=>?_,λ c9=>?_⟩
 ·try simp only [nrm] at c9
  refine ⟨(x,y),by
   rfl,by
   exact ⟨hyy,hki3.2.1,hki3.2.2⟩,?_⟩
  refine ⟨(y,x%y),by
   exact ⟨(GH x y).trans hki3.1,hki3.2.2,Nat.le_trans (GF hyy) hki3.2.2⟩,by
   exact Nat.mod_lt _ (Nat.pos_of_ne_zero hyy),?_⟩
  exact ⟨rfl,rfl⟩
 try simp only [nrm] at c9
 refine ⟨x,by
  rfl,by
  show nl x<=2
  omega,?_⟩
 refine ⟨y,by
  rfl,by
  show nl y<=2
  omega,?_⟩
 refine ⟨(x,y),by
  rfl,by
  exact ⟨hlt x (by omega),hlt y (by omega)⟩,?_⟩
 rw [hki3.1]
end Go.Proofs.YtkffpiaagjcmpaaGreat
