import Derived.Test.YtlejeadlmpkffaaGreatMaRkC
namespace Go.Proofs.YtlejeadlmpkffaaGreat
set_option maxRecDepth 100000
set_option linter.unusedVariables false
set_option linter.unusedSimpArgs false
open Go.RowKit
theorem inB_yes {x:Int} (h:0<=x/\x<=999999999):inB x=true:=by unfold inB;rw [decide_eq_true h.1,decide_eq_true h.2];rfl
theorem inB_no {x:Int} (h:x<0∨999999999<x):inB x=false:=by
 unfold inB
 rcases h with h|h
 ·rw [decide_eq_false (show ¬ 0<=x by omega)];rfl
 ·rw [decide_eq_false (show ¬ x<=999999999 by omega),Bool.and_false]
theorem any_none {l:List (List Dat)} (h:∀ j,j<l.length->inB (rn (l.getD j []))=true):(l.any λ r=>!(inB (rn r)))=false:=by
 rw [List.any_eq_false]
 intro r hr
 obtain ⟨k,hk,rfl⟩:=List.getElem_of_mem hr
 have:=h k hk
 rw [List.getD,List.getElem?_eq_getElem hk] at this
 simp only [Option.getD_some] at this
 rw [this];simp
theorem natOkR_bad {l:List (List Dat)} {k:Nat} (hk:k<l.length) (h:inB (rn (l.getD k []))=false):natOkR l=false:=by
 apply natOkR_no2
 rw [List.any_eq_true]
 refine ⟨l[k],List.getElem_mem hk,?_⟩
 rw [List.getD,List.getElem?_eq_getElem hk] at h
 simp only [Option.getD_some] at h
 rw [h];rfl
theorem max_dig:dig 9223372036854775807=[854775807,223372036,9]:=by
 rw [dig_pos (by decide),dig_pos (by decide),dig_pos (by decide),show 9223372036854775807/BB/BB/BB=0 from by decide,dig_zero]
 rfl
theorem min_dig:dig 9223372036854775808=[854775808,223372036,9]:=by
 rw [dig_pos (by decide),dig_pos (by decide),dig_pos (by decide),show 9223372036854775808/BB/BB/BB=0 from by decide,dig_zero]
 rfl
theorem maxL:[[Dat.int (854775807:Int)],[Dat.int (223372036:Int)],[Dat.int (9:Int)]]=L 9223372036854775807:=by unfold L;rw [max_dig];rfl
theorem minL:[[Dat.int (854775808:Int)],[Dat.int (223372036:Int)],[Dat.int (9:Int)]]=L 9223372036854775808:=by unfold L;rw [min_dig];rfl
theorem zero_of_len {n:Nat} (h:(L n).length=0):n=0:=nl_eq_zero.1 (by rw [← L_len];exact h)
theorem mul_lt_pow {a b i:Nat} : a%BB^i*b<BB^(i+nl b):=by
 rw [Nat.pow_add]
 exact Nat.mul_lt_mul'' (Nat.mod_lt _ (BBp i)) (lt_nl b)
theorem set_lt {V p d N:Nat} (hp:p<N) (hV:V<BB^N) (hd:d<BB):V-dgt V p*BB^p+d*BB^p<BB^N:=by
 have e1:=mod_succ V p
 have e2:=Nat.div_add_mod V (BB^(p+1))
 have eN:BB^N=BB^(p+1)*BB^(N-p-1):=by rw [← Nat.pow_add];congr 1;omega
 have hQ:V/BB^(p+1)<BB^(N-p-1):=Nat.div_lt_of_lt_mul (by rw [← eN];exact hV)
 have h1:BB^(p+1)*(V/BB^(p+1)+1)<=BB^N:=by rw [eN];exact Nat.mul_le_mul_left _ hQ
 have hr:=Nat.mod_lt V (BBp p)
 have h2:(d+1)*BB^p<=BB^(p+1):=by rw [Nat.pow_succ,Nat.mul_comm (BB^p)];exact Nat.mul_le_mul_right _ hd
 rw [Nat.add_mul,Nat.one_mul] at h2
 rw [Nat.mul_add,Nat.mul_one] at h1
 rw [Nat.mul_comm (BB^p)] at e1
 generalize V%BB^p=r at *
 generalize V/BB^(p+1)=q at *
 generalize V%BB^(p+1)=s at *
 omega
def sNatOk_con:Con:={ ι:=(List (List Dat)),pre:=λ i=>i.length<=9223372036854775807,args:=λ i=>[.one (.sl 3 [.int] i)],res:=λ i=>⟨false,[none],[.im (Value.bool (natOkR i))]⟩ }
theorem sNatOk_ok:sNatOk_con.Ok Tryz.prog 99:=by
 refine fok (X:=⟨tt,[(53,l01In_con)],[],32,[]⟩) mixed tt_ok (CTok.cons l01In_ok (CTok.nil _)) Tryz.func99 (λ (i:(List (List Dat)))=>[(2,.mk 2 (Nat) (λ x1=>{ tm:=[(0,.one (.one (.ext 1))),(5,.one (.one (.ext 1))),(6,.one (.one (.im (Value.int .i64 ((i.length:Nat):Int))))),(7,.one (.one (.im (Value.int .i64 ((x1:Nat):Int)))))],en:=[(1,.view 3 [.int] i [])] }) (λ x1=>x1<=i.length/\∀ j,j<x1->inB (rn (i.getD j []))=true) (λ x1=>i.length-x1) (λ _=>[]))]) ?_
 intro (l:List (List Dat)) hpre
 have hpre:l.length<=9223372036854775807:=hpre
 refine by_nf (q:=(∃ x1:Nat,(x1<=l.length/\∀ j,j<x1->inB (rn (l.getD j []))=true)/\((rf (vI (nI l.length)))/\(vI (0:Int)=vI (nI x1))/\(rf (l))))/\∀ x1:Nat,(x1<=l.length/\∀ j,j<x1->inB (rn (l.getD j []))=true)->(((decide ((nI x1)<(nI l.length)))=true->((0<=(nI x1)/\(nI x1)<(l.length:Int))/\((x1<l.length)/\(∃ i1:Int×Int×Int,[DA.one (cI ((((l.getD x1 []).getD 0 (.int 0))).n)),DA.one (cI (0:Int)),DA.one (cI (999999999:Int))]=l01In_con.args i1/\l01In_con.pre i1/\(((!(decide (i1.1≥i1.2.1) && decide (i1.1<=i1.2.2)))=true->((Value.bool false=Value.bool (natOkR l))))/\((!(decide (i1.1≥i1.2.1) && decide (i1.1<=i1.2.2)))=false->(∃ y2:Nat,(y2<=l.length/\∀ j,j<y2->inB (rn (l.getD j []))=true)/\(l.length-y2<l.length-x1)/\((rf (vI (nI l.length)))/\(vI (wR ((nI x1)+(1:Int)))=vI (nI y2))/\(rf (l))))))))))/\((decide ((nI x1)<(nI l.length)))=false->(((decide ((nI l.length)<=(60:Int)))=true->(((!((nI l.length) == (0:Int)))=true->((0<=(wR ((nI l.length)-(1:Int)))/\(wR ((nI l.length)-(1:Int)))<(l.length:Int))/\(((wR ((nI l.length)-(1:Int))).toNat<l.length)/\((Value.bool ((((l.getD ((wR ((nI l.length)-(1:Int))).toNat) []).getD 0 (.int 0))).n != (0:Int))=Value.bool (natOkR l))))))/\((!((nI l.length) == (0:Int)))=false->((Value.bool true=Value.bool (natOkR l))))))/\((decide ((nI l.length)<=(60:Int)))=false->((Value.bool false=Value.bool (natOkR l)))))))) (by kernel_rfl) ?_
 delta vI wR nI
 refine ⟨⟨0,by
  exact ⟨Nat.zero_le _,λ j hj=>absurd hj (Nat.not_lt_zero j)⟩,?_⟩,?_⟩
 ·refine ⟨rfl,?_,rfl⟩
  rfl
 intro (k:Nat) hki1
 have hki1:k<=l.length/\∀ j,j<k->inB (rn (l.getD j []))=true:=hki1
 refine And.symm ⟨λ c6=>?_,λ c6=>?_⟩
 ·try simp only [nrm] at c6
  have hall:=any_none (l:=l) (λ j hj=>hki1.2 j (by omega))
  refine And.symm ⟨λ c20=>?_,λ c20=>?_⟩
  ·try simp only [nrm] at c20
   have hE:=natOkR_no1 (l:=l) (by omega)
   rw [hE]
  try simp only [nrm] at c20
  refine And.symm ⟨λ c21=>?_,λ c21=>?_⟩
  ·try simp only [nrm] at c21
   have hE:=natOkR_nil (l:=l) (by omega)
   rw [hE]
  try simp only [nrm] at c21
  have hE:=natOkR_last (l:=l) (by omega) hall (by omega)
  have hw:(IntKind.i64.wrap (((l.length:Nat):Int)-(1:Int)))=((l.length-1:Nat):Int):=by rw [wrap64 (by omega) (by omega)];omega
  refine ao (by omega) λ o22=>?_
  refine ao (by omega) λ o23=>?_
  rw [hw,Int.toNat_natCast,hE];rfl
 try simp only [nrm] at c6
 refine ao (by omega) λ o7=>?_
 refine ao (by omega) λ o8=>?_
 refine ⟨((((l.getD k []).getD 0 (.int 0))).n,(0:Int),(999999999:Int)),by
  rfl,by
  trivial,?_⟩
 refine ⟨λ c12=>?_,λ c12=>?_⟩
 ·replace c12:(!(decide (((((l.getD k []).getD 0 (.int 0))).n)≥(0:Int)) && decide (((((l.getD k []).getD 0 (.int 0))).n)<=(999999999:Int))))=true:=c12
  try simp only [nrm] at c12
  have hE:=natOkR_bad o8 (inB_no c12)
  rw [hE]
 replace c12:(!(decide (((((l.getD k []).getD 0 (.int 0))).n)≥(0:Int)) && decide (((((l.getD k []).getD 0 (.int 0))).n)<=(999999999:Int))))=false:=c12
 try simp only [nrm] at c12
 refine ⟨k+1,by
  exact ⟨by omega,lt_step hki1.2 (inB_yes c12)⟩,by
  omega,?_⟩
 refine ⟨rfl,?_,rfl⟩
 exact vint (wrap64 (by omega) (by omega))
def l02Trim_con:Con:={ ι:=(List Nat)×Nat,pre:=λ i=>i.1.length<=1048576/\(∀ q ∈ i.1,q<BB)/\limbs i.1=i.2,args:=λ i=>[.one (.sl 3 [.int] (rowsN i.1))],res:=λ i=>⟨false,[none],[.view 3 [.int] (L i.2)]⟩ }
theorem l02Trim_ok:l02Trim_con.Ok Tryz.prog 170:=by
 refine fok (X:=⟨tt,[],[],21,[]⟩) mixed tt_ok (CTok.nil _) Tryz.func170 (λ (i:(List Nat)×Nat)=>[(2,.mk 2 (Nat) (λ x1=>{ tm:=[(0,.one (.one (.ext 1))),(3,.one (.one (.im (Value.int .i64 ((x1:Nat):Int)))))],en:=[(1,.view 3 [.int] (rowsN i.1) [])] }) (λ x1=>x1<=i.1.length/\limbs (i.1.take x1)=limbs i.1) (λ x1=>x1) (λ _=>[]))]) ?_
 rintro ⟨l,n⟩ hpre
 have hpre:l.length<=1048576/\(∀ q ∈ l,q<BB)/\limbs l=n:=hpre
 refine by_nf (q:=(∃ x1:Nat,(x1<=l.length/\limbs (l.take x1)=limbs l)/\((vI (nI ((rowsN l).length))=vI (nI x1))/\(rf (rowsN l))))/\∀ x1:Nat,(x1<=l.length/\limbs (l.take x1)=limbs l)->(((decide ((nI x1)>(0:Int)))=true->((0<=(wR ((nI x1)-(1:Int)))/\(wR ((nI x1)-(1:Int)))<((rowsN l).length:Int))/\(((wR ((nI x1)-(1:Int))).toNat<(rowsN l).length)/\(((((((rowsN l).getD ((wR ((nI x1)-(1:Int))).toNat) []).getD 0 (.int 0))).n == (0:Int))=true->(∃ y2:Nat,(y2<=l.length/\limbs (l.take y2)=limbs l)/\(y2<x1)/\((vI (wR ((nI x1)-(1:Int)))=vI (nI y2))/\(rf (rowsN l)))))/\((((((rowsN l).getD ((wR ((nI x1)-(1:Int))).toNat) []).getD 0 (.int 0))).n == (0:Int))=false->((Nat.beq 1 1=true)/\((0<=(0:Int))/\(((0:Int)<=(nI x1))/\(((nI x1)<=((rowsN l).length:Int))/\((((rowsN l).take x1)=L n)))))))))))/\((decide ((nI x1)>(0:Int)))=false->((Nat.beq 1 1=true)/\((0<=(0:Int))/\(((0:Int)<=(nI x1))/\(((nI x1)<=((rowsN l).length:Int))/\((((rowsN l).take x1)=L n))))))))) (by kernel_rfl) ?_
 delta vI wR nI
 have hl:=rowsN_len l
 refine ⟨⟨l.length,by
  exact ⟨Nat.le_refl _,by rw [List.take_length]⟩,?_⟩,?_⟩
 ·refine ⟨?_,rfl⟩
  rw [hl]
 intro (k:Nat) hki1
 have hki1:k<=l.length/\limbs (l.take k)=limbs l:=hki1
 have hw:k≠0->IntKind.i64.wrap ((k:Int)-(1:Int))=((k-1:Nat):Int):=λ h=>by rw [wrap64 (by omega) (by omega)];omega
 refine And.symm ⟨λ c5=>?_,λ c5=>?_⟩
 ·try simp only [nrm] at c5
  refine ao (by rfl) λ o19=>?_
  refine ao (by omega) λ o20=>?_
  refine ao (by omega) λ o21=>?_
  refine ao (by omega) λ o22=>?_
  rw [← hpre.2.2]
  exact trim_end hpre.2.1 hki1.1 hki1.2 (.inl (by omega))
 try simp only [nrm] at c5
 refine ao (by omega) λ o6=>?_
 refine ao (by omega) λ o7=>?_
 refine ⟨λ c8=>?_,λ c8=>?_⟩
 ·try simp only [nrm] at c8
  rw [hw (by omega),Int.toNat_natCast,rowsN_n] at c8
  refine ⟨k-1,by
   exact ⟨by omega,(trim_step (by omega) (by omega) (by exact_mod_cast c8)).trans hki1.2⟩,by
   omega,?_⟩
  refine ⟨?_,rfl⟩
  rw [hw (by omega)]
 try simp only [nrm] at c8
 rw [hw (by omega),Int.toNat_natCast,rowsN_n] at c8
 refine ao (by rfl) λ o14=>?_
 refine ao (by omega) λ o15=>?_
 refine ao (by omega) λ o16=>?_
 refine ao (by omega) λ o17=>?_
 rw [← hpre.2.2]
 exact trim_end hpre.2.1 hki1.1 hki1.2 (.inr (by exact_mod_cast c8))
def l02Cap_con:Con:={ ι:=Nat,pre:=λ i=>nl i<=60,args:=λ i=>[.one (.sl 3 [.int] (L i))],res:=λ i=>⟨false,[none],[.view 3 [.int] (L i)]⟩ }
theorem l02Cap_ok:l02Cap_con.Ok Tryz.prog 175:=by
 refine fok (X:=⟨tt,[(170,l02Trim_con)],[],10,[]⟩) mixed tt_ok (CTok.cons l02Trim_ok (CTok.nil _)) Tryz.func175 (λ _=>[]) ?_
 intro (n:Nat) hpre
 have hpre:nl n<=60:=hpre
 refine by_nf (q:=∃ i1:(List Nat)×Nat,[DA.one (cS (L n))]=l02Trim_con.args i1/\l02Trim_con.pre i1/\(((decide ((nI ((L i1.2).length))>(60:Int)))=true->((([]:List (List Dat))=L n)))/\((decide ((nI ((L i1.2).length))>(60:Int)))=false->((L i1.2=L n))))) (by kernel_rfl) ?_
 delta nI
 refine ⟨(dig n,n),by
  rfl,by
  exact ⟨by show nl _<=_;omega,dig_lt _,limbs_dig _⟩,?_⟩
 refine ⟨λ c4=>?_,λ c4=>?_⟩
 ·replace c4:(decide ((((L n).length:Nat):Int)>(60:Int)))=true:=c4
  try simp only [nrm] at c4
  exfalso;rw [L_len] at c4;omega
 replace c4:(decide ((((L n).length:Nat):Int)>(60:Int)))=false:=c4
 try simp only [nrm] at c4
 exact rfl
def sNatOf_con:Con:={ ι:=Nat,pre:=λ i=>i<=9223372036854775807,args:=λ i=>[.one (.im (.int .i64 ((i:Nat):Int)))],res:=λ i=>⟨false,[none],[.own 3 [.int] (L i)]⟩ }
theorem sNatOf_ok:sNatOf_con.Ok Tryz.prog 140:=by
 refine fok (X:=⟨tt,[],[],15,[]⟩) mixed tt_ok (CTok.nil _) Tryz.func140 (λ (i:Nat)=>[(2,.mk 2 (Nat×(List Nat)) (λ x1=>{ tm:=[(0,.one (.one (.im (Value.int .i64 ((x1.1:Nat):Int))))),(3,.one (.one (.ext 1)))],en:=[(1,.own 3 [.int] (rowsN x1.2))] }) (λ x1=>x1.2++dig x1.1=dig i/\x1.1<=i) (λ x1=>x1.1) (λ _=>[]))]) ?_
 intro (n:Nat) hpre
 have hpre:n<=9223372036854775807:=hpre
 refine by_nf (q:=(∃ x1:Nat×(List Nat),(x1.2++dig x1.1=dig n/\x1.1<=n)/\((vI (nI n)=vI (nI x1.1))/\(([]:List (List Dat))=(rowsN x1.2))))/\∀ x1:Nat×(List Nat),(x1.2++dig x1.1=dig n/\x1.1<=n)->(((decide ((nI x1.1)>(0:Int)))=true->(((1000000000:Int)≠0)/\(((rowsN x1.2).length+([[Dat.int (Int.tmod (nI x1.1) (1000000000:Int))]]:List (List Dat)).length<=1073741824)/\(((1000000000:Int)≠0)/\(∃ y2:Nat×(List Nat),(y2.2++dig y2.1=dig n/\y2.1<=n)/\(y2.1<x1.1)/\((vI (wR (Int.tdiv (nI x1.1) (1000000000:Int)))=vI (nI y2.1))/\(((rowsN x1.2)++([[Dat.int (Int.tmod (nI x1.1) (1000000000:Int))]]:List (List Dat)))=(rowsN y2.2))))))))/\((decide ((nI x1.1)>(0:Int)))=false->(((rowsN x1.2)=L n))))) (by kernel_rfl) ?_
 delta vI wR nI
 refine ⟨⟨(n,[]),by
  exact ⟨rfl,Nat.le_refl _⟩,?_⟩,?_⟩
 ·refine ⟨rfl,?_⟩
  rfl
 rintro ⟨m,o⟩ hki1
 have hki1:o++dig m=dig n/\m<=n:=hki1
 have hol:o.length<=64:=by have h1:=congrArg List.length hki1.1;rw [List.length_append] at h1;have h2:nl n<=64:=(nl_le' _ _).2 (Nat.lt_of_le_of_lt hpre (by decide));unfold nl at h2;omega
 have hrl:=rowsN_len o
 refine And.symm ⟨λ c5=>?_,λ c5=>?_⟩
 ·replace c5:(decide (((m:Nat):Int)>(0:Int)))=false:=c5
  try simp only [nrm] at c5
  show (rowsN o)=L n
  have hm:m=0:=by omega
  rw [← L_of_dig (by rw [← hki1.1,hm,dig_zero,List.append_nil])]
 replace c5:(decide (((m:Nat):Int)>(0:Int)))=true:=c5
 try simp only [nrm] at c5
 refine ao (by omega) λ o6=>?_
 refine ao (a:=(rowsN o).length+([[Dat.int (Int.tmod ((m:Nat):Int) (1000000000:Int))]]:List (List Dat)).length<=1073741824) (by simp only [List.length_cons,List.length_nil];omega) λ o7=>?_
 refine ao (by omega) λ o8=>?_
 refine ⟨(m/BB,o++[m%BB]),by
  refine ⟨?_,Nat.le_trans (Nat.div_le_self _ _) hki1.2⟩;rw [← hki1.1,dig_pos (n:=m) (by omega),List.append_assoc];rfl,by
  exact Nat.div_lt_self (by omega) (by decide),?_⟩
 refine ⟨?_,?_⟩
 ·rw [tdivB,wrapN (Nat.le_trans (Nat.div_le_self _ _) (by omega))]
 exact rowsN_snoc _ _
def l02Cmp_con:Con:={ ι:=Nat×Nat,pre:=λ i=>nl i.1<=1048576/\nl i.2<=1048576,args:=λ i=>[.one (.sl 3 [.int] (L i.1)),.one (.sl 3 [.int] (L i.2))],res:=λ i=>⟨false,[none],[.im (Value.int .i64 (cmpN i.1 i.2))]⟩ }
theorem l02Cmp_ok:l02Cmp_con.Ok Tryz.prog 168:=by
 refine fok (X:=⟨tt,[],[],41,[]⟩) mixed tt_ok (CTok.nil _) Tryz.func168 (λ (i:Nat×Nat)=>[(6,.mk 3 (Nat) (λ x1=>{ tm:=[(0,.one (.one (.ext 1))),(1,.one (.one (.ext 2))),(5,.one (.one (.im (Value.int .i64 (((x1:Nat):Int)-1)))))],en:=[(1,.view 3 [.int] (L i.1) []),(2,.view 3 [.int] (L i.2) [])] }) (λ x1=>x1<=nl i.1/\nl i.1=nl i.2/\i.1/BB^x1=i.2/BB^x1) (λ x1=>x1) (λ _=>[]))]) ?_
 rintro ⟨a,b⟩ hpre
 have hpre:nl a<=1048576/\nl b<=1048576:=hpre
 refine by_nf (q:=(((nI ((L a).length)) != (nI ((L b).length)))=true->(((decide ((nI ((L a).length))<(nI ((L b).length))))=true->((vI (-1:Int)=vI (cmpN a b))))/\((decide ((nI ((L a).length))<(nI ((L b).length))))=false->((vI (1:Int)=vI (cmpN a b))))))/\(((nI ((L a).length)) != (nI ((L b).length)))=false->((∃ x1:Nat,(x1<=nl a/\nl a=nl b/\a/BB^x1=b/BB^x1)/\((vI (wR ((nI ((L a).length))-(1:Int)))=vI ((nI x1)-1))/\(rf (L a))/\(rf (L b))))/\∀ x1:Nat,(x1<=nl a/\nl a=nl b/\a/BB^x1=b/BB^x1)->(((decide (((nI x1)-1)≥(0:Int)))=true->((0<=((nI x1)-1)/\((nI x1)-1)<((L a).length:Int))/\((((nI x1)-1).toNat<(L a).length)/\((0<=((nI x1)-1)/\((nI x1)-1)<((L b).length:Int))/\((((nI x1)-1).toNat<(L b).length)/\(((decide (((((L a).getD (((nI x1)-1).toNat) []).getD 0 (.int 0))).n<((((L b).getD (((nI x1)-1).toNat) []).getD 0 (.int 0))).n))=true->((vI (-1:Int)=vI (cmpN a b))))/\((decide (((((L a).getD (((nI x1)-1).toNat) []).getD 0 (.int 0))).n<((((L b).getD (((nI x1)-1).toNat) []).getD 0 (.int 0))).n))=false->((0<=((nI x1)-1)/\((nI x1)-1)<((L a).length:Int))/\((((nI x1)-1).toNat<(L a).length)/\((0<=((nI x1)-1)/\((nI x1)-1)<((L b).length:Int))/\((((nI x1)-1).toNat<(L b).length)/\(((decide (((((L a).getD (((nI x1)-1).toNat) []).getD 0 (.int 0))).n>((((L b).getD (((nI x1)-1).toNat) []).getD 0 (.int 0))).n))=true->((vI (1:Int)=vI (cmpN a b))))/\((decide (((((L a).getD (((nI x1)-1).toNat) []).getD 0 (.int 0))).n>((((L b).getD (((nI x1)-1).toNat) []).getD 0 (.int 0))).n))=false->(∃ y2:Nat,(y2<=nl a/\nl a=nl b/\a/BB^y2=b/BB^y2)/\(y2<x1)/\((vI (wR (((nI x1)-1)-(1:Int)))=vI ((nI y2)-1))/\(rf (L a))/\(rf (L b)))))))))))))))))/\((decide (((nI x1)-1)≥(0:Int)))=false->((vI (0:Int)=vI (cmpN a b)))))))) (by kernel_rfl) ?_
 delta vI wR nI
 have ha:=L_len a
 have hb:=L_len b
 refine ⟨λ c1=>?_,λ c1=>?_⟩
 ·try simp only [nrm] at c1
  refine ⟨λ c2=>?_,λ c2=>?_⟩
  ·try simp only [nrm] at c2
   rw [cmpN_lt (lt_of_nl (by omega))]
  try simp only [nrm] at c2
  rw [cmpN_gt (lt_of_nl (by omega))]
 try simp only [nrm] at c1
 refine ⟨⟨nl a,by
  exact ⟨Nat.le_refl _,by omega,by rw [Nat.div_eq_of_lt (lt_nl a),show nl a=nl b by omega,Nat.div_eq_of_lt (lt_nl b)]⟩,?_⟩,?_⟩
 ·refine ⟨?_,rfl,rfl⟩
  rw [ha,wrap64 (by omega) (by omega)]
 intro (j:Nat) hki5
 have hki5:j<=nl a/\nl a=nl b/\a/BB^j=b/BB^j:=hki5
 refine And.symm ⟨λ c10=>?_,λ c10=>?_⟩
 ·try simp only [nrm] at c10
  have hj0:j=0:=by omega
  subst hj0
  have e:=hki5.2.2
  rw [Nat.pow_zero,Nat.div_one,Nat.div_one] at e
  rw [e,cmpN_eq]
 try simp only [nrm] at c10
 have hj:((((j:Nat):Int)-1).toNat)=j-1:=by omega
 have hj1:j-1+1=j:=by omega
 have he:a/BB^(j-1+1)=b/BB^(j-1+1):=by rw [hj1];exact hki5.2.2
 refine ao (by omega) λ o11=>?_
 refine ao (by omega) λ o12=>?_
 refine ao (by omega) λ o13=>?_
 refine ao (by omega) λ o14=>?_
 refine ⟨λ c15=>?_,λ c15=>?_⟩
 ·try simp only [nrm] at c15
  rw [hj,L_n,L_n] at c15
  rw [cmpN_lt (lt_of_div (k:=j-1) he (by omega))]
 try simp only [nrm] at c15
 rw [hj,L_n,L_n] at c15
 refine ao (by omega) λ o17=>?_
 refine ao (by omega) λ o18=>?_
 refine ao (by omega) λ o19=>?_
 refine ao (by omega) λ o20=>?_
 refine ⟨λ c21=>?_,λ c21=>?_⟩
 ·try simp only [nrm] at c21
  rw [hj,L_n,L_n] at c21
  rw [cmpN_gt (lt_of_div (k:=j-1) he.symm (by omega))]
 try simp only [nrm] at c21
 rw [hj,L_n,L_n] at c21
 refine ⟨j-1,by
  exact ⟨by omega,hki5.2.1,div_inj (k:=j-1) he (by omega)⟩,by
  omega,?_⟩
 refine ⟨?_,rfl,rfl⟩
 rw [wrap_pred (by omega) (by omega)]
def NatToInt_con:Con:={ ι:=Nat,pre:=λ i=>nl i<=2,args:=λ i=>[.one (.sl 3 [.int] (L i))],res:=λ i=>⟨true,[none,none],[.im (Value.int .i64 ((i:Nat):Int)),.im (Value.bool true)]⟩ }
theorem NatToInt_ok:NatToInt_con.Ok Tryz.prog 132:=by
 refine fok (X:=⟨tt,[(99,sNatOk_con),(168,l02Cmp_con)],[],30,[]⟩) mixed tt_ok (CTok.cons sNatOk_ok (CTok.cons l02Cmp_ok (CTok.nil _))) Tryz.func132 (λ (i:Nat)=>[(5,.mk 2 (Nat) (λ x1=>{ tm:=[(0,.one (.one (.ext 1))),(4,.one (.one (.im (Value.int .i64 ((i/BB^x1:Nat):Int))))),(5,.one (.one (.im (Value.int .i64 (((x1:Nat):Int)-1)))))],en:=[(1,.view 3 [.int] (L i) [])] }) (λ x1=>x1<=nl i) (λ x1=>x1) (λ _=>[]))]) ?_
 intro (a:Nat) hpre
 have hpre:nl a<=2:=hpre
 refine by_nf (q:=∃ i1:(List (List Dat)),[DA.one (cS (L a))]=sNatOk_con.args i1/\sNatOk_con.pre i1/\(((!(!(natOkR i1)))=true->(∃ i2:Nat×Nat,[DA.one (cS (L a)),DA.one (cS ([[Dat.int (854775807:Int)],[Dat.int (223372036:Int)],[Dat.int (9:Int)]]:List (List Dat)))]=l02Cmp_con.args i2/\l02Cmp_con.pre i2/\(((decide ((cmpN i2.1 i2.2)>(0:Int)))=true->((vI (0:Int)=vI (nI a))/\(Value.bool false=Value.bool true)))/\((decide ((cmpN i2.1 i2.2)>(0:Int)))=false->((∃ x1:Nat,(x1<=nl a)/\((vI (0:Int)=vI (nI (a/BB^x1)))/\(vI (wR ((nI ((L a).length))-(1:Int)))=vI ((nI x1)-1))/\(rf (L a))))/\∀ x1:Nat,(x1<=nl a)->(((decide (((nI x1)-1)≥(0:Int)))=true->((0<=((nI x1)-1)/\((nI x1)-1)<((L a).length:Int))/\((((nI x1)-1).toNat<(L a).length)/\(∃ y2:Nat,(y2<=nl a)/\(y2<x1)/\((vI (wR ((wR ((nI (a/BB^x1))*(1000000000:Int)))+((((L a).getD (((nI x1)-1).toNat) []).getD 0 (.int 0))).n))=vI (nI (a/BB^y2)))/\(vI (wR (((nI x1)-1)-(1:Int)))=vI ((nI y2)-1))/\(rf (L a)))))))/\((decide (((nI x1)-1)≥(0:Int)))=false->((vI (nI (a/BB^x1))=vI (nI a))/\(Value.bool true=Value.bool true)))))))))/\((!(!(natOkR i1)))=false->((vI (0:Int)=vI (nI a))/\(Value.bool false=Value.bool true))))) (by kernel_rfl) ?_
 delta vI wR nI
 have ha:=L_len a
 have hlt:a<BB^2:=lt_pow hpre
 refine ⟨(L a),by
  rfl,by
  show (L a).length<=9223372036854775807
  omega,?_⟩
 refine And.symm ⟨λ c4=>?_,λ c4=>?_⟩
 ·try simp only [nrm] at c4
  exfalso
  rw [natOkR_L,decide_eq_true (by omega)] at c4
  cases c4 -- done
 try simp only [nrm] at c4
 refine ⟨(a,9223372036854775807),by
  rw [maxL];rfl,by
  show nl a<=1048576/\nl 9223372036854775807<=1048576
  exact ⟨by omega,Nat.le_trans ((nl_le' 3 _).2 (by decide)) (by decide)⟩,?_⟩
 refine ⟨λ c8=>?_,λ c8=>?_⟩
 ·replace c8:(decide ((cmpN a 9223372036854775807)>(0:Int)))=true:=c8
  try simp only [nrm] at c8
  exfalso
  have:=cmpN_le0.2 (show a<=9223372036854775807 from Nat.le_of_lt (Nat.lt_trans hlt (by decide)))
  omega -- done
 replace c8:(decide ((cmpN a 9223372036854775807)>(0:Int)))=false:=c8
 try simp only [nrm] at c8
 refine ⟨⟨nl a,by
  omega,?_⟩,?_⟩
 ·refine ⟨?_,?_,rfl⟩
  ·rw [Nat.div_eq_of_lt (lt_nl a)];rfl
  rw [ha,wrap64 (by omega) (by omega)]
 intro (j:Nat) hki11
 have hki11:j<=nl a:=hki11
 refine And.symm ⟨λ c16=>?_,λ c16=>?_⟩
 ·try simp only [nrm] at c16
  refine ⟨?_,rfl⟩
  rw [show j=0 by omega,Nat.pow_zero,Nat.div_one]
 try simp only [nrm] at c16
 have hj:((((j:Nat):Int)-1).toNat)=j-1:=by omega
 have hj1:j-1+1=j:=by omega
 have hd:=div_succ a (j-1)
 rw [hj1] at hd
 have hr:a/BB^j<BB:=Nat.div_lt_of_lt_mul (Nat.lt_of_lt_of_le hlt (by rw [← Nat.pow_succ];exact Nat.pow_le_pow_right BB_pos (by omega)))
 refine ao (by omega) λ o17=>?_
 refine ao (by omega) λ o18=>?_
 refine ⟨j-1,by
  omega,by
  omega,?_⟩
 refine ⟨?_,?_,rfl⟩
 ·rw [hj,L_n,limb_step hr (dgt_lt _ _),← hd]
 rw [wrap_pred (by omega) (by omega)]
def l02Add_con:Con:={ ι:=Nat×Nat,pre:=λ i=>nl i.1<=1048576/\nl i.2<=1048576,args:=λ i=>[.one (.sl 3 [.int] (L i.1)),.one (.sl 3 [.int] (L i.2))],res:=λ i=>⟨false,[none],[.own 3 [.int] (L (i.1+i.2))]⟩ }
theorem l02Add_ok:l02Add_con.Ok Tryz.prog 185:=by
 refine fok (X:=⟨tt,[],[],55,[]⟩) mixed tt_ok (CTok.nil _) Tryz.func185 (λ (i:Nat×Nat)=>[(4,.mk 4 (Nat) (λ x1=>{ tm:=[(0,.one (.one (.ext 1))),(1,.one (.one (.ext 2))),(5,.one (.one (.ext 3))),(6,.one (.one (.im (Value.int .i64 ((carA i.1 i.2 x1:Nat):Int))))),(7,.one (.one (.im (Value.int .i64 ((x1:Nat):Int)))))],en:=[(1,.view 3 [.int] (L i.1) []),(2,.view 3 [.int] (L i.2) []),(3,.own 3 [.int] (rowsN (digN x1 (i.1+i.2))))] }) (λ x1=>x1<=max (nl i.1) (nl i.2)+1/\(x1=0∨BB^(x1-1)<=i.1+i.2)) (λ x1=>max (nl i.1) (nl i.2)+2-x1) (λ _=>[]))]) ?_
 rintro ⟨a,b⟩ hpre
 have hpre:nl a<=1048576/\nl b<=1048576:=hpre
 refine by_nf (q:=(∃ x1:Nat,(x1<=max (nl a) (nl b)+1/\(x1=0∨BB^(x1-1)<=a+b))/\((vI (0:Int)=vI (nI (carA a b x1)))/\(vI (0:Int)=vI (nI x1))/\(rf (L a))/\(rf (L b))/\(([]:List (List Dat))=(rowsN (digN x1 (a+b))))))/\∀ x1:Nat,(x1<=max (nl a) (nl b)+1/\(x1=0∨BB^(x1-1)<=a+b))->(((!(decide ((nI x1)<(nI ((L a).length)))))=true->(((!(decide ((nI x1)<(nI ((L b).length)))))=true->(((decide ((nI (carA a b x1))>(0:Int)))=true->(((decide ((nI x1)<(nI ((L a).length))))=true->((0<=(nI x1)/\(nI x1)<((L a).length:Int))/\((x1<(L a).length)/\(((decide ((nI x1)<(nI ((L b).length))))=true->((0<=(nI x1)/\(nI x1)<((L b).length:Int))/\((x1<(L b).length)/\(((1000000000:Int)≠0)/\(((rowsN (digN x1 (a+b))).length+([[Dat.int (Int.tmod (wR ((wR ((nI (carA a b x1))+((((L a).getD x1 []).getD 0 (.int 0))).n))+((((L b).getD x1 []).getD 0 (.int 0))).n)) (1000000000:Int))]]:List (List Dat)).length<=1073741824)/\(((1000000000:Int)≠0)/\(∃ y2:Nat,(y2<=max (nl a) (nl b)+1/\(y2=0∨BB^(y2-1)<=a+b))/\(max (nl a) (nl b)+2-y2<max (nl a) (nl b)+2-x1)/\((vI (wR (Int.tdiv (wR ((wR ((nI (carA a b x1))+((((L a).getD x1 []).getD 0 (.int 0))).n))+((((L b).getD x1 []).getD 0 (.int 0))).n)) (1000000000:Int)))=vI (nI (carA a b y2)))/\(vI (wR ((nI x1)+(1:Int)))=vI (nI y2))/\(rf (L a))/\(rf (L b))/\(((rowsN (digN x1 (a+b)))++([[Dat.int (Int.tmod (wR ((wR ((nI (carA a b x1))+((((L a).getD x1 []).getD 0 (.int 0))).n))+((((L b).getD x1 []).getD 0 (.int 0))).n)) (1000000000:Int))]]:List (List Dat)))=(rowsN (digN y2 (a+b))))))))))))/\((decide ((nI x1)<(nI ((L b).length))))=false->(((1000000000:Int)≠0)/\(((rowsN (digN x1 (a+b))).length+([[Dat.int (Int.tmod (wR ((nI (carA a b x1))+((((L a).getD x1 []).getD 0 (.int 0))).n)) (1000000000:Int))]]:List (List Dat)).length<=1073741824)/\(((1000000000:Int)≠0)/\(∃ y3:Nat,(y3<=max (nl a) (nl b)+1/\(y3=0∨BB^(y3-1)<=a+b))/\(max (nl a) (nl b)+2-y3<max (nl a) (nl b)+2-x1)/\((vI (wR (Int.tdiv (wR ((nI (carA a b x1))+((((L a).getD x1 []).getD 0 (.int 0))).n)) (1000000000:Int)))=vI (nI (carA a b y3)))/\(vI (wR ((nI x1)+(1:Int)))=vI (nI y3))/\(rf (L a))/\(rf (L b))/\(((rowsN (digN x1 (a+b)))++([[Dat.int (Int.tmod (wR ((nI (carA a b x1))+((((L a).getD x1 []).getD 0 (.int 0))).n)) (1000000000:Int))]]:List (List Dat)))=(rowsN (digN y3 (a+b))))))))))))))/\((decide ((nI x1)<(nI ((L a).length))))=false->(((decide ((nI x1)<(nI ((L b).length))))=true->((0<=(nI x1)/\(nI x1)<((L b).length:Int))/\((x1<(L b).length)/\(((1000000000:Int)≠0)/\(((rowsN (digN x1 (a+b))).length+([[Dat.int (Int.tmod (wR ((nI (carA a b x1))+((((L b).getD x1 []).getD 0 (.int 0))).n)) (1000000000:Int))]]:List (List Dat)).length<=1073741824)/\(((1000000000:Int)≠0)/\(∃ y4:Nat,(y4<=max (nl a) (nl b)+1/\(y4=0∨BB^(y4-1)<=a+b))/\(max (nl a) (nl b)+2-y4<max (nl a) (nl b)+2-x1)/\((vI (wR (Int.tdiv (wR ((nI (carA a b x1))+((((L b).getD x1 []).getD 0 (.int 0))).n)) (1000000000:Int)))=vI (nI (carA a b y4)))/\(vI (wR ((nI x1)+(1:Int)))=vI (nI y4))/\(rf (L a))/\(rf (L b))/\(((rowsN (digN x1 (a+b)))++([[Dat.int (Int.tmod (wR ((nI (carA a b x1))+((((L b).getD x1 []).getD 0 (.int 0))).n)) (1000000000:Int))]]:List (List Dat)))=(rowsN (digN y4 (a+b))))))))))))/\((decide ((nI x1)<(nI ((L b).length))))=false->(((1000000000:Int)≠0)/\(((rowsN (digN x1 (a+b))).length+([[Dat.int (Int.tmod (nI (carA a b x1)) (1000000000:Int))]]:List (List Dat)).length<=1073741824)/\(((1000000000:Int)≠0)/\(∃ y5:Nat,(y5<=max (nl a) (nl b)+1/\(y5=0∨BB^(y5-1)<=a+b))/\(max (nl a) (nl b)+2-y5<max (nl a) (nl b)+2-x1)/\((vI (wR (Int.tdiv (nI (carA a b x1)) (1000000000:Int)))=vI (nI (carA a b y5)))/\(vI (wR ((nI x1)+(1:Int)))=vI (nI y5))/\(rf (L a))/\(rf (L b))/\(((rowsN (digN x1 (a+b)))++([[Dat.int (Int.tmod (nI (carA a b x1)) (1000000000:Int))]]:List (List Dat)))=(rowsN (digN y5 (a+b))))))))))))))/\((decide ((nI (carA a b x1))>(0:Int)))=false->(((rowsN (digN x1 (a+b)))=L (a+b))))))/\((!(decide ((nI x1)<(nI ((L b).length)))))=false->(((decide ((nI x1)<(nI ((L a).length))))=true->((0<=(nI x1)/\(nI x1)<((L a).length:Int))/\((x1<(L a).length)/\(((decide ((nI x1)<(nI ((L b).length))))=true->((0<=(nI x1)/\(nI x1)<((L b).length:Int))/\((x1<(L b).length)/\(((1000000000:Int)≠0)/\(((rowsN (digN x1 (a+b))).length+([[Dat.int (Int.tmod (wR ((wR ((nI (carA a b x1))+((((L a).getD x1 []).getD 0 (.int 0))).n))+((((L b).getD x1 []).getD 0 (.int 0))).n)) (1000000000:Int))]]:List (List Dat)).length<=1073741824)/\(((1000000000:Int)≠0)/\(∃ y6:Nat,(y6<=max (nl a) (nl b)+1/\(y6=0∨BB^(y6-1)<=a+b))/\(max (nl a) (nl b)+2-y6<max (nl a) (nl b)+2-x1)/\((vI (wR (Int.tdiv (wR ((wR ((nI (carA a b x1))+((((L a).getD x1 []).getD 0 (.int 0))).n))+((((L b).getD x1 []).getD 0 (.int 0))).n)) (1000000000:Int)))=vI (nI (carA a b y6)))/\(vI (wR ((nI x1)+(1:Int)))=vI (nI y6))/\(rf (L a))/\(rf (L b))/\(((rowsN (digN x1 (a+b)))++([[Dat.int (Int.tmod (wR ((wR ((nI (carA a b x1))+((((L a).getD x1 []).getD 0 (.int 0))).n))+((((L b).getD x1 []).getD 0 (.int 0))).n)) (1000000000:Int))]]:List (List Dat)))=(rowsN (digN y6 (a+b))))))))))))/\((decide ((nI x1)<(nI ((L b).length))))=false->(((1000000000:Int)≠0)/\(((rowsN (digN x1 (a+b))).length+([[Dat.int (Int.tmod (wR ((nI (carA a b x1))+((((L a).getD x1 []).getD 0 (.int 0))).n)) (1000000000:Int))]]:List (List Dat)).length<=1073741824)/\(((1000000000:Int)≠0)/\(∃ y7:Nat,(y7<=max (nl a) (nl b)+1/\(y7=0∨BB^(y7-1)<=a+b))/\(max (nl a) (nl b)+2-y7<max (nl a) (nl b)+2-x1)/\((vI (wR (Int.tdiv (wR ((nI (carA a b x1))+((((L a).getD x1 []).getD 0 (.int 0))).n)) (1000000000:Int)))=vI (nI (carA a b y7)))/\(vI (wR ((nI x1)+(1:Int)))=vI (nI y7))/\(rf (L a))/\(rf (L b))/\(((rowsN (digN x1 (a+b)))++([[Dat.int (Int.tmod (wR ((nI (carA a b x1))+((((L a).getD x1 []).getD 0 (.int 0))).n)) (1000000000:Int))]]:List (List Dat)))=(rowsN (digN y7 (a+b))))))))))))))/\((decide ((nI x1)<(nI ((L a).length))))=false->(((decide ((nI x1)<(nI ((L b).length))))=true->((0<=(nI x1)/\(nI x1)<((L b).length:Int))/\((x1<(L b).length)/\(((1000000000:Int)≠0)/\(((rowsN (digN x1 (a+b))).length+([[Dat.int (Int.tmod (wR ((nI (carA a b x1))+((((L b).getD x1 []).getD 0 (.int 0))).n)) (1000000000:Int))]]:List (List Dat)).length<=1073741824)/\(((1000000000:Int)≠0)/\(∃ y8:Nat,(y8<=max (nl a) (nl b)+1/\(y8=0∨BB^(y8-1)<=a+b))/\(max (nl a) (nl b)+2-y8<max (nl a) (nl b)+2-x1)/\((vI (wR (Int.tdiv (wR ((nI (carA a b x1))+((((L b).getD x1 []).getD 0 (.int 0))).n)) (1000000000:Int)))=vI (nI (carA a b y8)))/\(vI (wR ((nI x1)+(1:Int)))=vI (nI y8))/\(rf (L a))/\(rf (L b))/\(((rowsN (digN x1 (a+b)))++([[Dat.int (Int.tmod (wR ((nI (carA a b x1))+((((L b).getD x1 []).getD 0 (.int 0))).n)) (1000000000:Int))]]:List (List Dat)))=(rowsN (digN y8 (a+b))))))))))))/\((decide ((nI x1)<(nI ((L b).length))))=false->(((1000000000:Int)≠0)/\(((rowsN (digN x1 (a+b))).length+([[Dat.int (Int.tmod (nI (carA a b x1)) (1000000000:Int))]]:List (List Dat)).length<=1073741824)/\(((1000000000:Int)≠0)/\(∃ y9:Nat,(y9<=max (nl a) (nl b)+1/\(y9=0∨BB^(y9-1)<=a+b))/\(max (nl a) (nl b)+2-y9<max (nl a) (nl b)+2-x1)/\((vI (wR (Int.tdiv (nI (carA a b x1)) (1000000000:Int)))=vI (nI (carA a b y9)))/\(vI (wR ((nI x1)+(1:Int)))=vI (nI y9))/\(rf (L a))/\(rf (L b))/\(((rowsN (digN x1 (a+b)))++([[Dat.int (Int.tmod (nI (carA a b x1)) (1000000000:Int))]]:List (List Dat)))=(rowsN (digN y9 (a+b))))))))))))))))/\((!(decide ((nI x1)<(nI ((L a).length)))))=false->(((decide ((nI x1)<(nI ((L a).length))))=true->((0<=(nI x1)/\(nI x1)<((L a).length:Int))/\((x1<(L a).length)/\(((decide ((nI x1)<(nI ((L b).length))))=true->((0<=(nI x1)/\(nI x1)<((L b).length:Int))/\((x1<(L b).length)/\(((1000000000:Int)≠0)/\(((rowsN (digN x1 (a+b))).length+([[Dat.int (Int.tmod (wR ((wR ((nI (carA a b x1))+((((L a).getD x1 []).getD 0 (.int 0))).n))+((((L b).getD x1 []).getD 0 (.int 0))).n)) (1000000000:Int))]]:List (List Dat)).length<=1073741824)/\(((1000000000:Int)≠0)/\(∃ y10:Nat,(y10<=max (nl a) (nl b)+1/\(y10=0∨BB^(y10-1)<=a+b))/\(max (nl a) (nl b)+2-y10<max (nl a) (nl b)+2-x1)/\((vI (wR (Int.tdiv (wR ((wR ((nI (carA a b x1))+((((L a).getD x1 []).getD 0 (.int 0))).n))+((((L b).getD x1 []).getD 0 (.int 0))).n)) (1000000000:Int)))=vI (nI (carA a b y10)))/\(vI (wR ((nI x1)+(1:Int)))=vI (nI y10))/\(rf (L a))/\(rf (L b))/\(((rowsN (digN x1 (a+b)))++([[Dat.int (Int.tmod (wR ((wR ((nI (carA a b x1))+((((L a).getD x1 []).getD 0 (.int 0))).n))+((((L b).getD x1 []).getD 0 (.int 0))).n)) (1000000000:Int))]]:List (List Dat)))=(rowsN (digN y10 (a+b))))))))))))/\((decide ((nI x1)<(nI ((L b).length))))=false->(((1000000000:Int)≠0)/\(((rowsN (digN x1 (a+b))).length+([[Dat.int (Int.tmod (wR ((nI (carA a b x1))+((((L a).getD x1 []).getD 0 (.int 0))).n)) (1000000000:Int))]]:List (List Dat)).length<=1073741824)/\(((1000000000:Int)≠0)/\(∃ y11:Nat,(y11<=max (nl a) (nl b)+1/\(y11=0∨BB^(y11-1)<=a+b))/\(max (nl a) (nl b)+2-y11<max (nl a) (nl b)+2-x1)/\((vI (wR (Int.tdiv (wR ((nI (carA a b x1))+((((L a).getD x1 []).getD 0 (.int 0))).n)) (1000000000:Int)))=vI (nI (carA a b y11)))/\(vI (wR ((nI x1)+(1:Int)))=vI (nI y11))/\(rf (L a))/\(rf (L b))/\(((rowsN (digN x1 (a+b)))++([[Dat.int (Int.tmod (wR ((nI (carA a b x1))+((((L a).getD x1 []).getD 0 (.int 0))).n)) (1000000000:Int))]]:List (List Dat)))=(rowsN (digN y11 (a+b))))))))))))))/\((decide ((nI x1)<(nI ((L a).length))))=false->(((decide ((nI x1)<(nI ((L b).length))))=true->((0<=(nI x1)/\(nI x1)<((L b).length:Int))/\((x1<(L b).length)/\(((1000000000:Int)≠0)/\(((rowsN (digN x1 (a+b))).length+([[Dat.int (Int.tmod (wR ((nI (carA a b x1))+((((L b).getD x1 []).getD 0 (.int 0))).n)) (1000000000:Int))]]:List (List Dat)).length<=1073741824)/\(((1000000000:Int)≠0)/\(∃ y12:Nat,(y12<=max (nl a) (nl b)+1/\(y12=0∨BB^(y12-1)<=a+b))/\(max (nl a) (nl b)+2-y12<max (nl a) (nl b)+2-x1)/\((vI (wR (Int.tdiv (wR ((nI (carA a b x1))+((((L b).getD x1 []).getD 0 (.int 0))).n)) (1000000000:Int)))=vI (nI (carA a b y12)))/\(vI (wR ((nI x1)+(1:Int)))=vI (nI y12))/\(rf (L a))/\(rf (L b))/\(((rowsN (digN x1 (a+b)))++([[Dat.int (Int.tmod (wR ((nI (carA a b x1))+((((L b).getD x1 []).getD 0 (.int 0))).n)) (1000000000:Int))]]:List (List Dat)))=(rowsN (digN y12 (a+b))))))))))))/\((decide ((nI x1)<(nI ((L b).length))))=false->(((1000000000:Int)≠0)/\(((rowsN (digN x1 (a+b))).length+([[Dat.int (Int.tmod (nI (carA a b x1)) (1000000000:Int))]]:List (List Dat)).length<=1073741824)/\(((1000000000:Int)≠0)/\(∃ y13:Nat,(y13<=max (nl a) (nl b)+1/\(y13=0∨BB^(y13-1)<=a+b))/\(max (nl a) (nl b)+2-y13<max (nl a) (nl b)+2-x1)/\((vI (wR (Int.tdiv (nI (carA a b x1)) (1000000000:Int)))=vI (nI (carA a b y13)))/\(vI (wR ((nI x1)+(1:Int)))=vI (nI y13))/\(rf (L a))/\(rf (L b))/\(((rowsN (digN x1 (a+b)))++([[Dat.int (Int.tmod (nI (carA a b x1)) (1000000000:Int))]]:List (List Dat)))=(rowsN (digN y13 (a+b)))))))))))))))) (by kernel_rfl) ?_
 delta vI wR nI
 have ha:=L_len a
 have hb:=L_len b
 refine ⟨⟨0,by
  exact ⟨Nat.zero_le _,.inl rfl⟩,?_⟩,?_⟩
 ·refine ⟨?_,?_,rfl,rfl,?_⟩
  ·rw [carA_zero];rfl
  ·rfl
  rfl
 intro (i:Nat) hki1
 have hki1:i<=max (nl a) (nl b)+1/\(i=0∨BB^(i-1)<=a+b):=hki1
 have da:=dgt_i a i
 have db:=dgt_i b i
 have hc:=carA_le a b i
 have za:nl a<=i->dgt a i=0:=λ h=>dgt_zero (lt_pow h)
 have zb:nl b<=i->dgt b i=0:=λ h=>dgt_zero (lt_pow h)
 have n1:IntKind.i64.wrap (IntKind.i64.wrap (((carA a b i:Nat):Int)+((((L a).getD i []).getD 0 (.int 0))).n)+((((L b).getD i []).getD 0 (.int 0))).n)=((dgt a i+dgt b i+carA a b i:Nat):Int):=by rw [L_n,L_n,wrap64 (x:=((carA a b i:Nat):Int)+_) (by omega) (by omega),wrap64 (by omega) (by omega)];omega
 have n2:nl b<=i->IntKind.i64.wrap (((carA a b i:Nat):Int)+((((L a).getD i []).getD 0 (.int 0))).n)=((dgt a i+dgt b i+carA a b i:Nat):Int):=λ h=>by rw [L_n,zb h,wrap64 (by omega) (by omega)];omega
 have n3:nl a<=i->IntKind.i64.wrap (((carA a b i:Nat):Int)+((((L b).getD i []).getD 0 (.int 0))).n)=((dgt a i+dgt b i+carA a b i:Nat):Int):=λ h=>by rw [L_n,za h,wrap64 (by omega) (by omega)];omega
 have n4:nl a<=i->nl b<=i->((carA a b i:Nat):Int)=((dgt a i+dgt b i+carA a b i:Nat):Int):=λ h h2=>by rw [za h,zb h2];omega
 have h1:=addStep a b i
 have hl:(rowsN (digN i (a+b))).length=i:=by rw [rowsN_len,digN_len]
 refine And.symm ⟨λ c8=>?_,λ c8=>?_⟩
 ·try simp only [nrm] at c8
  refine And.symm ⟨λ c118=>?_,λ c118=>?_⟩
  ·try simp only [nrm] at c118
   refine And.symm ⟨λ c146=>?_,λ c146=>?_⟩
   ·try simp only [nrm] at c146
    refine ao (by omega) λ o160=>?_
    refine ao (by omega) λ o161=>?_
    refine ao (by omega) λ o162=>?_
    refine ⟨i+1,by
     have hz:i<nl a∨i<nl b∨0<carA a b i:=by omega
     exact ⟨by (rcases hz with h|h|h) <;> first|omega|(have:=carA_idx h;omega),.inr (add_step_le hz)⟩,by
     omega,?_⟩
    refine ⟨?_,?_,rfl,rfl,?_⟩
    ·rw [n4 (by omega) (by omega),tdivB,h1.2,wrapN (by have:=carA_le a b (i+1);omega)]
    ·exact vint (wrap64 (by omega) (by omega))
    rw [n4 (by omega) (by omega),tmodB,h1.1,rowsN_snoc,← digN_succ]
   try simp only [nrm] at c146
   refine ao (by omega) λ o147=>?_
   refine ao (by omega) λ o148=>?_
   refine ao (by omega) λ o149=>?_
   refine ao (by omega) λ o150=>?_
   refine ao (by omega) λ o151=>?_
   refine ⟨i+1,by
    have hz:i<nl a∨i<nl b∨0<carA a b i:=by omega
    exact ⟨by (rcases hz with h|h|h) <;> first|omega|(have:=carA_idx h;omega),.inr (add_step_le hz)⟩,by
    omega,?_⟩
   refine ⟨?_,?_,rfl,rfl,?_⟩
   ·rw [n3 (by omega),tdivB,h1.2,wrapN (by have:=carA_le a b (i+1);omega)]
   ·exact vint (wrap64 (by omega) (by omega))
   rw [n3 (by omega),tmodB,h1.1,rowsN_snoc,← digN_succ]
  try simp only [nrm] at c118
  refine ao (by omega) λ o119=>?_
  refine ao (by omega) λ o120=>?_
  refine And.symm ⟨λ c121=>?_,λ c121=>?_⟩
  ·try simp only [nrm] at c121
   refine ao (by omega) λ o135=>?_
   refine ao (by simp only [hl,List.length_cons,List.length_nil];omega) λ o136=>?_
   refine ao (by omega) λ o137=>?_
   refine ⟨i+1,by
    have hz:i<nl a∨i<nl b∨0<carA a b i:=by omega
    exact ⟨by (rcases hz with h|h|h) <;> first|omega|(have:=carA_idx h;omega),.inr (add_step_le hz)⟩,by
    omega,?_⟩
   refine ⟨?_,?_,rfl,rfl,?_⟩
   ·rw [n2 (by omega),tdivB,h1.2,wrapN (by have:=carA_le a b (i+1);omega)]
   ·exact vint (wrap64 (by omega) (by omega))
   rw [n2 (by omega),tmodB,h1.1,rowsN_snoc,← digN_succ]
  try simp only [nrm] at c121
  refine ao (by omega) λ o122=>?_
  refine ao (by omega) λ o123=>?_
  refine ao (by omega) λ o124=>?_
  refine ao (by simp only [hl,List.length_cons,List.length_nil];omega) λ o125=>?_
  refine ao (by omega) λ o126=>?_
  refine ⟨i+1,by
   have hz:i<nl a∨i<nl b∨0<carA a b i:=by omega
   exact ⟨by (rcases hz with h|h|h) <;> first|omega|(have:=carA_idx h;omega),.inr (add_step_le hz)⟩,by
   omega,?_⟩
  refine ⟨?_,?_,rfl,rfl,?_⟩
  ·rw [n1,tdivB,h1.2,wrapN (by have:=carA_le a b (i+1);omega)]
  ·exact vint (wrap64 (by omega) (by omega))
  rw [n1,tmodB,h1.1,rowsN_snoc,← digN_succ]
 try simp only [nrm] at c8
 refine And.symm ⟨λ c9=>?_,λ c9=>?_⟩
 ·try simp only [nrm] at c9
  refine And.symm ⟨λ c65=>?_,λ c65=>?_⟩
  ·try simp only [nrm] at c65
   refine And.symm ⟨λ c93=>?_,λ c93=>?_⟩
   ·try simp only [nrm] at c93
    refine ao (by omega) λ o107=>?_
    refine ao (by omega) λ o108=>?_
    refine ao (by omega) λ o109=>?_
    refine ⟨i+1,by
     have hz:i<nl a∨i<nl b∨0<carA a b i:=by omega
     exact ⟨by (rcases hz with h|h|h) <;> first|omega|(have:=carA_idx h;omega),.inr (add_step_le hz)⟩,by
     omega,?_⟩
    refine ⟨?_,?_,rfl,rfl,?_⟩
    ·rw [n4 (by omega) (by omega),tdivB,h1.2,wrapN (by have:=carA_le a b (i+1);omega)]
    ·exact vint (wrap64 (by omega) (by omega))
    rw [n4 (by omega) (by omega),tmodB,h1.1,rowsN_snoc,← digN_succ]
   try simp only [nrm] at c93
   refine ao (by omega) λ o94=>?_
   refine ao (by omega) λ o95=>?_
   refine ao (by omega) λ o96=>?_
   refine ao (by simp only [hl,List.length_cons,List.length_nil];omega) λ o97=>?_
   refine ao (by omega) λ o98=>?_
   refine ⟨i+1,by
    have hz:i<nl a∨i<nl b∨0<carA a b i:=by omega
    exact ⟨by (rcases hz with h|h|h) <;> first|omega|(have:=carA_idx h;omega),.inr (add_step_le hz)⟩,by
    omega,?_⟩
   refine ⟨?_,?_,rfl,rfl,?_⟩
   ·rw [n3 (by omega),tdivB,h1.2,wrapN (by have:=carA_le a b (i+1);omega)]
   ·exact vint (wrap64 (by omega) (by omega))
   rw [n3 (by omega),tmodB,h1.1,rowsN_snoc,← digN_succ]
  try simp only [nrm] at c65
  refine ao (by omega) λ o66=>?_
  refine ao (by omega) λ o67=>?_
  refine And.symm ⟨λ c68=>?_,λ c68=>?_⟩
  ·try simp only [nrm] at c68
   refine ao (by omega) λ o82=>?_
   refine ao (by omega) λ o83=>?_
   refine ao (by omega) λ o84=>?_
   refine ⟨i+1,by
    have hz:i<nl a∨i<nl b∨0<carA a b i:=by omega
    exact ⟨by (rcases hz with h|h|h) <;> first|omega|(have:=carA_idx h;omega),.inr (add_step_le hz)⟩,by
    omega,?_⟩
   refine ⟨?_,?_,rfl,rfl,?_⟩
   ·rw [n2 (by omega),tdivB,h1.2,wrapN (by have:=carA_le a b (i+1);omega)]
   ·exact vint (wrap64 (by omega) (by omega))
   rw [n2 (by omega),tmodB,h1.1,rowsN_snoc,← digN_succ]
  try simp only [nrm] at c68
  refine ao (by omega) λ o69=>?_
  refine ao (by omega) λ o70=>?_
  refine ao (by omega) λ o71=>?_
  refine ao (by omega) λ o72=>?_
  refine ao (by omega) λ o73=>?_
  refine ⟨i+1,by
   have hz:i<nl a∨i<nl b∨0<carA a b i:=by omega
   exact ⟨by (rcases hz with h|h|h) <;> first|omega|(have:=carA_idx h;omega),.inr (add_step_le hz)⟩,by
   omega,?_⟩
  refine ⟨?_,?_,rfl,rfl,?_⟩
  ·rw [n1,tdivB,h1.2,wrapN (by have:=carA_le a b (i+1);omega)]
  ·exact vint (wrap64 (by omega) (by omega))
  rw [n1,tmodB,h1.1,rowsN_snoc,← digN_succ]
 try simp only [nrm] at c9
 refine And.symm ⟨λ c10=>?_,λ c10=>?_⟩
 ·try simp only [nrm] at c10
  exact add_end (by omega) (by omega) (by omega) hki1.2
 try simp only [nrm] at c10
 refine And.symm ⟨λ c11=>?_,λ c11=>?_⟩
 ·try simp only [nrm] at c11
  refine And.symm ⟨λ c39=>?_,λ c39=>?_⟩
  ·try simp only [nrm] at c39
   refine ao (by omega) λ o53=>?_
   refine ao (by simp only [hl,List.length_cons,List.length_nil];omega) λ o54=>?_
   refine ao (by omega) λ o55=>?_
   refine ⟨i+1,by
    have hz:i<nl a∨i<nl b∨0<carA a b i:=by omega
    exact ⟨by (rcases hz with h|h|h) <;> first|omega|(have:=carA_idx h;omega),.inr (add_step_le hz)⟩,by
    omega,?_⟩
   refine ⟨?_,?_,rfl,rfl,?_⟩
   ·rw [n4 (by omega) (by omega),tdivB,h1.2,wrapN (by have:=carA_le a b (i+1);omega)]
   ·exact vint (wrap64 (by omega) (by omega))
   rw [n4 (by omega) (by omega),tmodB,h1.1,rowsN_snoc,← digN_succ]
  try simp only [nrm] at c39
  refine ao (by omega) λ o40=>?_
  refine ao (by omega) λ o41=>?_
  refine ao (by omega) λ o42=>?_
  refine ao (by omega) λ o43=>?_
  refine ao (by omega) λ o44=>?_
  refine ⟨i+1,by
   have hz:i<nl a∨i<nl b∨0<carA a b i:=by omega
   exact ⟨by (rcases hz with h|h|h) <;> first|omega|(have:=carA_idx h;omega),.inr (add_step_le hz)⟩,by
   omega,?_⟩
  refine ⟨?_,?_,rfl,rfl,?_⟩
  ·rw [n3 (by omega),tdivB,h1.2,wrapN (by have:=carA_le a b (i+1);omega)]
  ·exact vint (wrap64 (by omega) (by omega))
  rw [n3 (by omega),tmodB,h1.1,rowsN_snoc,← digN_succ]
 try simp only [nrm] at c11
 refine ao (by omega) λ o12=>?_
 refine ao (by omega) λ o13=>?_
 refine And.symm ⟨λ c14=>?_,λ c14=>?_⟩
 ·try simp only [nrm] at c14
  refine ao (by omega) λ o28=>?_
  refine ao (by omega) λ o29=>?_
  refine ao (by omega) λ o30=>?_
  refine ⟨i+1,by
   have hz:i<nl a∨i<nl b∨0<carA a b i:=by omega
   exact ⟨by (rcases hz with h|h|h) <;> first|omega|(have:=carA_idx h;omega),.inr (add_step_le hz)⟩,by
   omega,?_⟩
  refine ⟨?_,?_,rfl,rfl,?_⟩
  ·rw [n2 (by omega),tdivB,h1.2,wrapN (by have:=carA_le a b (i+1);omega)]
  ·exact vint (wrap64 (by omega) (by omega))
  rw [n2 (by omega),tmodB,h1.1,rowsN_snoc,← digN_succ]
 try simp only [nrm] at c14
 refine ao (by omega) λ o15=>?_
 refine ao (by omega) λ o16=>?_
 refine ao (by omega) λ o17=>?_
 refine ao (by omega) λ o18=>?_
 refine ao (by omega) λ o19=>?_
 refine ⟨i+1,by
  have hz:i<nl a∨i<nl b∨0<carA a b i:=by omega
  exact ⟨by (rcases hz with h|h|h) <;> first|omega|(have:=carA_idx h;omega),.inr (add_step_le hz)⟩,by
  omega,?_⟩
 refine ⟨?_,?_,rfl,rfl,?_⟩
 ·rw [n1,tdivB,h1.2,wrapN (by have:=carA_le a b (i+1);omega)]
 ·exact vint (wrap64 (by omega) (by omega))
 rw [n1,tmodB,h1.1,rowsN_snoc,← digN_succ]
def l02Sub_con:Con:={ ι:=Nat×Nat,pre:=λ i=>nl i.1<=1048576/\nl i.2<=1048576/\i.2<=i.1,args:=λ i=>[.one (.sl 3 [.int] (L i.1)),.one (.sl 3 [.int] (L i.2))],res:=λ i=>⟨false,[none],[.view 3 [.int] (L (i.1-i.2))]⟩ }
theorem l02Sub_ok:l02Sub_con.Ok Tryz.prog 172:=by
 refine fok (X:=⟨tt,[(170,l02Trim_con)],[],42,[]⟩) mixed tt_ok (CTok.cons l02Trim_ok (CTok.nil _)) Tryz.func172 (λ (i:Nat×Nat)=>[(4,.mk 4 (Nat) (λ x1=>{ tm:=[(0,.one (.one (.ext 1))),(1,.one (.one (.ext 2))),(11,.one (.one (.im (Value.int .i64 (((L i.1).length:Nat):Int))))),(12,.one (.one (.im (Value.int .i64 ((x1:Nat):Int))))),(5,.one (.one (.ext 3))),(6,.one (.one (.im (Value.int .i64 ((brw i.1 i.2 x1:Nat):Int)))))],en:=[(1,.view 3 [.int] (L i.1) []),(2,.view 3 [.int] (L i.2) []),(3,.own 3 [.int] (rowsN (digN x1 (i.1-i.2))))] }) (λ x1=>x1<=nl i.1) (λ x1=>nl i.1-x1) (λ _=>[]))]) ?_
 rintro ⟨a,b⟩ hpre
 have hpre:nl a<=1048576/\nl b<=1048576/\b<=a:=hpre
 refine by_nf (q:=(∃ x1:Nat,(x1<=nl a)/\((rf (vI (nI ((L a).length))))/\(vI (0:Int)=vI (nI x1))/\(vI (0:Int)=vI (nI (brw a b x1)))/\(rf (L a))/\(rf (L b))/\(([]:List (List Dat))=(rowsN (digN x1 (a-b))))))/\∀ x1:Nat,(x1<=nl a)->(((decide ((nI x1)<(nI ((L a).length))))=true->((0<=(nI x1)/\(nI x1)<((L a).length:Int))/\((x1<(L a).length)/\(((decide ((nI x1)<(nI ((L b).length))))=true->((0<=(nI x1)/\(nI x1)<((L b).length:Int))/\((x1<(L b).length)/\(((decide ((wR ((wR (((((L a).getD x1 []).getD 0 (.int 0))).n-(nI (brw a b x1))))-((((L b).getD x1 []).getD 0 (.int 0))).n))<(0:Int)))=true->(((rowsN (digN x1 (a-b))).length+([[Dat.int (wR ((wR ((wR (((((L a).getD x1 []).getD 0 (.int 0))).n-(nI (brw a b x1))))-((((L b).getD x1 []).getD 0 (.int 0))).n))+(1000000000:Int)))]]:List (List Dat)).length<=1073741824)/\(∃ y2:Nat,(y2<=nl a)/\(nl a-y2<nl a-x1)/\((rf (vI (nI ((L a).length))))/\(vI (wR ((nI x1)+(1:Int)))=vI (nI y2))/\(vI (1:Int)=vI (nI (brw a b y2)))/\(rf (L a))/\(rf (L b))/\(((rowsN (digN x1 (a-b)))++([[Dat.int (wR ((wR ((wR (((((L a).getD x1 []).getD 0 (.int 0))).n-(nI (brw a b x1))))-((((L b).getD x1 []).getD 0 (.int 0))).n))+(1000000000:Int)))]]:List (List Dat)))=(rowsN (digN y2 (a-b))))))))/\((decide ((wR ((wR (((((L a).getD x1 []).getD 0 (.int 0))).n-(nI (brw a b x1))))-((((L b).getD x1 []).getD 0 (.int 0))).n))<(0:Int)))=false->(((rowsN (digN x1 (a-b))).length+([[Dat.int (wR ((wR (((((L a).getD x1 []).getD 0 (.int 0))).n-(nI (brw a b x1))))-((((L b).getD x1 []).getD 0 (.int 0))).n))]]:List (List Dat)).length<=1073741824)/\(∃ y3:Nat,(y3<=nl a)/\(nl a-y3<nl a-x1)/\((rf (vI (nI ((L a).length))))/\(vI (wR ((nI x1)+(1:Int)))=vI (nI y3))/\(vI (0:Int)=vI (nI (brw a b y3)))/\(rf (L a))/\(rf (L b))/\(((rowsN (digN x1 (a-b)))++([[Dat.int (wR ((wR (((((L a).getD x1 []).getD 0 (.int 0))).n-(nI (brw a b x1))))-((((L b).getD x1 []).getD 0 (.int 0))).n))]]:List (List Dat)))=(rowsN (digN y3 (a-b))))))))))))/\((decide ((nI x1)<(nI ((L b).length))))=false->(((decide ((wR (((((L a).getD x1 []).getD 0 (.int 0))).n-(nI (brw a b x1))))<(0:Int)))=true->(((rowsN (digN x1 (a-b))).length+([[Dat.int (wR ((wR (((((L a).getD x1 []).getD 0 (.int 0))).n-(nI (brw a b x1))))+(1000000000:Int)))]]:List (List Dat)).length<=1073741824)/\(∃ y4:Nat,(y4<=nl a)/\(nl a-y4<nl a-x1)/\((rf (vI (nI ((L a).length))))/\(vI (wR ((nI x1)+(1:Int)))=vI (nI y4))/\(vI (1:Int)=vI (nI (brw a b y4)))/\(rf (L a))/\(rf (L b))/\(((rowsN (digN x1 (a-b)))++([[Dat.int (wR ((wR (((((L a).getD x1 []).getD 0 (.int 0))).n-(nI (brw a b x1))))+(1000000000:Int)))]]:List (List Dat)))=(rowsN (digN y4 (a-b))))))))/\((decide ((wR (((((L a).getD x1 []).getD 0 (.int 0))).n-(nI (brw a b x1))))<(0:Int)))=false->(((rowsN (digN x1 (a-b))).length+([[Dat.int (wR (((((L a).getD x1 []).getD 0 (.int 0))).n-(nI (brw a b x1))))]]:List (List Dat)).length<=1073741824)/\(∃ y5:Nat,(y5<=nl a)/\(nl a-y5<nl a-x1)/\((rf (vI (nI ((L a).length))))/\(vI (wR ((nI x1)+(1:Int)))=vI (nI y5))/\(vI (0:Int)=vI (nI (brw a b y5)))/\(rf (L a))/\(rf (L b))/\(((rowsN (digN x1 (a-b)))++([[Dat.int (wR (((((L a).getD x1 []).getD 0 (.int 0))).n-(nI (brw a b x1))))]]:List (List Dat)))=(rowsN (digN y5 (a-b))))))))))))))/\((decide ((nI x1)<(nI ((L a).length))))=false->(∃ i1:(List Nat)×Nat,[DA.one (cS (rowsN (digN x1 (a-b))))]=l02Trim_con.args i1/\l02Trim_con.pre i1/\((L i1.2=L (a-b))))))) (by kernel_rfl) ?_
 delta vI wR nI
 have ha:=L_len a
 have hb:=L_len b
 refine ⟨⟨0,by
  omega,?_⟩,?_⟩
 ·refine ⟨rfl,?_,?_,rfl,rfl,?_⟩
  ·rfl
  ·rw [brw_zero];rfl
  rfl
 intro (i:Nat) hki1
 have hki1:i<=nl a:=hki1
 have da:=dgt_i a i
 have db:=dgt_i b i
 have hc:=brw_le a b i
 have h1:=subStep hpre.2.2 i
 have zb:nl b<=i->dgt b i=0:=λ h=>dgt_zero (lt_pow h)
 have n1:IntKind.i64.wrap (IntKind.i64.wrap (((((L a).getD i []).getD 0 (.int 0))).n-((brw a b i:Nat):Int))-((((L b).getD i []).getD 0 (.int 0))).n)=(dgt a i:Int)-dgt b i-brw a b i:=by rw [L_n,L_n,wrap64 (x:=(dgt a i:Int)-_) (by omega) (by omega),wrap64 (by omega) (by omega)];omega
 have n2:nl b<=i->IntKind.i64.wrap (((((L a).getD i []).getD 0 (.int 0))).n-((brw a b i:Nat):Int))=(dgt a i:Int)-dgt b i-brw a b i:=λ h=>by rw [L_n,zb h,wrap64 (by omega) (by omega)];omega
 have hl:(rowsN (digN i (a-b))).length=i:=by rw [rowsN_len,digN_len]
 refine And.symm ⟨λ c9=>?_,λ c9=>?_⟩
 ·try simp only [nrm] at c9
  refine ⟨(digN i (a-b),a-b),by
   rfl,by
   exact ⟨by rw [digN_len];omega,digN_lt _ _,by rw [limbs_digN,mod_nl (by have:=nl_mono (Nat.sub_le a b);omega)]⟩,?_⟩
  exact rfl
 try simp only [nrm] at c9
 refine ao (by omega) λ o10=>?_
 refine ao (by omega) λ o11=>?_
 refine And.symm ⟨λ c12=>?_,λ c12=>?_⟩
 ·try simp only [nrm] at c12
  refine And.symm ⟨λ c36=>?_,λ c36=>?_⟩
  ·try simp only [nrm] at c36
   rw [n2 (by omega)] at c36
   have hq:=h1.2 c36
   refine ao (by simp only [hl,List.length_cons,List.length_nil];omega) λ o47=>?_
   refine ⟨i+1,by
    omega,by
    omega,?_⟩
   refine ⟨rfl,?_,?_,rfl,rfl,?_⟩
   ·exact vint (wrap64 (by omega) (by omega))
   ·rw [hq.2];rfl
   rw [n2 (by omega),hq.1,rowsN_snoc,← digN_succ]
  try simp only [nrm] at c36
  rw [n2 (by omega)] at c36
  have hq:=h1.1 c36
  have hw:IntKind.i64.wrap ((dgt a i:Int)-dgt b i-brw a b i+(1000000000:Int))=(dgt a i:Int)-dgt b i-brw a b i+1000000000:=by rw [wrap64 (by omega) (by omega)]
  refine ao (by simp only [hl,List.length_cons,List.length_nil];omega) λ o37=>?_
  refine ⟨i+1,by
   omega,by
   omega,?_⟩
  refine ⟨rfl,?_,?_,rfl,rfl,?_⟩
  ·exact vint (wrap64 (by omega) (by omega))
  ·rw [hq.2];rfl
  rw [n2 (by omega),hw,hq.1,rowsN_snoc,← digN_succ]
 try simp only [nrm] at c12
 refine ao (by omega) λ o13=>?_
 refine ao (by omega) λ o14=>?_
 refine And.symm ⟨λ c15=>?_,λ c15=>?_⟩
 ·try dsimp only at c15
  try simp only [nrm] at c15
  rw [n1] at c15
  have hq:=h1.2 c15
  refine ao (by simp only [hl,List.length_cons,List.length_nil];omega) λ o26=>?_
  refine ⟨i+1,by
   omega,by
   omega,?_⟩
  refine ⟨rfl,?_,?_,rfl,rfl,?_⟩
  ·exact vint (wrap64 (by omega) (by omega))
  ·rw [hq.2];rfl
  rw [n1,hq.1,rowsN_snoc,← digN_succ]
 try dsimp only at c15
 try simp only [nrm] at c15
 rw [n1] at c15
 have hq:=h1.1 c15
 have hw:IntKind.i64.wrap ((dgt a i:Int)-dgt b i-brw a b i+(1000000000:Int))=(dgt a i:Int)-dgt b i-brw a b i+1000000000:=by rw [wrap64 (by omega) (by omega)]
 refine ao (by simp only [hl,List.length_cons,List.length_nil];omega) λ o16=>?_
 refine ⟨i+1,by
  omega,by
  omega,?_⟩
 refine ⟨rfl,?_,?_,rfl,rfl,?_⟩
 ·exact vint (wrap64 (by omega) (by omega))
 ·rw [hq.2];rfl
 rw [n1,hw,hq.1,rowsN_snoc,← digN_succ]
def l02Mul_con:Con:={ ι:=Nat×Nat,pre:=λ i=>nl i.1<=524288/\nl i.2<=524288,args:=λ i=>[.one (.sl 3 [.int] (L i.1)),.one (.sl 3 [.int] (L i.2))],res:=λ i=>⟨false,[none],[.view 3 [.int] (L (i.1*i.2))]⟩ }
theorem l02Mul_ok:l02Mul_con.Ok Tryz.prog 142:=by
 refine fok (X:=⟨tt,[(170,l02Trim_con)],[],72,[]⟩) mixed tt_ok (CTok.cons l02Trim_ok (CTok.nil _)) Tryz.func142 (λ (i:Nat×Nat)=>[(5,.mk 4 (Nat) (λ x1=>{ tm:=[(0,.one (.one (.ext 1))),(1,.one (.one (.ext 2))),(26,.one (.one (.ext 1))),(27,.one (.one (.im (Value.int .i64 (((L i.1).length:Nat):Int))))),(28,.one (.one (.im (Value.int .i64 ((x1:Nat):Int))))),(5,.one (.one (.ext 3)))],en:=[(1,.view 3 [.int] (L i.1) []),(2,.view 3 [.int] (L i.2) []),(3,.own 3 [.int] (rowsN (digN (nl i.1+nl i.2) (i.1%BB^x1*i.2))))] }) (λ x1=>x1<=nl i.1) (λ x1=>nl i.1-x1) (λ x1=>[(9,.mk 4 (Nat×Nat×Nat) (λ x2=>{ tm:=[(0,.one (.one (.ext 1))),(1,.one (.one (.ext 2))),(26,.one (.one (.ext 1))),(27,.one (.one (.im (Value.int .i64 (((L i.1).length:Nat):Int))))),(28,.one (.one (.im (Value.int .i64 ((x1:Nat):Int))))),(33,.one (.one (.ext 2))),(34,.one (.one (.im (Value.int .i64 (((L i.2).length:Nat):Int))))),(6,.one (.one (.im (Value.int .i64 ((x1:Nat):Int))))),(7,.one (.one (.im (Value.int .i64 ((((L i.1).getD x1 []).getD 0 (.int 0))).n)))),(5,.one (.one (.ext 3))),(8,.one (.one (.im (Value.int .i64 ((x2.2.2:Nat):Int))))),(35,.one (.one (.im (Value.int .i64 ((x2.1:Nat):Int)))))],en:=[(1,.view 3 [.int] (L i.1) []),(2,.view 3 [.int] (L i.2) []),(3,.own 3 [.int] (rowsN (digN (nl i.1+nl i.2) x2.2.1)))] }) (λ x2=>x2.2.1+x2.2.2*BB^(x1+x2.1)=i.1%BB^x1*i.2+dgt i.1 x1*BB^x1*(i.2%BB^x2.1)/\x2.2.2<BB/\x2.1<=nl i.2/\x2.2.1<BB^(x1+nl i.2)) (λ x2=>nl i.2-x2.1) (λ _=>[]))]))]) ?_
 rintro ⟨a,b⟩ hpre
 have hpre:nl a<=524288/\nl b<=524288:=hpre
 refine by_nf (q:=((!((nI ((L a).length)) == (0:Int)))=true->((((nI ((L b).length)) == (0:Int))=true->((([]:List (List Dat))=L (a*b))))/\(((nI ((L b).length)) == (0:Int))=false->((0<=(wR ((nI ((L a).length))+(nI ((L b).length)))))/\(((wR ((nI ((L a).length))+(nI ((L b).length))))<=(wR ((nI ((L a).length))+(nI ((L b).length)))))/\(((wR ((nI ((L a).length))+(nI ((L b).length))))<=1073741824)/\((∃ x1:Nat,(x1<=nl a)/\((rf (vI (nI ((L a).length))))/\(vI (0:Int)=vI (nI x1))/\(rf (L a))/\(rf (L b))/\((List.replicate ((wR ((nI ((L a).length))+(nI ((L b).length)))).toNat) [Dat.int (0:Int)])=(rowsN (digN (nl a+nl b) (a%BB^x1*b))))))/\∀ x1:Nat,(x1<=nl a)->(((decide ((nI x1)<(nI ((L a).length))))=true->((0<=(nI x1)/\(nI x1)<((L a).length:Int))/\((x1<(L a).length)/\((∃ x2:Nat×Nat×Nat,(x2.2.1+x2.2.2*BB^(x1+x2.1)=a%BB^x1*b+dgt a x1*BB^x1*(b%BB^x2.1)/\x2.2.2<BB/\x2.1<=nl b/\x2.2.1<BB^(x1+nl b))/\((rf (vI (nI ((L a).length))))/\(rf (vI (nI x1)))/\(rf (vI (nI ((L b).length))))/\(rf (vI (nI x1)))/\(rf (vI ((((L a).getD x1 []).getD 0 (.int 0))).n))/\(vI (0:Int)=vI (nI x2.2.2))/\(vI (0:Int)=vI (nI x2.1))/\(rf (L a))/\(rf (L b))/\((rowsN (digN (nl a+nl b) (a%BB^x1*b)))=(rowsN (digN (nl a+nl b) x2.2.1)))))/\∀ x2:Nat×Nat×Nat,(x2.2.1+x2.2.2*BB^(x1+x2.1)=a%BB^x1*b+dgt a x1*BB^x1*(b%BB^x2.1)/\x2.2.2<BB/\x2.1<=nl b/\x2.2.1<BB^(x1+nl b))->(((decide ((nI x2.1)<(nI ((L b).length))))=true->((0<=(nI x2.1)/\(nI x2.1)<((L b).length:Int))/\((x2.1<(L b).length)/\((0<=(wR ((nI x1)+(nI x2.1)))/\(wR ((nI x1)+(nI x2.1)))<((rowsN (digN (nl a+nl b) x2.2.1)).length:Int))/\(((wR ((nI x1)+(nI x2.1))).toNat<(rowsN (digN (nl a+nl b) x2.2.1)).length)/\(((1000000000:Int)≠0)/\((0<=(wR ((nI x1)+(nI x2.1)))/\(wR ((nI x1)+(nI x2.1)))<((rowsN (digN (nl a+nl b) x2.2.1)).length:Int))/\(((wR ((nI x1)+(nI x2.1))).toNat<(rowsN (digN (nl a+nl b) x2.2.1)).length)/\(((1000000000:Int)≠0)/\(∃ y3:Nat×Nat×Nat,(y3.2.1+y3.2.2*BB^(x1+y3.1)=a%BB^x1*b+dgt a x1*BB^x1*(b%BB^y3.1)/\y3.2.2<BB/\y3.1<=nl b/\y3.2.1<BB^(x1+nl b))/\(nl b-y3.1<nl b-x2.1)/\((rf (vI (nI ((L a).length))))/\(rf (vI (nI x1)))/\(rf (vI (nI ((L b).length))))/\(rf (vI (nI x1)))/\(rf (vI ((((L a).getD x1 []).getD 0 (.int 0))).n))/\(vI (wR (Int.tdiv (wR ((wR (((((rowsN (digN (nl a+nl b) x2.2.1)).getD ((wR ((nI x1)+(nI x2.1))).toNat) []).getD 0 (.int 0))).n+(wR (((((L a).getD x1 []).getD 0 (.int 0))).n*((((L b).getD x2.1 []).getD 0 (.int 0))).n))))+(nI x2.2.2))) (1000000000:Int)))=vI (nI y3.2.2))/\(vI (wR ((nI x2.1)+(1:Int)))=vI (nI y3.1))/\(rf (L a))/\(rf (L b))/\(((rowsN (digN (nl a+nl b) x2.2.1)).set ((wR ((nI x1)+(nI x2.1))).toNat) (((rowsN (digN (nl a+nl b) x2.2.1)).getD ((wR ((nI x1)+(nI x2.1))).toNat) []).set 0 (Dat.int (Int.tmod (wR ((wR (((((rowsN (digN (nl a+nl b) x2.2.1)).getD ((wR ((nI x1)+(nI x2.1))).toNat) []).getD 0 (.int 0))).n+(wR (((((L a).getD x1 []).getD 0 (.int 0))).n*((((L b).getD x2.1 []).getD 0 (.int 0))).n))))+(nI x2.2.2))) (1000000000:Int)))))=(rowsN (digN (nl a+nl b) y3.2.1))))))))))))))/\((decide ((nI x2.1)<(nI ((L b).length))))=false->((0<=(wR ((nI x1)+(nI ((L b).length))))/\(wR ((nI x1)+(nI ((L b).length))))<((rowsN (digN (nl a+nl b) x2.2.1)).length:Int))/\(((wR ((nI x1)+(nI ((L b).length)))).toNat<(rowsN (digN (nl a+nl b) x2.2.1)).length)/\(∃ y4:Nat,(y4<=nl a)/\(nl a-y4<nl a-x1)/\((rf (vI (nI ((L a).length))))/\(vI (wR ((nI x1)+(1:Int)))=vI (nI y4))/\(rf (L a))/\(rf (L b))/\(((rowsN (digN (nl a+nl b) x2.2.1)).set ((wR ((nI x1)+(nI ((L b).length)))).toNat) (((rowsN (digN (nl a+nl b) x2.2.1)).getD ((wR ((nI x1)+(nI ((L b).length)))).toNat) []).set 0 (Dat.int (nI x2.2.2))))=(rowsN (digN (nl a+nl b) (a%BB^y4*b))))))))))))))/\((decide ((nI x1)<(nI ((L a).length))))=false->(∃ i1:(List Nat)×Nat,[DA.one (cS (rowsN (digN (nl a+nl b) (a%BB^x1*b))))]=l02Trim_con.args i1/\l02Trim_con.pre i1/\((L i1.2=L (a*b)))))))))))))/\((!((nI ((L a).length)) == (0:Int)))=false->((([]:List (List Dat))=L (a*b))))) (by kernel_rfl) ?_
 delta vI wR nI
 have ha:=L_len a
 have hb:=L_len b
 have hw0:IntKind.i64.wrap ((((L a).length:Nat):Int)+(((L b).length:Nat):Int))=((nl a+nl b:Nat):Int):=by rw [ha,hb,wrap64 (by omega) (by omega)];omega
 refine And.symm ⟨λ c1=>?_,λ c1=>?_⟩
 ·try simp only [nrm] at c1
  rw [zero_of_len (n:=a) (by omega),Nat.zero_mul,L_zero]
 try simp only [nrm] at c1
 refine ⟨λ c2=>?_,λ c2=>?_⟩
 ·try simp only [nrm] at c2
  rw [zero_of_len (n:=b) (by omega),Nat.mul_zero,L_zero]
 try simp only [nrm] at c2
 refine ao (by omega) λ o4=>?_
 refine ao (by omega) λ o5=>?_
 refine ao (by omega) λ o6=>?_
 refine ⟨⟨0,by
  omega,?_⟩,?_⟩
 ·refine ⟨rfl,?_,rfl,rfl,?_⟩
  ·rfl
  rw [hw0,Int.toNat_natCast,Nat.pow_zero,Nat.mod_one,Nat.zero_mul,digN_zero,← rowsN_replicate]
 intro (i:Nat) hki7
 have hki7:i<=nl a:=hki7
 refine And.symm ⟨λ c14=>?_,λ c14=>?_⟩
 ·try simp only [nrm] at c14
  refine ⟨(digN (nl a+nl b) (a%BB^i*b),a*b),by
   rfl,by
   exact ⟨by rw [digN_len];omega,digN_lt _ _,by rw [mod_nl (a:=a) (i:=i) (by omega),limbs_digN,mod_nl (nl_mul_le _ _)]⟩,?_⟩
  exact rfl
 try simp only [nrm] at c14
 refine ao (by omega) λ o15=>?_
 refine ao (by omega) λ o16=>?_
 refine ⟨⟨(0,a%BB^i*b,0),by
  exact ⟨by simp [Nat.mod_one],BB_pos,Nat.zero_le _,mul_lt_pow⟩,?_⟩,?_⟩
 ·refine ⟨rfl,rfl,rfl,rfl,rfl,?_,?_,rfl,rfl,rfl⟩
  ·rfl
  rfl
 rintro ⟨k,V,c⟩ hki17
 have hki17:V+c*BB^(i+k)=a%BB^i*b+dgt a i*BB^i*(b%BB^k)/\c<BB/\k<=nl b/\V<BB^(i+nl b):=hki17
 have hlv:(rowsN (digN (nl a+nl b) V)).length=nl a+nl b:=by rw [rowsN_len,digN_len]
 refine And.symm ⟨λ c29=>?_,λ c29=>?_⟩
 ·replace c29:(decide (((k:Nat):Int)<(((L b).length:Nat):Int)))=false:=c29
  try simp only [nrm] at c29
  have hw' : IntKind.i64.wrap (((i:Nat):Int)+(((L b).length:Nat):Int))=((i+nl b:Nat):Int):=by rw [hb,wrap64 (by omega) (by omega)];omega
  have e:=hki17.1
  rw [show k=nl b by omega,mod_nl (a:=b) (Nat.le_refl _),mulRow] at e
  refine ao (a:=0<=(IntKind.i64.wrap (((i:Nat):Int)+(((L b).length:Nat):Int)))/\(IntKind.i64.wrap (((i:Nat):Int)+(((L b).length:Nat):Int)))<((rowsN (digN (nl a+nl b) V)).length:Int)) (by omega) λ o51=>?_
  refine ao (a:=(IntKind.i64.wrap (((i:Nat):Int)+(((L b).length:Nat):Int))).toNat<(rowsN (digN (nl a+nl b) V)).length) (by omega) λ o52=>?_
  refine ⟨i+1,by
   omega,by
   omega,?_⟩
  refine ⟨rfl,?_,rfl,rfl,?_⟩
  ·exact vint (wrap64 (by omega) (by omega))
  rw [hw',Int.toNat_natCast,rowsN_set (by rw [digN_len];omega),digN_set (by omega) hki17.2.1,dgt_zero hki17.2.2.2,Nat.zero_mul,Nat.sub_zero,e]
 replace c29:(decide (((k:Nat):Int)<(((L b).length:Nat):Int)))=true:=c29
 try simp only [nrm] at c29
 have hik:i+k<nl a+nl b:=by omega
 have hw:IntKind.i64.wrap (((i:Nat):Int)+((k:Nat):Int))=((i+k:Nat):Int):=by rw [wrap64 (by omega) (by omega)];omega
 have hm:=mul_carry (dgt_lt a i) (dgt_lt b k) (dgt_lt V (i+k)) hki17.2.1
 have hn:IntKind.i64.wrap (IntKind.i64.wrap (((((rowsN (digN (nl a+nl b) V)).getD ((IntKind.i64.wrap (((i:Nat):Int)+((k:Nat):Int))).toNat) []).getD 0 (.int 0))).n+(IntKind.i64.wrap (((((L a).getD i []).getD 0 (.int 0))).n*((((L b).getD k []).getD 0 (.int 0))).n)))+((c:Nat):Int))=((dgt V (i+k)+dgt a i*dgt b k+c:Nat):Int):=by
  rw [hw,Int.toNat_natCast,digN_n hik,L_n,L_n,← Int.natCast_mul,wrapN (by omega),← Int.natCast_add,wrapN (by omega),← Int.natCast_add,wrapN (by omega)]
 have hst:=mulStep hki17.1
 refine ao (a:=0<=((k:Nat):Int)/\((k:Nat):Int)<((L b).length:Int)) (by omega) λ o30=>?_
 refine ao (a:=k<(L b).length) (by omega) λ o31=>?_
 refine ao (a:=0<=(IntKind.i64.wrap (((i:Nat):Int)+((k:Nat):Int)))/\(IntKind.i64.wrap (((i:Nat):Int)+((k:Nat):Int)))<((rowsN (digN (nl a+nl b) V)).length:Int)) (by omega) λ o32=>?_
 refine ao (a:=(IntKind.i64.wrap (((i:Nat):Int)+((k:Nat):Int))).toNat<(rowsN (digN (nl a+nl b) V)).length) (by omega) λ o33=>?_
 refine ao (by omega) λ o34=>?_
 refine ao (a:=0<=(IntKind.i64.wrap (((i:Nat):Int)+((k:Nat):Int)))/\(IntKind.i64.wrap (((i:Nat):Int)+((k:Nat):Int)))<((rowsN (digN (nl a+nl b) V)).length:Int)) (by omega) λ o35=>?_
 refine ao (a:=(IntKind.i64.wrap (((i:Nat):Int)+((k:Nat):Int))).toNat<(rowsN (digN (nl a+nl b) V)).length) (by omega) λ o36=>?_
 refine ao (by omega) λ o37=>?_
 refine ⟨(k+1,V-dgt V (i+k)*BB^(i+k)+(dgt V (i+k)+dgt a i*dgt b k+c)%BB*BB^(i+k),(dgt V (i+k)+dgt a i*dgt b k+c)/BB),by
  exact ⟨hst,hm.1,by omega,set_lt (by omega) hki17.2.2.2 (Nat.mod_lt _ BB_pos)⟩,by
  omega,?_⟩
 refine ⟨rfl,rfl,rfl,rfl,rfl,?_,?_,rfl,rfl,?_⟩
 ·rw [hn,tdivB,wrapN (Nat.le_trans (Nat.le_of_lt hm.1) (by decide))]
 ·exact vint (wrap64 (by omega) (by omega))
 rw [hn,tmodB,hw,Int.toNat_natCast,set_limb hik]
def l02Small_con:Con:={ ι:=Nat×Nat,pre:=λ i=>nl i.1<=1048576/\0<i.2/\i.2<BB,args:=λ i=>[.one (.sl 3 [.int] (L i.1)),.one (.im (.int .i64 ((i.2:Nat):Int)))],res:=λ i=>⟨true,[none,none],[.view 3 [.int] (L (i.1/i.2)),.im (Value.int .i64 ((i.1%i.2:Nat):Int))]⟩ }
theorem l02Small_ok:l02Small_con.Ok Tryz.prog 169:=by
 refine fok (X:=⟨tt,[(170,l02Trim_con)],[],39,[]⟩) mixed tt_ok (CTok.cons l02Trim_ok (CTok.nil _)) Tryz.func169 (λ (i:Nat×Nat)=>[(4,.mk 3 (Nat) (λ x1=>{ tm:=[(0,.one (.one (.ext 1))),(1,.one (.one (.im (Value.int .i64 ((i.2:Nat):Int))))),(6,.one (.one (.ext 2))),(7,.one (.one (.im (Value.int .i64 ((i.1/BB^x1%i.2:Nat):Int))))),(8,.one (.one (.im (Value.int .i64 (((x1:Nat):Int)-1)))))],en:=[(1,.view 3 [.int] (L i.1) []),(2,.own 3 [.int] (rowsN (digN (nl i.1) (hi (i.1/i.2) x1))))] }) (λ x1=>x1<=nl i.1) (λ x1=>x1) (λ _=>[]))]) ?_
 rintro ⟨a,n⟩ hpre
 have hpre:nl a<=1048576/\0<n/\n<BB:=hpre
 refine by_nf (q:=(0<=(nI ((L a).length)))/\(((nI ((L a).length))<=(nI ((L a).length)))/\(((nI ((L a).length))<=1073741824)/\((∃ x1:Nat,(x1<=nl a)/\((rf (vI (nI n)))/\(vI (0:Int)=vI (nI (a/BB^x1%n)))/\(vI (wR ((nI ((L a).length))-(1:Int)))=vI ((nI x1)-1))/\(rf (L a))/\((List.replicate ((L a).length) [Dat.int (0:Int)])=(rowsN (digN (nl a) (hi (a/n) x1))))))/\∀ x1:Nat,(x1<=nl a)->(((decide (((nI x1)-1)≥(0:Int)))=true->((0<=((nI x1)-1)/\((nI x1)-1)<((L a).length:Int))/\((((nI x1)-1).toNat<(L a).length)/\(((nI n)≠0)/\((0<=((nI x1)-1)/\((nI x1)-1)<((rowsN (digN (nl a) (hi (a/n) x1))).length:Int))/\((((nI x1)-1).toNat<(rowsN (digN (nl a) (hi (a/n) x1))).length)/\(((nI n)≠0)/\(∃ y2:Nat,(y2<=nl a)/\(y2<x1)/\((rf (vI (nI n)))/\(vI (Int.tmod (wR ((wR ((nI (a/BB^x1%n))*(1000000000:Int)))+((((L a).getD (((nI x1)-1).toNat) []).getD 0 (.int 0))).n)) (nI n))=vI (nI (a/BB^y2%n)))/\(vI (wR (((nI x1)-1)-(1:Int)))=vI ((nI y2)-1))/\(rf (L a))/\(((rowsN (digN (nl a) (hi (a/n) x1))).set (((nI x1)-1).toNat) (((rowsN (digN (nl a) (hi (a/n) x1))).getD (((nI x1)-1).toNat) []).set 0 (Dat.int (wR (Int.tdiv (wR ((wR ((nI (a/BB^x1%n))*(1000000000:Int)))+((((L a).getD (((nI x1)-1).toNat) []).getD 0 (.int 0))).n)) (nI n))))))=(rowsN (digN (nl a) (hi (a/n) y2)))))))))))))/\((decide (((nI x1)-1)≥(0:Int)))=false->(∃ i1:(List Nat)×Nat,[DA.one (cS (rowsN (digN (nl a) (hi (a/n) x1))))]=l02Trim_con.args i1/\l02Trim_con.pre i1/\((L i1.2=L (a/n))/\(vI (nI (a/BB^x1%n))=vI (nI (a%n))))))))))) (by kernel_rfl) ?_
 delta vI wR nI
 have ha:=L_len a
 refine ao (by omega) λ o1=>?_
 refine ao (by omega) λ o2=>?_
 refine ao (by omega) λ o3=>?_
 refine ⟨⟨nl a,by
  omega,?_⟩,?_⟩
 ·refine ⟨rfl,?_,?_,rfl,?_⟩
  ·rw [divTop n (lt_nl a)];rfl
  ·rw [ha,wrap64 (by omega) (by omega)]
  rw [ha,hi_rows (Nat.div_le_self _ _)]
 intro (j:Nat) hki4
 have hki4:j<=nl a:=hki4
 have hlv:(rowsN (digN (nl a) (hi (a/n) j))).length=nl a:=by rw [rowsN_len,digN_len]
 refine And.symm ⟨λ c11=>?_,λ c11=>?_⟩
 ·try simp only [nrm] at c11
  refine ⟨(digN (nl a) (hi (a/n) j),a/n),by
   rfl,by
   exact ⟨by rw [digN_len];omega,digN_lt _ _,by rw [show j=0 by omega,hi_zero,limbs_digN,mod_nl (nl_mono (Nat.div_le_self _ _))]⟩,?_⟩
  refine ⟨rfl,?_⟩
  rw [show j=0 by omega,Nat.pow_zero,Nat.div_one]
 try simp only [nrm] at c11
 have hj:((((j:Nat):Int)-1).toNat)=j-1:=by omega
 have hj1:j-1+1=j:=by omega
 have hd:=divStep a n (j-1) hpre.2.1
 rw [hj1] at hd
 have hn:IntKind.i64.wrap (IntKind.i64.wrap (((a/BB^j%n:Nat):Int)*(1000000000:Int))+((((L a).getD ((((j:Nat):Int)-1).toNat) []).getD 0 (.int 0))).n)=((a/BB^j%n*BB+dgt a (j-1):Nat):Int):=by rw [hj,L_n,limb_step (Nat.lt_trans (Nat.mod_lt _ hpre.2.1) hpre.2.2) (dgt_lt _ _)]
 refine ao (by omega) λ o12=>?_
 refine ao (by omega) λ o13=>?_
 refine ao (by omega) λ o14=>?_
 refine ao (by omega) λ o15=>?_
 refine ao (by omega) λ o16=>?_
 refine ao (by omega) λ o17=>?_
 refine ⟨j-1,by
  omega,by
  omega,?_⟩
 refine ⟨rfl,?_,?_,rfl,?_⟩
 ·rw [hn,tmodN,hd.2]
 ·rw [wrap_pred (by omega) (by omega)]
 rw [hn,tdivN,hd.1,wrapN (by have:=dgt_lt (a/n) (j-1);unfold BB at this;omega),hj];exact set_hi' (by omega) (by omega) rfl
def l02Digit_con:Con:={ ι:=Nat×Nat,pre:=λ i=>i.2≠0/\i.1<i.2*BB/\nl i.2<=131072,args:=λ i=>[.one (.sl 3 [.int] (L i.1)),.one (.sl 3 [.int] (L i.2))],res:=λ i=>⟨false,[none],[.im (Value.int .i64 ((i.1/i.2:Nat):Int))]⟩ }
theorem l02Digit_ok:l02Digit_con.Ok Tryz.prog 171:=by
 refine fok (X:=⟨tt,[(140,sNatOf_con),(142,l02Mul_con),(168,l02Cmp_con)],[],27,[]⟩) mixed tt_ok (CTok.cons sNatOf_ok (CTok.cons l02Mul_ok (CTok.cons l02Cmp_ok (CTok.nil _)))) Tryz.func171 (λ (i:Nat×Nat)=>[(3,.mk 3 (Nat×Nat) (λ x1=>{ tm:=[(0,.one (.one (.ext 1))),(1,.one (.one (.ext 2))),(5,.one (.one (.im (Value.int .i64 ((x1.1:Nat):Int))))),(6,.one (.one (.im (Value.int .i64 ((x1.2:Nat):Int)))))],en:=[(1,.view 3 [.int] (L i.1) []),(2,.view 3 [.int] (L i.2) [])] }) (λ x1=>x1.1<=i.1/i.2/\i.1/i.2<=x1.2/\x1.2<=999999999) (λ x1=>x1.2-x1.1) (λ _=>[]))]) ?_
 rintro ⟨a,b⟩ hpre
 have hpre:b≠0/\a<b*BB/\nl b<=131072:=hpre
 refine by_nf (q:=(∃ x1:Nat×Nat,(x1.1<=a/b/\a/b<=x1.2/\x1.2<=999999999)/\((vI (0:Int)=vI (nI x1.1))/\(vI (999999999:Int)=vI (nI x1.2))/\(rf (L a))/\(rf (L b))))/\∀ x1:Nat×Nat,(x1.1<=a/b/\a/b<=x1.2/\x1.2<=999999999)->(((decide ((nI x1.1)<(nI x1.2)))=true->(((2:Int)≠0)/\(∃ i1:Nat,[DA.one (cI (wR (Int.tdiv (wR ((wR ((nI x1.1)+(nI x1.2)))+(1:Int))) (2:Int))))]=sNatOf_con.args i1/\sNatOf_con.pre i1/\(∃ i2:Nat×Nat,[DA.one (cS (L b)),DA.one (cS (L i1))]=l02Mul_con.args i2/\l02Mul_con.pre i2/\(∃ i3:Nat×Nat,[DA.one (cS (L (i2.1*i2.2))),DA.one (cS (L a))]=l02Cmp_con.args i3/\l02Cmp_con.pre i3/\(((decide ((cmpN i3.1 i3.2)<=(0:Int)))=true->(∃ y2:Nat×Nat,(y2.1<=a/b/\a/b<=y2.2/\y2.2<=999999999)/\(y2.2-y2.1<x1.2-x1.1)/\((vI (wR (Int.tdiv (wR ((wR ((nI x1.1)+(nI x1.2)))+(1:Int))) (2:Int)))=vI (nI y2.1))/\(vI (nI x1.2)=vI (nI y2.2))/\(rf (L a))/\(rf (L b)))))/\((decide ((cmpN i3.1 i3.2)<=(0:Int)))=false->(∃ y3:Nat×Nat,(y3.1<=a/b/\a/b<=y3.2/\y3.2<=999999999)/\(y3.2-y3.1<x1.2-x1.1)/\((vI (nI x1.1)=vI (nI y3.1))/\(vI (wR ((wR (Int.tdiv (wR ((wR ((nI x1.1)+(nI x1.2)))+(1:Int))) (2:Int)))-(1:Int)))=vI (nI y3.2))/\(rf (L a))/\(rf (L b)))))))))))/\((decide ((nI x1.1)<(nI x1.2)))=false->((vI (nI x1.1)=vI (nI (a/b))))))) (by kernel_rfl) ?_
 delta vI wR nI
 have ha:=L_len a
 have hb:=L_len b
 have hnl:=digit_nl hpre.2.1
 have hq:a/b<BB:=Nat.div_lt_of_lt_mul hpre.2.1
 have hq0:0<=((a/b:Nat):Int):=Int.natCast_nonneg _
 unfold BB at hq
 refine ⟨⟨(0,999999999),by
  exact ⟨Nat.zero_le _,by omega,Nat.le_refl _⟩,?_⟩,?_⟩
 ·refine ⟨?_,?_,rfl,rfl⟩
  ·rfl
  rfl
 rintro ⟨lo,hi⟩ hki1
 have hki1:lo<=a/b/\a/b<=hi/\hi<=999999999:=hki1
 have hm:=mid_step (lo:=lo) (hi:=hi) (by omega) (by omega)
 refine And.symm ⟨λ c7=>?_,λ c7=>?_⟩
 ·replace c7:(decide (((lo:Nat):Int)<((hi:Nat):Int)))=false:=c7
  try simp only [nrm] at c7
  rw [show lo=a/b by omega]
 replace c7:(decide (((lo:Nat):Int)<((hi:Nat):Int)))=true:=c7
 try simp only [nrm] at c7
 refine ao (by omega) λ o8=>?_
 refine ⟨((lo+hi+1)/2),by
  rw [hm];rfl,by
  show ((lo+hi+1)/2)<=9223372036854775807
  omega,?_⟩
 refine ⟨(b,((lo+hi+1)/2)),by
  rfl,by
  show nl b<=524288/\nl ((lo+hi+1)/2)<=524288
  have:=nl_lt_BB (n:=(lo+hi+1)/2) (by unfold BB;omega)
  exact ⟨by omega,by omega⟩,?_⟩
 refine ⟨((b*((lo+hi+1)/2)),a),by
  rfl,by
  show nl (b*((lo+hi+1)/2))<=1048576/\nl a<=1048576
  have:=nl_lt_BB (n:=(lo+hi+1)/2) (by unfold BB;omega)
  have:=nl_mul_le b ((lo+hi+1)/2)
  exact ⟨by omega,by omega⟩,?_⟩
 refine ⟨λ c18=>?_,λ c18=>?_⟩
 ·replace c18:(decide ((cmpN (b*((lo+hi+1)/2)) a)<=(0:Int)))=true:=c18
  try simp only [nrm] at c18
  refine ⟨((lo+hi+1)/2,hi),by
   exact ⟨le_div_of_mul_le hpre.1 (cmpN_le0.1 c18),by omega,by omega⟩,by
   omega,?_⟩
  refine ⟨?_,rfl,rfl,rfl⟩
  rw [hm]
 replace c18:(decide ((cmpN (b*((lo+hi+1)/2)) a)<=(0:Int)))=false:=c18
 try simp only [nrm] at c18
 refine ⟨(lo,(lo+hi+1)/2-1),by
  have h2:a/b<(lo+hi+1)/2:=div_lt_of_lt_mul (Nat.lt_of_not_le (λ h=>by have:=cmpN_le0.2 h;omega))
  exact ⟨by omega,by omega,by omega⟩,by
  omega,?_⟩
 refine ⟨rfl,?_,rfl,rfl⟩
 rw [hm];exact vint (by rw [wrap64 (by omega) (by omega)];omega)
def l02Div_con:Con:={ ι:=Nat×Nat,pre:=λ i=>i.2≠0/\nl i.1<=131072/\nl i.2<=131072,args:=λ i=>[.one (.sl 3 [.int] (L i.1)),.one (.sl 3 [.int] (L i.2))],res:=λ i=>⟨true,[none,none],[.view 3 [.int] (L (i.1/i.2)),.view 3 [.int] (L (i.1%i.2))]⟩ }
theorem l02Div_ok:l02Div_con.Ok Tryz.prog 134:=by
 refine fok (X:=⟨tt,[(169,l02Small_con),(140,sNatOf_con),(170,l02Trim_con),(168,l02Cmp_con),(171,l02Digit_con),(142,l02Mul_con),(172,l02Sub_con)],[],65,[]⟩) mixed tt_ok (CTok.cons l02Small_ok (CTok.cons sNatOf_ok (CTok.cons l02Trim_ok (CTok.cons l02Cmp_ok (CTok.cons l02Digit_ok (CTok.cons l02Mul_ok (CTok.cons l02Sub_ok (CTok.nil _)))))))) Tryz.func134 (λ (i:Nat×Nat)=>[(7,.mk 5 (Nat) (λ x1=>{ tm:=[(0,.one (.one (.ext 1))),(1,.one (.one (.ext 2))),(8,.one (.one (.ext 3))),(9,.one (.one (.ext 4))),(10,.one (.one (.im (Value.int .i64 (((x1:Nat):Int)-1)))))],en:=[(1,.view 3 [.int] (L i.1) []),(2,.view 3 [.int] (L i.2) []),(3,.own 3 [.int] (rowsN (digN (nl i.1) (hi (i.1/i.2) x1)))),(4,.view 3 [.int] (L (i.1/BB^x1%i.2)) [])] }) (λ x1=>x1<=nl i.1) (λ x1=>x1) (λ _=>[]))]) ?_
 rintro ⟨a,b⟩ hpre
 have hpre:b≠0/\nl a<=131072/\nl b<=131072:=hpre
 refine by_nf (q:=(((nI ((L b).length)) == (1:Int))=true->((0<=(0:Int)/\(0:Int)<((L b).length:Int))/\((0<(L b).length)/\(∃ i1:Nat×Nat,[DA.one (cS (L a)),DA.one (cI (((((L b).getD 0 []).getD 0 (.int 0))).n))]=l02Small_con.args i1/\l02Small_con.pre i1/\(∃ i2:Nat,[DA.one (cI (nI (i1.1%i1.2)))]=sNatOf_con.args i2/\sNatOf_con.pre i2/\((L (i1.1/i1.2)=L (a/b))/\(L i2=L (a%b))))))))/\(((nI ((L b).length)) == (1:Int))=false->((0<=(nI ((L a).length)))/\(((nI ((L a).length))<=(nI ((L a).length)))/\(((nI ((L a).length))<=1073741824)/\((∃ x1:Nat,(x1<=nl a)/\((vI (wR ((nI ((L a).length))-(1:Int)))=vI ((nI x1)-1))/\(rf (L a))/\(rf (L b))/\((List.replicate ((L a).length) [Dat.int (0:Int)])=(rowsN (digN (nl a) (hi (a/b) x1))))/\(([]:List (List Dat))=(L (a/BB^x1%b)))))/\∀ x1:Nat,(x1<=nl a)->(((decide (((nI x1)-1)≥(0:Int)))=true->((0<=((nI x1)-1)/\((nI x1)-1)<((L a).length:Int))/\((((nI x1)-1).toNat<(L a).length)/\((([[Dat.int (((((L a).getD (((nI x1)-1).toNat) []).getD 0 (.int 0))).n)]]:List (List Dat)).length+(L (a/BB^x1%b)).length<=1073741824)/\(∃ i3:(List Nat)×Nat,[DA.one (cS (([[Dat.int (((((L a).getD (((nI x1)-1).toNat) []).getD 0 (.int 0))).n)]]:List (List Dat))++(L (a/BB^x1%b))))]=l02Trim_con.args i3/\l02Trim_con.pre i3/\(∃ i4:Nat×Nat,[DA.one (cS (L i3.2)),DA.one (cS (L b))]=l02Cmp_con.args i4/\l02Cmp_con.pre i4/\(((decide ((cmpN i4.1 i4.2)<(0:Int)))=true->(∃ y2:Nat,(y2<=nl a)/\(y2<x1)/\((vI (wR (((nI x1)-1)-(1:Int)))=vI ((nI y2)-1))/\(rf (L a))/\(rf (L b))/\((rowsN (digN (nl a) (hi (a/b) x1)))=(rowsN (digN (nl a) (hi (a/b) y2))))/\(L i3.2=(L (a/BB^y2%b))))))/\((decide ((cmpN i4.1 i4.2)<(0:Int)))=false->(∃ i5:Nat×Nat,[DA.one (cS (L i3.2)),DA.one (cS (L b))]=l02Digit_con.args i5/\l02Digit_con.pre i5/\((0<=((nI x1)-1)/\((nI x1)-1)<((rowsN (digN (nl a) (hi (a/b) x1))).length:Int))/\((((nI x1)-1).toNat<(rowsN (digN (nl a) (hi (a/b) x1))).length)/\(∃ i6:Nat,[DA.one (cI (nI (i5.1/i5.2)))]=sNatOf_con.args i6/\sNatOf_con.pre i6/\(∃ i7:Nat×Nat,[DA.one (cS (L b)),DA.one (cS (L i6))]=l02Mul_con.args i7/\l02Mul_con.pre i7/\(∃ i8:Nat×Nat,[DA.one (cS (L i3.2)),DA.one (cS (L (i7.1*i7.2)))]=l02Sub_con.args i8/\l02Sub_con.pre i8/\(∃ y3:Nat,(y3<=nl a)/\(y3<x1)/\((vI (wR (((nI x1)-1)-(1:Int)))=vI ((nI y3)-1))/\(rf (L a))/\(rf (L b))/\(((rowsN (digN (nl a) (hi (a/b) x1))).set (((nI x1)-1).toNat) (((rowsN (digN (nl a) (hi (a/b) x1))).getD (((nI x1)-1).toNat) []).set 0 (Dat.int (nI (i5.1/i5.2)))))=(rowsN (digN (nl a) (hi (a/b) y3))))/\(L (i8.1-i8.2)=(L (a/BB^y3%b)))))))))))))))))))/\((decide (((nI x1)-1)≥(0:Int)))=false->(∃ i9:(List Nat)×Nat,[DA.one (cS (rowsN (digN (nl a) (hi (a/b) x1))))]=l02Trim_con.args i9/\l02Trim_con.pre i9/\((L i9.2=L (a/b))/\((L (a/BB^x1%b))=L (a%b)))))))))))) (by kernel_rfl) ?_
 delta vI wR nI
 have ha:=L_len a
 have hb:=L_len b
 refine ⟨λ c1=>?_,λ c1=>?_⟩
 ·try simp only [nrm] at c1
  have h1:=one_limb (b:=b) (by omega)
  refine ao (by omega) λ o2=>?_
  refine ao (by omega) λ o3=>?_
  refine ⟨(a,b),by
   rw [L_n,h1.1];rfl,by
   show nl a<=1048576/\0<b/\b<BB
   exact ⟨by omega,h1.2.2,h1.2.1⟩,?_⟩
  refine ⟨(a%b),by
   rfl,by
   exact Nat.le_trans (Nat.le_of_lt (Nat.lt_trans (Nat.mod_lt a h1.2.2) h1.2.1)) (by decide),?_⟩
  exact ⟨rfl,rfl⟩
 try simp only [nrm] at c1
 refine ao (by omega) λ o12=>?_
 refine ao (by omega) λ o13=>?_
 refine ao (by omega) λ o14=>?_
 refine ⟨⟨nl a,by
  omega,?_⟩,?_⟩
 ·refine ⟨?_,rfl,rfl,?_,?_⟩
  ·rw [ha,wrap64 (by omega) (by omega)]
  ·rw [ha,hi_rows (Nat.div_le_self _ _)]
  rw [divTop b (lt_nl a),L_zero]
 intro (j:Nat) hki15
 have hki15:j<=nl a:=hki15
 have hlv:(rowsN (digN (nl a) (hi (a/b) j))).length=nl a:=by rw [rowsN_len,digN_len]
 have hrl:=L_len (a/BB^j%b)
 have hrn:=nl_mod_le (a:=a/BB^j) hpre.1
 refine And.symm ⟨λ c22=>?_,λ c22=>?_⟩
 ·try simp only [nrm] at c22
  refine ⟨(digN (nl a) (hi (a/b) j),a/b),by
   rfl,by
   exact ⟨by rw [digN_len];omega,digN_lt _ _,by rw [show j=0 by omega,hi_zero,limbs_digN,mod_nl (nl_mono (Nat.div_le_self _ _))]⟩,?_⟩
  refine ⟨rfl,?_⟩
  rw [show j=0 by omega,Nat.pow_zero,Nat.div_one]
 try simp only [nrm] at c22
 have hj:((((j:Nat):Int)-1).toNat)=j-1:=by omega
 have hj1:j-1+1=j:=by omega
 have hs:=div_step_lt (a:=a) (j:=j-1) hpre.1
 have hq:=div_step_eq (a:=a) (j:=j-1) hpre.1
 rw [hj1] at hs hq
 have hRn:=digit_nl hs
 have hRb:(dgt a (j-1)+BB*(a/BB^j%b))/b<BB:=Nat.div_lt_of_lt_mul hs
 have hRl:=nl_lt_BB hRb
 refine ao (by omega) λ o23=>?_
 refine ao (by omega) λ o24=>?_
 refine ao (by simp only [List.length_cons,List.length_nil];omega) λ o25=>?_
 refine ⟨(dgt a (j-1)::dig (a/BB^j%b),dgt a (j-1)+BB*(a/BB^j%b)),by
  rw [hj,L_n];rfl,by
  try dsimp only [l02Trim_con]
  exact ⟨by show (dig _).length+1<=_;show nl _+1<=_;omega,dig_cons_lt (dgt_lt _ _),limbs_cons _ _⟩,?_⟩
 refine ⟨((dgt a (j-1)+BB*(a/BB^j%b)),b),by
  rfl,by
  show nl (dgt a (j-1)+BB*(a/BB^j%b))<=1048576/\nl b<=1048576
  first|exact ⟨by omega,by omega⟩,?_⟩
 refine ⟨λ c32=>?_,λ c32=>?_⟩
 ·replace c32:(decide ((cmpN (dgt a (j-1)+BB*(a/BB^j%b)) b)<(0:Int)))=true:=c32
  try simp only [nrm] at c32
  have hlt:dgt a (j-1)+BB*(a/BB^j%b)<b:=cmpN_lt0.1 c32
  have hk:=hi_keep (q:=a/b) (i:=j-1) (by rw [← hq.1,Nat.div_eq_of_lt hlt])
  rw [hj1] at hk
  refine ⟨j-1,by
   omega,by
   omega,?_⟩
  refine ⟨?_,rfl,rfl,?_,?_⟩
  ·rw [wrap_pred (by omega) (by omega)]
  ·rw [hk]
  rw [← hq.2,Nat.mod_eq_of_lt hlt]
 replace c32:(decide ((cmpN (dgt a (j-1)+BB*(a/BB^j%b)) b)<(0:Int)))=false:=c32
 try simp only [nrm] at c32
 have hset:(rowsN (digN (nl a) (hi (a/b) j))).set ((((j:Nat):Int)-1).toNat) (((rowsN (digN (nl a) (hi (a/b) j))).getD ((((j:Nat):Int)-1).toNat) []).set 0 (Dat.int (((dgt a (j-1)+BB*(a/BB^j%b))/b:Nat):Int)))=rowsN (digN (nl a) (hi (a/b) (j-1))):=by rw [hj];exact set_hi' (by omega) (by omega) hq.1
 refine ⟨((dgt a (j-1)+BB*(a/BB^j%b)),b),by
  rfl,by
  show b≠0/\(dgt a (j-1)+BB*(a/BB^j%b))<b*BB/\nl b<=131072
  exact ⟨hpre.1,hs,by omega⟩,?_⟩
 refine ao (by omega) λ o44=>?_
 refine ao (by omega) λ o45=>?_
 refine ⟨((dgt a (j-1)+BB*(a/BB^j%b))/b),by
  rfl,by
  exact Nat.le_trans (Nat.le_of_lt hRb) (by decide),?_⟩
 refine ⟨(b,((dgt a (j-1)+BB*(a/BB^j%b))/b)),by
  rfl,by
  show nl b<=524288/\nl ((dgt a (j-1)+BB*(a/BB^j%b))/b)<=524288
  first|exact ⟨by omega,by omega⟩,?_⟩
 refine ⟨((dgt a (j-1)+BB*(a/BB^j%b)),(b*((dgt a (j-1)+BB*(a/BB^j%b))/b))),by
  rfl,by
  try dsimp only [l02Sub_con]
  have:=nl_mul_le b ((dgt a (j-1)+BB*(a/BB^j%b))/b)
  exact ⟨by omega,by omega,Nat.mul_div_le _ _⟩,?_⟩
 refine ⟨j-1,by
  omega,by
  omega,?_⟩
 refine ⟨?_,rfl,rfl,?_,?_⟩
 ·rw [wrap_pred (by omega) (by omega)]
 ·exact hset
 rw [sub_mul_div,hq.2]
def l02Plain_con:Con:={ ι:=Nat×Nat,pre:=λ i=>i.1<=9223372036854775807/\i.2<=9223372036854775807,args:=λ i=>[.one (.im (.int .i64 ((i.1:Nat):Int))),.one (.im (.int .i64 ((i.2:Nat):Int)))],res:=λ i=>⟨false,[none],[.own 3 [.int] (L (i.1.gcd i.2))]⟩ }
theorem l02Plain_ok:l02Plain_con.Ok Tryz.prog 133:=by
 refine fok (X:=⟨tt,[(140,sNatOf_con)],[],15,[]⟩) mixed tt_ok (CTok.cons sNatOf_ok (CTok.nil _)) Tryz.func133 (λ (i:Nat×Nat)=>[(1,.mk 1 (Nat×Nat) (λ x1=>{ tm:=[(0,.one (.one (.im (Value.int .i64 ((x1.1:Nat):Int))))),(1,.one (.one (.im (Value.int .i64 ((x1.2:Nat):Int)))))],en:=[] }) (λ x1=>x1.1.gcd x1.2=i.1.gcd i.2/\x1.1<=9223372036854775807/\x1.2<=9223372036854775807) (λ x1=>x1.2) (λ _=>[]))]) ?_
 rintro ⟨x,y⟩ hpre
 have hpre:x<=9223372036854775807/\y<=9223372036854775807:=hpre
 refine by_nf (q:=(∃ x1:Nat×Nat,(x1.1.gcd x1.2=x.gcd y/\x1.1<=9223372036854775807/\x1.2<=9223372036854775807)/\((vI (nI x)=vI (nI x1.1))/\(vI (nI y)=vI (nI x1.2))))/\∀ x1:Nat×Nat,(x1.1.gcd x1.2=x.gcd y/\x1.1<=9223372036854775807/\x1.2<=9223372036854775807)->(((decide ((nI x1.2)>(0:Int)))=true->(((nI x1.2)≠0)/\(∃ y2:Nat×Nat,(y2.1.gcd y2.2=x.gcd y/\y2.1<=9223372036854775807/\y2.2<=9223372036854775807)/\(y2.2<x1.2)/\((vI (nI x1.2)=vI (nI y2.1))/\(vI (Int.tmod (nI x1.1) (nI x1.2))=vI (nI y2.2))))))/\((decide ((nI x1.2)>(0:Int)))=false->(∃ i1:Nat,[DA.one (cI (nI x1.1))]=sNatOf_con.args i1/\sNatOf_con.pre i1/\((L i1=L (x.gcd y))))))) (by kernel_rfl) ?_
 delta vI nI
 refine ⟨⟨(x,y),by
  exact ⟨rfl,hpre.1,hpre.2⟩,?_⟩,?_⟩
 ·exact ⟨rfl,rfl⟩
 rintro ⟨n,r⟩ hki1
 have hki1:n.gcd r=x.gcd y/\n<=9223372036854775807/\r<=9223372036854775807:=hki1
 refine And.symm ⟨λ c5=>?_,λ c5=>?_⟩
 ·replace c5:(decide (((r:Nat):Int)>(0:Int)))=false:=c5
  try simp only [nrm] at c5
  refine ⟨n,by
   rfl,by
   show n<=9223372036854775807
   omega,?_⟩
  rw [← hki1.1,show r=0 by omega,Nat.gcd_zero_right]
 replace c5:(decide (((r:Nat):Int)>(0:Int)))=true:=c5
 try simp only [nrm] at c5
 refine ao (a:=((r:Nat):Int)≠0) (by omega) λ o6=>?_
 refine ⟨(r,n%r),by
  exact ⟨(gcd_swap n r).trans hki1.1,hki1.2.2,Nat.le_trans (Nat.mod_le _ _) hki1.2.1⟩,by
  exact Nat.mod_lt _ (by omega),?_⟩
 refine ⟨rfl,?_⟩
 rfl
def l02Gcd_con:Con:={ ι:=Nat×Nat,pre:=λ i=>nl i.1<=131072/\nl i.2<=131072,args:=λ i=>[.one (.sl 3 [.int] (L i.1)),.one (.sl 3 [.int] (L i.2))],res:=λ i=>⟨false,[none],[.view 3 [.int] (L (i.1.gcd i.2))]⟩ }
theorem l02Gcd_ok:l02Gcd_con.Ok Tryz.prog 101:=by
 refine fok (X:=⟨tt,[(132,NatToInt_con),(133,l02Plain_con),(134,l02Div_con)],[],52,[]⟩) mixed tt_ok (CTok.cons NatToInt_ok (CTok.cons l02Plain_ok (CTok.cons l02Div_ok (CTok.nil _)))) Tryz.func101 (λ (i:Nat×Nat)=>[(3,.mk 3 (Nat×Nat) (λ x1=>{ tm:=[(5,.one (.one (.ext 1))),(6,.one (.one (.ext 2)))],en:=[(1,.view 3 [.int] (L x1.1) []),(2,.view 3 [.int] (L x1.2) [])] }) (λ x1=>x1.1.gcd x1.2=i.1.gcd i.2/\nl x1.1<=131072/\nl x1.2<=131072) (λ x1=>x1.2) (λ _=>[]))]) ?_
 rintro ⟨a,b⟩ hpre
 have hpre:nl a<=131072/\nl b<=131072:=hpre
 refine by_nf (q:=(([]:List (List Dat)).length+(L a).length<=1073741824)/\((([]:List (List Dat)).length+(L b).length<=1073741824)/\((∃ x1:Nat×Nat,(x1.1.gcd x1.2=a.gcd b/\nl x1.1<=131072/\nl x1.2<=131072)/\(((([]:List (List Dat))++(L a))=(L x1.1))/\((([]:List (List Dat))++(L b))=(L x1.2))))/\∀ x1:Nat×Nat,(x1.1.gcd x1.2=a.gcd b/\nl x1.1<=131072/\nl x1.2<=131072)->(((decide ((nI ((L x1.2).length))>(0:Int)))=true->(((decide ((nI ((L x1.1).length))<(3:Int)))=true->(((decide ((nI ((L x1.2).length))<(3:Int)))=true->(∃ i1:Nat,[DA.one (cS (L x1.1))]=NatToInt_con.args i1/\NatToInt_con.pre i1/\(∃ i2:Nat,[DA.one (cS (L x1.2))]=NatToInt_con.args i2/\NatToInt_con.pre i2/\(∃ i3:Nat×Nat,[DA.one (cI (nI i1)),DA.one (cI (nI i2))]=l02Plain_con.args i3/\l02Plain_con.pre i3/\((L (i3.1.gcd i3.2)=L (a.gcd b)))))))/\((decide ((nI ((L x1.2).length))<(3:Int)))=false->(∃ i4:Nat×Nat,[DA.one (cS (L x1.1)),DA.one (cS (L x1.2))]=l02Div_con.args i4/\l02Div_con.pre i4/\(∃ y2:Nat×Nat,(y2.1.gcd y2.2=a.gcd b/\nl y2.1<=131072/\nl y2.2<=131072)/\(y2.2<x1.2)/\(((L x1.2)=(L y2.1))/\(L (i4.1%i4.2)=(L y2.2))))))))/\((decide ((nI ((L x1.1).length))<(3:Int)))=false->(∃ i5:Nat×Nat,[DA.one (cS (L x1.1)),DA.one (cS (L x1.2))]=l02Div_con.args i5/\l02Div_con.pre i5/\(∃ y3:Nat×Nat,(y3.1.gcd y3.2=a.gcd b/\nl y3.1<=131072/\nl y3.2<=131072)/\(y3.2<x1.2)/\(((L x1.2)=(L y3.1))/\(L (i5.1%i5.2)=(L y3.2))))))))/\((decide ((nI ((L x1.2).length))>(0:Int)))=false->(((L x1.1)=L (a.gcd b)))))))) (by kernel_rfl) ?_
 delta nI
 have ha:=L_len a
 have hb:=L_len b
 refine ao (by first|(simp only [List.length_nil];omega)) λ o1=>?_
 refine ao (by first|(simp only [List.length_nil];omega)) λ o2=>?_
 refine ⟨⟨(a,b),by
  exact ⟨rfl,hpre.1,hpre.2⟩,?_⟩,?_⟩
 ·refine ⟨?_,?_⟩
  ·exact List.nil_append _
  exact List.nil_append _
 rintro ⟨x,y⟩ hki3
 have hki3:x.gcd y=a.gcd b/\nl x<=131072/\nl y<=131072:=hki3
 have hx:=L_len x
 have hy:=L_len y
 have hy0:y≠0↔0<nl y:=⟨nl_pos,λ h e=>by rw [e,nl_zero] at h;omega⟩
 have hlt:∀ n,nl n<=2->n<=9223372036854775807:=λ n h=>Nat.le_of_lt (Nat.lt_trans (lt_pow h) (by decide))
 refine And.symm ⟨λ c7=>?_,λ c7=>?_⟩
 ·replace c7:(decide ((((L y).length:Nat):Int)>(0:Int)))=false:=c7
  try simp only [nrm] at c7
  rw [← hki3.1,nl_eq_zero.1 (show nl y=0 by omega),Nat.gcd_zero_right]
 replace c7:(decide ((((L y).length:Nat):Int)>(0:Int)))=true:=c7
 try simp only [nrm] at c7
 have hyy:y≠0:=hy0.2 (by omega)
 refine And.symm ⟨λ c8=>?_,λ c8=>?_⟩
 ·replace c8:(decide ((((L x).length:Nat):Int)<(3:Int)))=false:=c8
  try simp only [nrm] at c8
  refine ⟨(x,y),by
   rfl,by
   exact ⟨hyy,hki3.2.1,hki3.2.2⟩,?_⟩
  refine ⟨(y,x%y),by
   exact ⟨(gcd_swap x y).trans hki3.1,hki3.2.2,Nat.le_trans (nl_mod_le hyy) hki3.2.2⟩,by
   exact Nat.mod_lt _ (Nat.pos_of_ne_zero hyy),?_⟩
  exact ⟨rfl,rfl⟩
 replace c8:(decide ((((L x).length:Nat):Int)<(3:Int)))=true:=c8
 try simp only [nrm] at c8
 refine And.symm ⟨λ c9=>?_,λ c9=>?_⟩
 ·replace c9:(decide ((((L y).length:Nat):Int)<(3:Int)))=false:=c9
  try simp only [nrm] at c9
  refine ⟨(x,y),by
   rfl,by
   exact ⟨hyy,hki3.2.1,hki3.2.2⟩,?_⟩
  refine ⟨(y,x%y),by
   exact ⟨(gcd_swap x y).trans hki3.1,hki3.2.2,Nat.le_trans (nl_mod_le hyy) hki3.2.2⟩,by
   exact Nat.mod_lt _ (Nat.pos_of_ne_zero hyy),?_⟩
  exact ⟨rfl,rfl⟩
 replace c9:(decide ((((L y).length:Nat):Int)<(3:Int)))=true:=c9
 try simp only [nrm] at c9
 refine ⟨x,by
  rfl,by
  show nl x<=2
  omega,?_⟩
 refine ⟨y,by
  rfl,by
  show nl y<=2
  omega,?_⟩
 refine ⟨(x,y),by
  rfl,by
  exact ⟨hlt x (by omega),hlt y (by omega)⟩,?_⟩
 rw [hki3.1]
end Go.Proofs.YtlejeadlmpkffaaGreat
