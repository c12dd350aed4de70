import Derived.Test.YtlejeadlmpkffaaGreatMaRkB
import Derived.Test.YtlejeadlmpkffaaGreatMaFr
import Derived.Test.YtlejeadlmpkffaaGreatMaExD
namespace Go.Proofs.YtlejeadlmpkffaaGreat
set_option maxRecDepth 100000
set_option linter.unusedVariables false
set_option linter.unusedSimpArgs false
open Go.RowKit
def natOk1_con:Con:={ ι:=Int,pre:=λ i=>True,args:=λ i=>[.one (.im (.int .i64 i))],res:=λ i=>⟨false,[none],[.im (Value.bool (!(inB i)))]⟩ }
theorem natOk1_ok:natOk1_con.Ok Tryz.prog 112:=by
 refine fok (X:=⟨tt,[(113,within_con)],[],6,[]⟩) mixed tt_ok (CTok.cons within_ok (CTok.nil _)) Tryz.func112 (λ _=>[]) ?_
 intro (n:Int) hpre
 have hpre:True:=hpre
 refine by_nf (q:=∃ i1:Int×Int×Int,[DA.one (cI n),DA.one (cI (0:Int)),DA.one (cI (999999999:Int))]=within_con.args i1/\within_con.pre i1/\((Value.bool (!(decide (i1.1≥i1.2.1) && decide (i1.1<=i1.2.2)))=Value.bool (!(inB n))))) (by kernel_rfl) ?_
 refine ⟨(n,(0:Int),(999999999:Int)),by
  rfl,by
  trivial,?_⟩
 rfl
def cfNat_idx_con:Con:={ ι:=(List (List Dat)),pre:=λ i=>i.length<=9223372036854775807,args:=λ i=>[.one (.sl 3 [.int] i),.one (.ro (.fn 112 []))],tag:=113,res:=λ i=>⟨false,[none],[.im (Value.int .i64 (idxF (λ r=>!(inB (rn r))) i))]⟩ }
theorem cfNat_idx_ok:cfNat_idx_con.Ok Tryz.prog 143:=by
 refine fok (X:=⟨tt,[(112,natOk1_con)],[],19,[]⟩) mixed tt_ok (CTok.cons natOk1_ok (CTok.nil _)) Tryz.func143 (λ (i:(List (List Dat)))=>[(2,.mk 3 (Nat) (λ x1=>{ tm:=[(0,.one (.one (.ext 1))),(1,.one (.one (.ext 2))),(7,.one (.one (.im (Value.int .i64 ((i.length:Nat):Int))))),(8,.one (.one (.im (Value.int .i64 ((x1:Nat):Int)))))],en:=[(1,.view 3 [.int] i []),(2,.ro (.fn 112 []) [])] }) (λ x1=>x1<=i.length/\∀ j,j<x1->(λ r=>!(inB (rn r))) (i.getD j [])=false) (λ x1=>i.length-x1) (λ _=>[]))]) ?_
 intro (l:List (List Dat)) hpre
 have hpre:l.length<=9223372036854775807:=hpre
 refine by_nf (q:=(∃ x1:Nat,(x1<=l.length/\∀ j,j<x1->(λ r=>!(inB (rn r))) (l.getD j [])=false)/\((rf (vI (nI l.length)))/\(vI (0:Int)=vI (nI x1))/\(rf (l))/\((.fn 112 []:RO)=.fn 112 [])))/\∀ x1:Nat,(x1<=l.length/\∀ j,j<x1->(λ r=>!(inB (rn r))) (l.getD j [])=false)->(((decide ((nI x1)<(nI l.length)))=true->((0<=(nI x1)/\(nI x1)<(l.length:Int))/\((x1<l.length)/\(∃ i1:Int,[DA.one (cI ((((l.getD x1 []).getD 0 (.int 0))).n))]=natOk1_con.args i1/\natOk1_con.pre i1/\(((!(inB i1))=true->((vI (nI x1)=vI (idxF (λ r=>!(inB (rn r))) l))))/\((!(inB i1))=false->(∃ y2:Nat,(y2<=l.length/\∀ j,j<y2->(λ r=>!(inB (rn r))) (l.getD j [])=false)/\(l.length-y2<l.length-x1)/\((rf (vI (nI l.length)))/\(vI (wR ((nI x1)+(1:Int)))=vI (nI y2))/\(rf (l))/\((.fn 112 []:RO)=.fn 112 [])))))))))/\((decide ((nI x1)<(nI l.length)))=false->((vI (-1:Int)=vI (idxF (λ r=>!(inB (rn r))) l)))))) (by kernel_rfl) ?_
 delta vI wR nI
 refine ⟨⟨0,by
  exact ⟨Nat.zero_le _,λ j hj=>absurd hj (Nat.not_lt_zero j)⟩,?_⟩,?_⟩
 ·refine ⟨rfl,?_,rfl,?_⟩
  ·rfl
  rfl
 intro (k:Nat) hki1
 have hki1:k<=l.length/\∀ j,j<k->(λ r=>!(inB (rn r))) (l.getD j [])=false:=hki1
 refine And.symm ⟨λ c7=>?_,λ c7=>?_⟩
 ·try simp only [nrm] at c7
  rw [idxF_none (λ j hj=>hki1.2 j (by omega))]
 try simp only [nrm] at c7
 refine ao (by omega) λ o8=>?_
 refine ao (by omega) λ o9=>?_
 refine ⟨(((l.getD k []).getD 0 (.int 0))).n,by
  rfl,by
  trivial,?_⟩
 refine ⟨λ c13=>?_,λ c13=>?_⟩
 ·try simp only [nrm] at c13
  rw [idxF_at (by omega) hki1.2 (by simpa [rn] using c13)]
 try simp only [nrm] at c13
 refine ⟨k+1,by
  exact ⟨by omega,lt_step hki1.2 (by simpa [rn] using c13)⟩,by
  omega,?_⟩
 refine ⟨rfl,?_,rfl,?_⟩
 ·exact vint (wrap64 (by omega) (by omega))
 rfl
def cfNat_con:Con:={ ι:=(List (List Dat)),pre:=λ i=>i.length<=9223372036854775807,args:=λ i=>[.one (.sl 3 [.int] i),.one (.ro (.fn 112 []))],tag:=113,res:=λ i=>⟨false,[none],[.im (Value.bool (i.any (λ r=>!(inB (rn r)))))]⟩ }
theorem cfNat_ok:cfNat_con.Ok Tryz.prog 111:=by
 refine fok (X:=⟨tt,[(143,cfNat_idx_con)],[],9,[]⟩) mixed tt_ok (CTok.cons cfNat_idx_ok (CTok.nil _)) Tryz.func111 (λ _=>[]) ?_
 intro (l:List (List Dat)) hpre
 have hpre:l.length<=9223372036854775807:=hpre
 refine by_nf (q:=∃ i1:(List (List Dat)),[DA.one (cS l),DA.one (DC.ro (.fn 112 []))]=cfNat_idx_con.args i1/\cfNat_idx_con.pre i1/\((Value.bool (decide ((idxF (λ r=>!(inB (rn r))) i1)≥(0:Int)))=Value.bool (l.any (λ r=>!(inB (rn r))))))) (by kernel_rfl) ?_
 refine ⟨l,by
  rfl,by
  trivial,?_⟩
 exact congrArg Value.bool (idxF_any _ _)
def isNaNi_con:Con:={ ι:=Int,pre:=λ i=>True,args:=λ i=>[.one (.im (.int .i64 i))],res:=λ i=>⟨false,[none],[.im (Value.bool false)]⟩ }
theorem isNaNi_ok:isNaNi_con.Ok Tryz.prog 186:=by
 refine fok (X:=⟨tt,[],[],6,[]⟩) mixed tt_ok (CTok.nil _) Tryz.func186 (λ _=>[]) ?_
 intro (n:Int) hpre
 have hpre:True:=hpre
 refine by_nf (q:=(Value.bool (n != n)=Value.bool false)) (by kernel_rfl) ?_
 simp
def cmpInt_con:Con:={ ι:=Int×Int,pre:=λ i=>True,args:=λ i=>[.one (.im (.int .i64 i.1)),.one (.im (.int .i64 i.2))],res:=λ i=>⟨false,[none],[.im (Value.int .i64 (cmpI i.1 i.2))]⟩ }
theorem cmpInt_ok:cmpInt_con.Ok Tryz.prog 176:=by
 refine fok (X:=⟨tt,[(186,isNaNi_con)],[],20,[]⟩) mixed tt_ok (CTok.cons isNaNi_ok (CTok.nil _)) Tryz.func176 (λ _=>[]) ?_
 rintro ⟨a,b⟩ hpre
 have hpre:True:=hpre
 refine by_nf (q:=∃ i1:Int,[DA.one (cI a)]=isNaNi_con.args i1/\isNaNi_con.pre i1/\(∃ i2:Int,[DA.one (cI b)]=isNaNi_con.args i2/\isNaNi_con.pre i2/\((false=true->((false=true->((vI (0:Int)=vI (cmpI a b))))/\(false=false->((vI (-1:Int)=vI (cmpI a b))))))/\(false=false->((false=true->((vI (1:Int)=vI (cmpI a b))))/\(false=false->(((decide (a<b))=true->((vI (-1:Int)=vI (cmpI a b))))/\((decide (a<b))=false->(((decide (a>b))=true->((vI (1:Int)=vI (cmpI a b))))/\((decide (a>b))=false->((vI (0:Int)=vI (cmpI a b))))))))))))) (by kernel_rfl) ?_
 delta vI
 refine ⟨a,by
  rfl,by
  trivial,?_⟩
 refine ⟨b,by
  rfl,by
  trivial,?_⟩
 refine ⟨λ c7=>?_,λ c7=>?_⟩
 ·try simp only [nrm] at c7
  refine ⟨λ c8=>?_,λ c8=>?_⟩
  ·try simp only [nrm] at c8
   contradiction
  try simp only [nrm] at c8
  contradiction
 try simp only [nrm] at c7
 refine ⟨λ c11=>?_,λ c11=>?_⟩
 ·try simp only [nrm] at c11
  contradiction
 try simp only [nrm] at c11
 refine ⟨λ c13=>?_,λ c13=>?_⟩
 ·try simp only [nrm] at c13
  unfold cmpI;rw [if_pos (by omega)]
 try simp only [nrm] at c13
 refine ⟨λ c15=>?_,λ c15=>?_⟩
 ·try simp only [nrm] at c15
  unfold cmpI;rw [if_neg (by omega),if_neg (by omega)]
 try simp only [nrm] at c15
 unfold cmpI;rw [if_neg (by omega),if_pos (by omega)]
def limb_con:Con:={ ι:=Nat×Nat,pre:=λ i=>nl i.1<=1048576/\i.2<=4194304,args:=λ i=>[.one (.sl 3 [.int] (L i.1)),.one (.im (.int .i64 ((i.2:Nat):Int)))],res:=λ i=>⟨false,[none],[.im (Value.int .i64 ((dgt i.1 i.2:Nat):Int))]⟩ }
theorem limb_ok:limb_con.Ok Tryz.prog 177:=by
 refine fok (X:=⟨tt,[],[],13,[]⟩) mixed tt_ok (CTok.nil _) Tryz.func177 (λ _=>[]) ?_
 rintro ⟨a,i⟩ hpre
 have hpre:nl a<=1048576/\i<=4194304:=hpre
 refine by_nf (q:=((decide ((nI i)<(nI ((L a).length))))=true->((0<=(nI i)/\(nI i)<((L a).length:Int))/\((i<(L a).length)/\((vI ((((L a).getD i []).getD 0 (.int 0))).n=vI (nI (dgt a i)))))))/\((decide ((nI i)<(nI ((L a).length))))=false->((vI (0:Int)=vI (nI (dgt a i)))))) (by kernel_rfl) ?_
 delta vI nI
 have hl:=L_len a
 refine And.symm ⟨λ c1=>?_,λ c1=>?_⟩
 ·try simp only [nrm] at c1
  rw [dgt_zero ((nl_le' _ _).1 (by omega))];rfl
 try simp only [nrm] at c1
 refine ao (by omega) λ o2=>?_
 refine ao (by omega) λ o3=>?_
 exact vint (L_n a i)
def trimmed_con:Con:={ ι:=(List Nat),pre:=λ i=>i.length<=1048576/\∀ d ∈ i,d<BB,args:=λ i=>[.one (.sl 3 [.int] (rowsN i))],res:=λ i=>⟨false,[none],[.view 3 [.int] (L (limbs i))]⟩ }
theorem trimmed_ok:trimmed_con.Ok Tryz.prog 146:=by
 refine fok (X:=⟨tt,[],[],21,[]⟩) mixed tt_ok (CTok.nil _) Tryz.func146 (λ (i:(List Nat))=>[(2,.mk 2 (Nat) (λ x1=>{ tm:=[(0,.one (.one (.ext 1))),(3,.one (.one (.im (Value.int .i64 ((x1:Nat):Int)))))],en:=[(1,.view 3 [.int] (rowsN i) [])] }) (λ x1=>x1<=i.length/\limbs (i.take x1)=limbs i) (λ x1=>x1) (λ _=>[]))]) ?_
 intro (l:List Nat) hpre
 have hpre:l.length<=1048576/\∀ d ∈ l,d<BB:=hpre
 refine by_nf (q:=(∃ x1:Nat,(x1<=l.length/\limbs (l.take x1)=limbs l)/\((vI (nI ((rowsN l).length))=vI (nI x1))/\(rf (rowsN l))))/\∀ x1:Nat,(x1<=l.length/\limbs (l.take x1)=limbs l)->(((decide ((nI x1)>(0:Int)))=true->((0<=(wR ((nI x1)-(1:Int)))/\(wR ((nI x1)-(1:Int)))<((rowsN l).length:Int))/\(((wR ((nI x1)-(1:Int))).toNat<(rowsN l).length)/\(((((((rowsN l).getD ((wR ((nI x1)-(1:Int))).toNat) []).getD 0 (.int 0))).n == (0:Int))=true->(∃ y2:Nat,(y2<=l.length/\limbs (l.take y2)=limbs l)/\(y2<x1)/\((vI (wR ((nI x1)-(1:Int)))=vI (nI y2))/\(rf (rowsN l)))))/\((((((rowsN l).getD ((wR ((nI x1)-(1:Int))).toNat) []).getD 0 (.int 0))).n == (0:Int))=false->((Nat.beq 1 1=true)/\((0<=(0:Int))/\(((0:Int)<=(nI x1))/\(((nI x1)<=((rowsN l).length:Int))/\((((rowsN l).take x1)=L (limbs l))))))))))))/\((decide ((nI x1)>(0:Int)))=false->((Nat.beq 1 1=true)/\((0<=(0:Int))/\(((0:Int)<=(nI x1))/\(((nI x1)<=((rowsN l).length:Int))/\((((rowsN l).take x1)=L (limbs l)))))))))) (by kernel_rfl) ?_
 delta vI wR nI
 have hl:=rowsN_len l
 refine ⟨⟨l.length,by
  exact ⟨Nat.le_refl _,by rw [List.take_length]⟩,?_⟩,?_⟩
 ·refine ⟨?_,rfl⟩
  rw [hl]
 intro (k:Nat) hki1
 have hki1:k<=l.length/\limbs (l.take k)=limbs l:=hki1
 have hw:k≠0->IntKind.i64.wrap ((k:Int)-(1:Int))=((k-1:Nat):Int):=λ h=>by rw [wrap64 (by omega) (by omega)];omega
 refine And.symm ⟨λ c5=>?_,λ c5=>?_⟩
 ·try simp only [nrm] at c5
  refine ao (by rfl) λ o19=>?_
  refine ao (by omega) λ o20=>?_
  refine ao (by omega) λ o21=>?_
  refine ao (by omega) λ o22=>?_
  exact trim_end hpre.2 hki1.1 hki1.2 (.inl (by omega))
 try simp only [nrm] at c5
 refine ao (by omega) λ o6=>?_
 refine ao (by omega) λ o7=>?_
 refine And.symm ⟨λ c8=>?_,λ c8=>?_⟩
 ·try simp only [nrm] at c8
  rw [hw (by omega),Int.toNat_natCast,rowsN_n] at c8
  refine ao (by rfl) λ o14=>?_
  refine ao (by omega) λ o15=>?_
  refine ao (by omega) λ o16=>?_
  refine ao (by omega) λ o17=>?_
  exact trim_end hpre.2 hki1.1 hki1.2 (.inr (by exact_mod_cast c8))
 try simp only [nrm] at c8
 rw [hw (by omega),Int.toNat_natCast,rowsN_n] at c8
 refine ⟨k-1,by
  exact ⟨by omega,(trim_step (by omega) (by omega) (by exact_mod_cast c8)).trans hki1.2⟩,by
  omega,?_⟩
 refine ⟨?_,rfl⟩
 rw [hw (by omega)]
def natOf_con:Con:={ ι:=Nat,pre:=λ i=>i<=9223372036854775807,args:=λ i=>[.one (.im (.int .i64 ((i:Nat):Int)))],res:=λ i=>⟨false,[none],[.own 3 [.int] (L i)]⟩ }
theorem natOf_ok:natOf_con.Ok Tryz.prog 145:=by
 refine fok (X:=⟨tt,[],[],15,[]⟩) mixed tt_ok (CTok.nil _) Tryz.func145 (λ (i:Nat)=>[(2,.mk 2 (Nat×(List Nat)) (λ x1=>{ tm:=[(0,.one (.one (.im (Value.int .i64 ((x1.1:Nat):Int))))),(3,.one (.one (.ext 1)))],en:=[(1,.own 3 [.int] (rowsN x1.2))] }) (λ x1=>x1.2++dig x1.1=dig i/\x1.1<=i) (λ x1=>x1.1) (λ _=>[]))]) ?_
 intro (n:Nat) hpre
 have hpre:n<=9223372036854775807:=hpre
 refine by_nf (q:=(∃ x1:Nat×(List Nat),(x1.2++dig x1.1=dig n/\x1.1<=n)/\((vI (nI n)=vI (nI x1.1))/\(([]:List (List Dat))=(rowsN x1.2))))/\∀ x1:Nat×(List Nat),(x1.2++dig x1.1=dig n/\x1.1<=n)->(((decide ((nI x1.1)>(0:Int)))=true->(((1000000000:Int)≠0)/\(((rowsN x1.2).length+([[Dat.int (Int.tmod (nI x1.1) (1000000000:Int))]]:List (List Dat)).length<=1073741824)/\(((1000000000:Int)≠0)/\(∃ y2:Nat×(List Nat),(y2.2++dig y2.1=dig n/\y2.1<=n)/\(y2.1<x1.1)/\((vI (wR (Int.tdiv (nI x1.1) (1000000000:Int)))=vI (nI y2.1))/\(((rowsN x1.2)++([[Dat.int (Int.tmod (nI x1.1) (1000000000:Int))]]:List (List Dat)))=(rowsN y2.2))))))))/\((decide ((nI x1.1)>(0:Int)))=false->(((rowsN x1.2)=L n))))) (by kernel_rfl) ?_
 delta vI wR nI
 refine ⟨⟨(n,[]),by
  exact ⟨rfl,Nat.le_refl _⟩,?_⟩,?_⟩
 ·refine ⟨rfl,?_⟩
  rfl
 rintro ⟨m,o⟩ hki1
 have hki1:o++dig m=dig n/\m<=n:=hki1
 have hol:o.length<=64:=by have h1:=congrArg List.length hki1.1;rw [List.length_append] at h1;have h2:nl n<=64:=(nl_le' _ _).2 (Nat.lt_of_le_of_lt hpre (by decide));unfold nl at h2;omega
 have hrl:=rowsN_len o
 refine And.symm ⟨λ c5=>?_,λ c5=>?_⟩
 ·replace c5:(decide (((m:Nat):Int)>(0:Int)))=false:=c5
  try simp only [nrm] at c5
  show (rowsN o)=L n
  have hm:m=0:=by omega
  rw [← L_of_dig (by rw [← hki1.1,hm,dig_zero,List.append_nil])]
 replace c5:(decide (((m:Nat):Int)>(0:Int)))=true:=c5
 try simp only [nrm] at c5
 refine ao (by omega) λ o6=>?_
 refine ao (a:=(rowsN o).length+([[Dat.int (Int.tmod ((m:Nat):Int) (1000000000:Int))]]:List (List Dat)).length<=1073741824) (by simp only [List.length_cons,List.length_nil];omega) λ o7=>?_
 refine ao (by omega) λ o8=>?_
 refine ⟨(m/BB,o++[m%BB]),by
  refine ⟨?_,Nat.le_trans (Nat.div_le_self _ _) hki1.2⟩;rw [← hki1.1,dig_pos (n:=m) (by omega),List.append_assoc];rfl,by
  exact Nat.div_lt_self (by omega) (by decide),?_⟩
 refine ⟨?_,?_⟩
 ·rw [tdivB,wrapN (Nat.le_trans (Nat.div_le_self _ _) (by omega))]
 exact rowsN_snoc _ _
end Go.Proofs.YtlejeadlmpkffaaGreat
